/- A part of the proof of FnExactReadConf: see the text YtlcfolgfmlgncaaDoorLawFnExactReadConf for what is proved and its conditions. Conditions here: those in each line. -/
import Derived.Test.YtlcfolgfmlgncaaDoorA4
import Derived.KernelRfl
import Derived.Lib.AtoiAllCases
import Derived.Lib.SplitLaws
namespace Go.Proofs.YtlcfolgfmlgncaaDoor.Ev
open Go Go.Proofs
set_option linter.unusedVariables false
set_option linter.unusedSimpArgs false
theorem Zmu {n:Int} (h1:-9223372036854775808≤n) (h2:n < 9223372036854775808):IntKind.i64.wrap n=n:=w64_of h1 h2
theorem Jr {a b:Int} (h1:-9223372036854775808≤a+b) (h2:a+b < 9223372036854775808):addW a b=a+b:=Zmu h1 h2
theorem K4 {a b:Int} (h1:-9223372036854775808≤a*b) (h2:a*b < 9223372036854775808):mulW a b=a*b:=Zmu h1 h2
theorem Y3 {k:Nat} (h:k < 4611686018427387904):addW (k:Int) 1=((k+1:Nat):Int):=by rw[Jr (by omega) (by omega)];rfl
section
variable {α β σ ρ:Type}
theorem Zq {xs:List α} {k:Nat} (h:k < xs.length):idx xs (k:Int)=some xs[k]:=by
 simp[idx,h]
theorem W4:4611686018427387904 < FU:=by decide
def runL (step:α→σ→Option (σ ⊕ ρ)) (fin:σ→Option ρ):List α→σ→Option ρ
 | [],s=>fin s
 | a::l,s=>(step a s).bind fun r=>match r with|.inl s'=>runL step fin l s'|.inr x=>some x
def goL (k:σ→Option ρ):σ ⊕ ρ→Option ρ
 | .inl s=>k s
 | .inr x=>some x
theorem Zl1 (xs:List α) (hl:xs.length < 4611686018427387904) (step:α→σ→Option (σ ⊕ ρ)) (fin:σ→Option ρ) (L:Nat→σ→Int→Option ρ)
  (hL:∀m s i,L (m+1) s i=if decide (i < (xs.length:Int))=true then (idx xs i).bind fun a=>(step a s).bind (goL fun s'=>L m s' (addW i 1)) else fin s):
  ∀(m k:Nat) (s:σ),k≤xs.length→xs.length - k < m→L m s k=runL step fin (xs.drop k) s:=by
 intro m
 induction m with
 | zero=>intro k s _ h;omega
 | succ m ih=>
  intro k s hk hm
  rw[hL]
  by_cases hc:k < xs.length
  ·have h1:decide ((k:Int) < (xs.length:Int))=true:=by simpa using hc
   rw[if_pos h1,Zq hc,Option.bind_some,List.drop_eq_getElem_cons hc]
   simp only[runL]
   congr 1
   funext r
   cases r with
   | inl s'=>
    simp only[goL]
    rw[Y3 (by omega)]
    exact ih (k+1) s' (by omega) (by omega)
   | inr x=>rfl
  ·have h1:¬decide ((k:Int) < (xs.length:Int))=true:=by simpa using hc
   rw[if_neg h1,List.drop_eq_nil_of_le (by omega)]
   rfl
theorem Zie (xs:List α) (hl:xs.length < 4611686018427387904) (step:α→σ→Option (σ ⊕ ρ)) (fin:σ→Option ρ) (L:Nat→σ→Int→Option ρ)
  (hL:∀m s i,L (m+1) s i=if decide (i < (xs.length:Int))=true then (idx xs i).bind fun a=>(step a s).bind (goL fun s'=>L m s' (addW i 1)) else fin s) (s:σ):
  L FU s 0=runL step fin xs s:=by
 have:=Zl1 xs hl step fin L hL FU 0 s (Nat.zero_le _) (by have:=W4;omega)
 simpa using this
def Zfh (k:Option ρ):Option ρ→Option ρ
 | none=>k
 | some x=>some x
theorem Znt (xs:List α) (ys:List β) (hl:xs.length < 4611686018427387904) (hxy:xs.length=ys.length) (e:α→β→Option (Option ρ)) (fin:ρ) (L:Nat→Int→Option ρ)
  (hL:∀m i,L (m+1) i=if decide (i < (xs.length:Int))=true then (idx xs i).bind fun a=>(idx ys i).bind fun b=>(e a b).bind (Zfh (L m (addW i 1))) else some fin)
  (q:α→β→Bool) (out:ρ) (hq:∀a b,a∈xs→b∈ys→e a b=some (if q a b then none else some out)):∀(m k:Nat),k≤xs.length→xs.length - k < m→L m k=some (if ((xs.drop k).zip (ys.drop k)).all (fun p=>q p.1 p.2) then fin else out):=by
 intro m
 induction m with
 | zero=>intro k _ h;omega
 | succ m ih=>
  intro k hk hm
  rw[hL]
  by_cases hc:k < xs.length
  ·have h1:decide ((k:Int) < (xs.length:Int))=true:=by simpa using hc
   have hc2:k < ys.length:=by omega
   rw[if_pos h1,Zq hc,Option.bind_some,Zq hc2,Option.bind_some,hq _ _ (List.getElem_mem hc) (List.getElem_mem hc2),List.drop_eq_getElem_cons hc,List.drop_eq_getElem_cons hc2]
   simp only[Option.bind_some,List.zip_cons_cons,List.all_cons]
   by_cases hb:q xs[k] ys[k]=true
   ·rw[if_pos hb,Y3 (by omega)]
    simp only[Zfh,hb,Bool.true_and]
    exact ih (k+1) (by omega) (by omega)
   ·rw[if_neg hb]
    simp[Zfh,hb]
  ·have h1:¬decide ((k:Int) < (xs.length:Int))=true:=by simpa using hc
   rw[if_neg h1,List.drop_eq_nil_of_le (by omega)]
   rfl
theorem Zko [DecidableEq α]:∀{xs ys:List α},xs.length=ys.length→((xs.zip ys).all fun p=>decide (p.1=p.2))=decide (xs=ys):=by
 intro xs
 induction xs with
 | nil=>intro ys h;cases ys with
  | nil=>rfl
  | cons y ys=>simp at h
 | cons x xs ih=>intro ys h;cases ys with
  | nil=>simp at h
  | cons y ys=>
   simp only[List.zip_cons_cons,List.all_cons,ih (by simpa using h)]
   by_cases h1:x=y<;>by_cases h2:xs=ys<;>simp[h1,h2]
theorem Wf {sz:Nat} {xs ys:List α} (h1:(xs.length+ys.length)*sz≤140737488355328) (h2:xs.length+ys.length≤9223372036854775807):appI sz xs ys=some (xs++ys):=by
 unfold appI
 rw[if_pos ⟨h1,h2⟩]
end
section
variable {α:Type}
end
theorem Zbl {σ ρ:Type} {n:Nat} (hn:n < 4611686018427387904) (st:Nat→σ) {B:(σ→Int→ρ)→σ→Int→ρ} {L:Nat→σ→Int→ρ} (hL:∀m s i,L (m+1) s i=B (L m) s i)
  (hs:∀k,k < n→∀κ,B κ (st k) (k:Int)=κ (st (k+1)) (addW (k:Int) 1)) {r:ρ} (hf:∀κ,B κ (st n) (n:Int)=r):L FU (st 0) 0=r:=by
 have key:∀(m k:Nat),k≤n→n - k < m→L m (st k) (k:Int)=r:=by
  intro m
  induction m with
  | zero=>intro k _ h;omega
  | succ m ih=>
   intro k hk hm
   rw[hL]
   by_cases hc:k < n
   ·rw[hs k hc,Y3 (by omega)]
    exact ih (k+1) (by omega) (by omega)
   ·have:k=n:=by omega
    subst this
    exact hf _
 have:=key FU 0 (Nat.zero_le _) (by have:=W4;omega)
 simpa using this
def L8 (b:ByteArray):List UInt8:=b.data.toList
theorem Zbd (a b:ByteArray):L8 (a++b)=L8 a++L8 b:=by simp[L8]
theorem Zbj {a b:ByteArray} (h:L8 a=L8 b):a=b:=by
 cases a;cases b
 simp only[L8] at h
 rw[Array.toList_inj.1 h]
theorem Yp (a:ByteArray):a.size=(L8 a).length:=by show a.data.size=a.data.toList.length;rw[Array.length_toList]
theorem L8_mk (l:List UInt8):L8 ⟨l.toArray⟩=l:=rfl
theorem Qi (l:List UInt8):L8 (strL l)=l:=rfl
theorem Zny:L8 ByteArray.empty=[]:=rfl
theorem Zdp {a b:ByteArray} (h:a.size+b.size < 9223372036854775808):catI a b=some ():=by
 unfold catI
 rw[if_neg (by simp[IntKind.max,IntKind.signed,IntKind.bits];omega)]
theorem Ky (a b:ByteArray):(a++b).size=a.size+b.size:=by rw[Yp,Zbd,List.length_append,Yp,Yp]
theorem Xz (l:List UInt8):(strL l).size=l.length:=by rw[Yp,Qi]
theorem Zaa:∀(k u:Nat),u < 10^(k+1)→(Lib.decDigits u).length≤k+1:=by
 intro k
 induction k with
 | zero=>
  intro u hu
  rw[Lib.decDigits,dif_pos (by omega)];simp
 | succ k ih=>
  intro u hu
  rw[Lib.decDigits]
  split
  ·simp
  ·rw[List.length_append]
   have:=ih (u / 10) (by rw[Nat.pow_succ] at hu;omega)
   simp;omega
def dgL (u:Nat):List UInt8:=if u=0 then [] else Lib.decDigits u
theorem Zm2 {u:Nat} (h:u≠0):dgL u=dgL (u / 10)++[UInt8.ofNat (48+u % 10)]:=by
 unfold dgL
 rw[if_neg h,Lib.decDigits]
 split
 ·rename_i h1
  rw[if_pos (by omega),Nat.mod_eq_of_lt h1];rfl
 ·rw[if_neg (by omega)]
def InR (x:Int):Prop:=-9223372036854775808≤x∧x≤9223372036854775807
def decB (x:Int):ByteArray:=⟨(Lib.itoa x).toArray⟩
theorem Yi (x:Int):L8 (decB x)=Lib.itoa x:=rfl
theorem Qr {x:Int} (h:InR x):(Lib.itoa x).length≤20:=by
 obtain⟨h1,h2⟩:=h
 unfold Lib.itoa
 split
 ·have:=Zaa 18 x.natAbs (by omega)
  simp;omega
 ·have:=Zaa 18 x.toNat (by omega)
  omega
theorem X0 {x:Int} (h:InR x):(decB x).size≤20:=by rw[Yp,Yi];exact Qr h
theorem Zoo {x:Int} (h:x≠0):Lib.itoa x=(if x < 0 then [45] else [])++dgL x.natAbs:=by
 unfold Lib.itoa dgL
 have hn:¬x.natAbs=0:=by omega
 by_cases hx:x < 0
 ·rw[if_pos hx,if_pos hx,if_neg hn];rfl
 ·have:x.toNat=x.natAbs:=by omega
  rw[if_neg hx,if_neg hx,if_neg hn,this];rfl
theorem Zmr:Lib.itoa 0=[48]:=by
 unfold Lib.itoa
 rw[if_neg (by omega),show (0:Int).toNat=0 from rfl,Lib.decDigits,dif_pos (by omega)];rfl
theorem digB {d:Int} (h0:0≤d) (h1:d < 10):strB [w8 (addW 48 d)]=strL [UInt8.ofNat (48+d.toNat)]:=by
 have:w8 (addW 48 d)=((48+d.toNat:Nat):Int):=by
  simp[w8,addW,IntKind.wrap,IntKind.bits,IntKind.signed];omega
 rw[this]
 rfl
theorem Zk5 (x0:Int):∀(m:Nat) (v0:Int) (v1:ByteArray),v0.natAbs < m→InR v0→(v1.size+v0.natAbs < 9223372036854775807∨v1.size=0)→
  ∃r,Ww x0 m v0 v1=some r∧L8 r=(if x0 < 0 then [45] else [])++dgL v0.natAbs++L8 v1:=by
 intro m
 induction m with
 | zero=>intro v0 v1 h;omega
 | succ m ih=>
  intro v0 v1 hm hr hs
  show ∃r,J6 x0 (Ww x0 m) v0 v1=some r∧_
  unfold J6
  obtain⟨hr1,hr2⟩:=hr
  by_cases h0:v0=0
  ·subst h0
   rw[if_neg (by simp)]
   by_cases hx:x0 < 0
   ·rw[if_pos (by simpa using hx),Zdp (by
     have hz:(0:Int).natAbs=0:=rfl
     rw[hz] at hs
     rw[Xz]
     show 1+v1.size < _
     omega),Option.bind_some]
    exact⟨_,rfl,by rw[if_pos hx,Zbd];rfl⟩
   ·rw[if_neg (by simpa using hx)]
    exact⟨_,rfl,by rw[if_neg hx];rfl⟩
  ·rw[if_pos (by simpa using h0)]
   have hq:quoW v0 10=v0.tdiv 10:=by
    unfold quoW
    have:(v0.tdiv 10).natAbs=v0.natAbs / 10:=by rw[Int.natAbs_tdiv];rfl
    simp[IntKind.wrap,IntKind.bits,IntKind.signed];omega
   have hqa:(v0.tdiv 10).natAbs=v0.natAbs / 10:=by rw[Int.natAbs_tdiv];rfl
   have hra:(v0.tmod 10).natAbs=v0.natAbs % 10:=by rw[Int.natAbs_tmod];rfl
   have step:∀d:Int,0≤d→d.toNat=v0.natAbs % 10→∃r,Qx x0 (Ww x0 m) v0 v1 d=some r∧L8 r=(if x0 < 0 then [45] else [])++dgL v0.natAbs++L8 v1:=fun d hd0 hd=>by
    unfold Qx
    rw[digB hd0 (by omega),Zdp (by rw[Xz];simp;omega),Option.bind_some,hq]
    obtain⟨r,h1,h2⟩:=ih (v0.tdiv 10) (strL [UInt8.ofNat (48+d.toNat)]++v1) (by omega) (by constructor<;>omega) (.inl (by rw[Ky,Xz,hqa];simp;omega))
    refine⟨r,h1,?_⟩
    rw[h2,hqa,Zbd,Qi,Zm2 (u:=v0.natAbs) (by omega),hd]
    simp
   unfold remW at*
   by_cases hn:v0.tmod 10 < 0
   ·rw[if_pos (by simpa using hn)]
    have hneg:negW (v0.tmod 10)=-(v0.tmod 10):=by
     simp[negW,IntKind.wrap,IntKind.bits,IntKind.signed];omega
    rw[hneg]
    exact step _ (by omega) (by omega)
   ·rw[if_neg (by simpa using hn)]
    exact step _ (by omega) (by omega)
theorem Wa {x:Int} (h:InR x):Xv x=some (decB x):=by
 unfold Xv
 by_cases h0:x=0
 ·subst h0
  rw[if_pos (by simp)]
  exact congrArg some (Zbj (by rw[Yi,Zmr,Qi]))
 ·rw[if_neg (by simpa using h0)]
  obtain⟨r,h1,h2⟩:=Zk5 x FU x ByteArray.empty (by obtain⟨h1,h2⟩:=h;unfold FU;omega) h (.inr rfl)
  rw[h1]
  exact congrArg some (Zbj (by rw[h2,Yi,Zoo h0,Zny,List.append_nil]))
theorem Zhl {x:Int} (h:InR x):Za7 x=some (decB x):=by
 unfold Za7 Ql
 rw[if_pos (show _∧_ from h)]
 rfl
theorem Zj7 {ws:List ByteArray} {sep:ByteArray} (h1:ws.length≤1000000000) (h2:(Lib.join (ws.map L8) (L8 sep)).length≤140737488355328):Xn ws sep=some ⟨(Lib.join (ws.map L8) (L8 sep)).toArray⟩:=by
 unfold Xn
 rw[if_pos ⟨by omega,h2⟩]
 rfl
def Zw (c:UInt8):List UInt8→List (List UInt8)
 | []=>[[]]
 | x::l=>if x=c then []::Zw c l else match Zw c l with
  | []=>[[x]]
  | w::r=>(x::w)::r
theorem Zgl (c:UInt8) (l:List UInt8):Zw c l≠[]:=by
 cases l with
 | nil=>simp[Zw]
 | cons x l=>
  unfold Zw
  split
  ·simp
  ·split<;>simp
theorem Jm {c:UInt8}:∀{w:List UInt8},(∀x∈w,x≠c)→∀l,Zw c (w++c::l)=w::Zw c l:=by
 intro w
 induction w with
 | nil=>intro _ l;simp[Zw]
 | cons x w ih=>
  intro h l
  rw[List.cons_append,Zw,if_neg (h x List.mem_cons_self),ih (fun y hy=>h y (List.mem_cons_of_mem _ hy)) l]
theorem K8 {c:UInt8}:∀{w:List UInt8},(∀x∈w,x≠c)→Zw c w=[w]:=by
 intro w
 induction w with
 | nil=>intro _;rfl
 | cons x w ih=>
  intro h
  rw[Zw,if_neg (h x List.mem_cons_self),ih (fun y hy=>h y (List.mem_cons_of_mem _ hy))]
theorem Zjh {c:UInt8}:∀{ws:List (List UInt8)},ws≠[]→(∀w∈ws,∀x∈w,x≠c)→Zw c (Lib.join ws [c])=ws:=by
 intro ws
 induction ws with
 | nil=>intro h;exact absurd rfl h
 | cons w r ih=>
  intro _ h
  have hw:=h w List.mem_cons_self
  cases r with
  | nil=>rw[Lib.join_one,K8 hw]
  | cons v r=>
   have e:Lib.join (w::v::r) [c]=w++c::Lib.join (v::r) [c]:=by
    rw[Lib.join_cons,Lib.join_cons]
    simp[Lib.joinTail]
   rw[e,Jm hw,ih (by simp) fun u hu=>h u (List.mem_cons_of_mem _ hu)]
theorem Zmp (c:UInt8):∀l:List UInt8,(Zw c l).length≤l.length+1:=by
 intro l
 induction l with
 | nil=>simp[Zw]
 | cons x l ih=>
  unfold Zw
  split
  ·simp;omega
  ·split
   ·simp
   ·rename_i w r h
    rw[h] at ih
    simp at ih ⊢;omega
theorem Zla {c:UInt8}:∀{l w:List UInt8},w∈Zw c l→w.length≤l.length:=by
 intro l
 induction l with
 | nil=>intro w h;simp[Zw] at h;simp[h]
 | cons x l ih=>
  intro w h
  unfold Zw at h
  split at h
  ·rcases List.mem_cons.1 h with rfl|h
   ·simp
   ·have:=ih h;simp;omega
  ·split at h
   ·rename_i hs;exact absurd hs (Zgl c l)
   ·rename_i v r hs
    rcases List.mem_cons.1 h with rfl|h
    ·have:=ih (w:=v) (by rw[hs];exact List.mem_cons_self);simp;omega
    ·have:=ih (w:=w) (by rw[hs];exact List.mem_cons_of_mem _ h);simp;omega
theorem Zli (c:UInt8):∀s:List UInt8,Lib.splitK [c] 0 (s.count c) s=Zw c s:=by
 intro s
 induction s with
 | nil=>rfl
 | cons b l ih=>
  by_cases hb:b=c
  ·subst hb
   rw[List.count_cons_self,Lib.splitK]
   have hi:Lib.index (b::l) [b]=0:=by
    unfold Lib.index
    rw[if_pos (by simp[List.isPrefixOf])]
   rw[hi,if_neg (by decide),Zw,if_pos rfl]
   show _::Lib.splitK [b] 0 (l.count b) l=_
   rw[ih];rfl
  ·have hc:(b::l).count c=l.count c:=List.count_cons_of_ne hb
   have hi:Lib.index (b::l) [c]=if (Lib.index l [c] == -1)=true then -1 else Lib.index l [c]+1:=by
    rw[Lib.index,if_neg (by simp[List.isPrefixOf];exact fun h=>hb h.symm)]
   rw[hc,Zw,if_neg hb,←ih]
   cases hk:l.count c with
   | zero=>rfl
   | succ k=>
    have hne:¬(Lib.index l [c] == -1)=true:=fun h=>by
     have h0:Lib.count l [c]=0:=Lib.count_miss (beq_iff_eq.1 h)
     rw[Lib.count_one] at h0
     omega
    have hg:=Lib.index_ge l [c]
    have hne2:Lib.index l [c]≠-1:=fun h=>hne (beq_iff_eq.2 h)
    rw[if_neg hne] at hi
    rw[Lib.splitK,Lib.splitK,hi,if_neg hne,if_neg (by rw[beq_iff_eq];omega)]
    have e1:(Lib.index l [c]+1).toNat=(Lib.index l [c]).toNat+1:=by omega
    rw[e1]
    rfl
theorem Zb0 {x:ByteArray} (c:UInt8) (h:x.size < 4294967281):∃ws,Xd x (strL [c])=some ws∧ws.map L8=Zw c (L8 x):=by
 unfold Xd
 rw[if_pos ⟨h,by rw[Xz];simp⟩]
 refine⟨_,rfl,?_⟩
 have:=Lib.splitB_data (strL [c]) 0 (Lib.countB x (strL [c])) x
 have e:Lib.countB x (strL [c])=(L8 x).count c:=Lib.count_one c (L8 x)
 rw[e] at this ⊢
 exact this.trans (Zli c (L8 x))
theorem Jq {x:ByteArray} {k:Nat} (h:k < (L8 x).length):atS x (k:Int)=some ((L8 x)[k].toNat:Int):=by
 have h2:k < x.size:=by rw[Yp];exact h
 unfold atS
 rw[if_pos (by omega),Int.toNat_natCast]
 have:x[k]?=some (L8 x)[k]:=by
  rw[getElem?_pos x k h2]
  rfl
 rw[this];rfl
theorem Zih {x:ByteArray} {a b:Nat} (h1:a≤b) (h2:b≤(L8 x).length):∃y,subS x (a:Int) (b:Int)=some y∧L8 y=((L8 x).drop a).take (b - a):=by
 unfold subS
 rw[if_pos ⟨by omega,by omega,by rw[Yp,Int.toNat_natCast];exact h2⟩]
 exact⟨_,rfl,Lib.extract_data x _ _⟩
theorem Zbw {x:ByteArray} (c:UInt8) (h:x.size < 4294967281):∃ws,X6 x (c.toNat:Int)=some ws∧ws.map L8=Zw c (L8 x):=by
 rw[Yp] at h
 have key:∀(m i a:Nat) (out:List ByteArray),i≤(L8 x).length→(L8 x).length - i < m→a≤i→out.length≤a→(∀y∈((L8 x).drop a).take (i - a),y≠c)→
   ∃ws,Wp x (c.toNat:Int) m out (a:Int) (i:Int)=some ws∧ws.map L8=out.map L8++Zw c ((L8 x).drop a):=by
  intro m
  induction m with
  | zero=>intro i a out _ hm;omega
  | succ m ih=>
   intro i a out hi hm ha ho hn
   show ∃ws,Kw x (c.toNat:Int) (Wp x (c.toNat:Int) m) out (a:Int) (i:Int)=some ws∧_
   unfold Kw
   by_cases hc:i < (L8 x).length
   ·rw[if_pos (by rw[Yp];simpa using hc),Jq hc,Option.bind_some]
    have hdrop:(L8 x).drop a=((L8 x).drop a).take (i - a)++(L8 x)[i]::(L8 x).drop (i+1):=by
     have e:=(List.take_append_drop (i - a) ((L8 x).drop a)).symm
     rw[List.drop_drop,show a+(i - a)=i by omega,List.drop_eq_getElem_cons hc] at e
     exact e
    by_cases hx:(L8 x)[i]=c
    ·obtain⟨y,hy1,hy2⟩:=Zih (x:=x) ha hi
     rw[if_pos (by rw[hx];simp),hy1,Option.bind_some,Wf (by simp;omega) (by simp;omega),Option.bind_some,Y3 (by omega)]
     obtain⟨ws,h1,h2⟩:=ih (i+1) (i+1) (out++[y]) (by omega) (by omega) (by omega) (by simp;omega) (by simp)
     refine⟨ws,h1,?_⟩
     rw[hx] at hdrop
     rw[h2,hdrop,Jm hn,List.map_append,List.append_assoc,List.map_cons,List.map_nil,hy2]
     rfl
    ·rw[if_neg (by
      rw[decide_eq_true_eq]
      intro he
      exact hx (UInt8.toNat_inj.1 (by omega))),Y3 (by omega)]
     refine ih (i+1) a out (by omega) (by omega) (by omega) ho fun y hy=>?_
     rw[show i+1 - a=(i - a)+1 by omega,List.take_add_one] at hy
     rcases List.mem_append.1 hy with hy|hy
     ·exact hn y hy
     ·rw[List.getElem?_drop,show a+(i - a)=i by omega,List.getElem?_eq_getElem hc] at hy
      simp at hy
      rw[hy];exact hx
   ·have hil:i=(L8 x).length:=by omega
    obtain⟨y,hy1,hy2⟩:=Zih (x:=x) (a:=a) (b:=(L8 x).length) (by omega) (Nat.le_refl _)
    rw[if_neg (by rw[Yp];simpa using hc),show ((x.size:Nat):Int)=((L8 x).length:Int) by rw[Yp],hy1,Option.bind_some,Wf (by simp;omega) (by simp;omega),Option.bind_some]
    refine⟨_,rfl,?_⟩
    have ht:((L8 x).drop a).take ((L8 x).length - a)=(L8 x).drop a:=by rw[List.take_of_length_le (by simp)]
    rw[hil,ht] at hn
    rw[List.map_append,List.map_cons,List.map_nil,hy2,ht,K8 hn]
 obtain⟨ws,h1,h2⟩:=key FU 0 0 [] (Nat.zero_le _) (by have:=W4;omega) (Nat.le_refl _) (Nat.le_refl _) (by simp)
 exact⟨ws,h1,by simpa using h2⟩
def isDg (c:UInt8):Prop:=48≤c.toNat∧c.toNat≤57
instance (c:UInt8):Decidable (isDg c):=inferInstanceAs (Decidable (_∧_))
theorem Jo {d:Nat} (h:d < 10):(UInt8.ofNat (48+d)).toNat=48+d:=by
 rw[UInt8.toNat_ofNat'];omega
theorem Zhj:∀(k u:Nat),u < 10^(k+1)→∀c∈Lib.decDigits u,isDg c:=by
 intro k
 induction k with
 | zero=>
  intro u hu c hc
  rw[Lib.decDigits,dif_pos (by omega)] at hc
  rw[List.mem_singleton] at hc;subst hc
  have:=Jo (d:=u) (by omega)
  unfold isDg;omega
 | succ k ih=>
  intro u hu c hc
  rw[Lib.decDigits] at hc
  split at hc
  ·rw[List.mem_singleton] at hc;subst hc
   have:=Jo (d:=u) (by omega)
   unfold isDg;omega
  ·rcases List.mem_append.1 hc with hc|hc
   ·exact ih (u / 10) (by rw[Nat.pow_succ] at hu;omega) c hc
   ·rw[List.mem_singleton] at hc;subst hc
    have:=Jo (d:=u % 10) (by omega)
    unfold isDg;omega
theorem Zg6 (u:Nat):u < 10^(u+1):=by
 have h1:u < 2^u:=Nat.lt_two_pow_self
 have h2:2^u≤10^u:=Nat.pow_le_pow_left (by omega) u
 have h3:10^u≤10^(u+1):=Nat.pow_le_pow_right (by omega) (by omega)
 omega
theorem Q7 {u:Nat} {c:UInt8} (h:c∈Lib.decDigits u):isDg c:=Zhj u u (Zg6 u) c h
theorem Zdj (u:Nat):Lib.decDigits u≠[]:=by
 rw[Lib.decDigits];split<;>simp
theorem Zph {v:Int} {c:UInt8} (h:c∈Lib.itoa v):c=45∨isDg c:=by
 unfold Lib.itoa at h
 split at h
 ·rcases List.mem_cons.1 h with h|h
  ·exact .inl h
  ·exact .inr (Q7 h)
 ·exact .inr (Q7 h)
theorem K2 {v:Int} {c b:UInt8} (h:c∈Lib.itoa v) (hb:b.toNat=32∨b.toNat=58∨b.toNat=10):c≠b:=by
 rintro rfl
 rcases Zph h with rfl|h
 ·rcases hb with hb|hb|hb<;>cases hb
 ·unfold isDg at h;omega
theorem Zj5 (v:Int):Lib.itoa v≠[]:=by
 unfold Lib.itoa
 split
 ·simp
 ·exact Zdj _
theorem Zil {v:Int}:∃c l,Lib.itoa v=c::l:=by
 cases h:Lib.itoa v with
 | nil=>exact absurd h (Zj5 v)
 | cons c l=>exact⟨c,l,rfl⟩
def dgF (a:Nat) (c:UInt8):Nat:=if isDg c then a*10+(c.toNat - 48) else a
theorem Ziz:∀(k u:Nat),u < 10^(k+1)→(Lib.decDigits u).foldl dgF 0=u:=by
 intro k
 induction k with
 | zero=>
  intro u hu
  have e:=Jo (d:=u) (by omega)
  rw[Lib.decDigits,dif_pos (by omega)]
  simp only[List.foldl_cons,List.foldl_nil,dgF]
  rw[if_pos (by unfold isDg;omega)];omega
 | succ k ih=>
  intro u hu
  rw[Lib.decDigits]
  split
  ·have e:=Jo (d:=u) (by omega)
   simp only[List.foldl_cons,List.foldl_nil,dgF]
   rw[if_pos (by unfold isDg;omega)];omega
  ·have e:=Jo (d:=u % 10) (by omega)
   rw[List.foldl_append,ih (u / 10) (by rw[Nat.pow_succ] at hu;omega)]
   simp only[List.foldl_cons,List.foldl_nil,dgF]
   rw[if_pos (by unfold isDg;omega)];omega
theorem Zdw (u:Nat):(Lib.decDigits u).foldl dgF 0=u:=Ziz u u (Zg6 u)
theorem Zmc (v:Int):(Lib.itoa v).foldl dgF 0=v.natAbs:=by
 unfold Lib.itoa
 split
 ·rw[List.foldl_cons]
  show (Lib.decDigits v.natAbs).foldl dgF (if isDg 45 then _ else 0)=_
  rw[if_neg (by unfold isDg;decide),Zdw]
 ·rw[Zdw];omega
theorem Zl3:∀(l1 l2:List UInt8) (a:Nat),Lib.parseUint10 a (l1++l2)=match Lib.parseUint10 a l1 with|.ok u=>Lib.parseUint10 u l2|Lib.NumEnd.syntax=>Lib.NumEnd.syntax|.range=>.range:=by
 intro l1
 induction l1 with
 | nil=>intro l2 a;rfl
 | cons c r ih=>
  intro l2 a
  simp only[List.cons_append,Lib.parseUint10]
  split
  ·split
   ·rfl
   ·split
    ·rfl
    ·exact ih l2 _
  ·rfl
theorem Zhr:∀(k u:Nat),u < 10^(k+1)→u < 18446744073709551616→Lib.parseUint10 0 (Lib.decDigits u)=.ok u:=by
 intro k
 induction k with
 | zero=>
  intro u hu hb
  have e:=Jo (d:=u) (by omega)
  rw[Lib.decDigits,dif_pos (by omega)]
  simp only[Lib.parseUint10]
  rw[if_pos (by omega),if_neg (by omega),if_neg (by omega)]
  congr 1;omega
 | succ k ih=>
  intro u hu hb
  rw[Lib.decDigits]
  split
  ·have e:=Jo (d:=u) (by omega)
   simp only[Lib.parseUint10]
   rw[if_pos (by omega),if_neg (by omega),if_neg (by omega)]
   congr 1;omega
  ·have e:=Jo (d:=u % 10) (by omega)
   rw[Zl3,ih (u / 10) (by rw[Nat.pow_succ] at hu;omega) (by omega)]
   simp only[Lib.parseUint10]
   rw[if_pos (by omega),if_neg (by omega),if_neg (by omega)]
   congr 1;omega
theorem Zlp {v:Int} (h:InR v):Lib.atoiAll (Lib.itoa v)=.ok v:=by
 obtain⟨h1,h2⟩:=h
 have hp:∀u:Nat,u < 18446744073709551616→Lib.parseMag (Lib.decDigits u)=.ok u:=fun u hu=>by
  unfold Lib.parseMag
  rw[if_neg (Zdj u),Zhr u u (Zg6 u) hu]
 unfold Lib.itoa
 split
 ·rename_i hn
  rw[Lib.atoiAll_minus,hp _ (by omega)]
  unfold Lib.signed
  simp only
  rw[if_neg (by omega)]
  congr 1;omega
 ·rename_i hn
  obtain⟨c,l,hl⟩:∃c l,Lib.decDigits v.toNat=c::l:=by
   cases h:Lib.decDigits v.toNat with
   | nil=>exact absurd h (Zdj _)
   | cons c l=>exact⟨c,l,rfl⟩
  have hd:isDg c:=Q7 (u:=v.toNat) (by rw[hl];exact List.mem_cons_self)
  unfold isDg at hd
  rw[hl,Lib.atoiAll_plain c l (by omega) (by omega),←hl,hp _ (by omega)]
  unfold Lib.signless
  simp only
  rw[if_neg (by omega)]
  congr 1;omega
theorem Zal {k u:Nat} (h:u < 10^(k+1)):(Lib.decDigits u).length≤k+1:=Zaa k u h
theorem Zlb {v d:Int} (h:-1000000000000000000 < v∧v < 1000000000000000000) (hd:18≤d):Wj (decB v) d=some (v,true):=by
 have hr:InR v:=⟨by omega,by omega⟩
 have hz:=X0 hr
 unfold Wj
 have e:(decB v).data.toList=Lib.itoa v:=rfl
 rw[if_pos (by omega),e,Zlp hr]
 simp only
 rw[if_pos]
 refine⟨trivial,?_⟩
 unfold Lib.trimPrefix
 by_cases hn:v < 0
 ·have e2:Lib.itoa v=45::Lib.decDigits v.natAbs:=by unfold Lib.itoa;rw[if_pos hn]
  have:=Zal (k:=17) (u:=v.natAbs) (by omega)
  rw[e2,if_pos (by simp[Lib.hasPrefix,List.isPrefixOf])]
  simp;omega
 ·have e2:Lib.itoa v=Lib.decDigits v.toNat:=by unfold Lib.itoa;rw[if_neg hn]
  have:=Zal (k:=17) (u:=v.toNat) (by omega)
  rw[e2]
  split
  ·simp;omega
  ·omega
theorem Zhe {x:ByteArray} {d:Int} (h:x.size≤281474976710656):∃r,Wj x d=some r∧(r.2=true→L8 x=Lib.itoa r.1∧InR r.1):=by
 unfold Wj
 rw[if_pos h]
 match hq:Lib.atoiAll x.data.toList with
 | .ok v=>
  simp only
  by_cases hc:Lib.itoa v=x.data.toList∧((Lib.trimPrefix x.data.toList [45]).length:Int)≤d
  ·rw[if_pos hc]
   refine⟨_,rfl,fun _=>⟨hc.1.symm,?_⟩⟩
   unfold Lib.atoiAll at hq
   split at hq
   ·cases hq
   ·simp only at hq
    split at hq
    ·cases hq
    ·cases hq
    ·split at hq
     ·cases hq
     ·rename_i h1
      split at hq
      ·cases hq
      ·rename_i h2
       injection hq with hq
       split at hq
       ·rename_i h3
        have:=Nat.le_of_not_lt fun hh=>h2 ⟨h3,hh⟩
        exact⟨by show _≤v;omega,by show v≤_;omega⟩
       ·rename_i h3
        have:=Nat.lt_of_not_le fun hh=>h1 ⟨h3,hh⟩
        exact⟨by show _≤v;omega,by show v≤_;omega⟩
  ·rw[if_neg hc];exact⟨_,rfl,fun h=>by cases h⟩
 | Lib.NumEnd.syntax=>exact⟨_,rfl,fun h=>by cases h⟩
 | .range=>exact⟨_,rfl,fun h=>by cases h⟩
theorem Zaj (x a b:Int):Yk x a b=some (decide (a≤x∧x≤b)):=by
 unfold Yk
 by_cases h:a≤x<;>simp[h]
theorem Q8 (x a b:Int):Z6 x a b=some (decide (a≤x∧x≤b)):=by
 unfold Z6
 by_cases h:a≤x<;>simp[h]
def Wo (c:GConf):Int:=if (0≤c.maxRetry∧c.maxRetry≤3)∧(0≤c.maxWait∧c.maxWait≤3) then (c.maxRetry+2)*(c.maxWait+6) else 0
def Yu (c:GConf):Int:=if Wo c=0 then 0 else if 1≤c.lockMost∧c.lockMost≤40 then 2*Wo c+c.lockMost else 0
def Yb (c:GConf):Nat:=c.masters.countP (·.prio)
def Xi (c:GConf) (m:GMConf):Bool:=decide (1≤m.weight∧m.weight≤4)&&if m.prio then decide (2*Yu c*Yb c≤m.every∧m.every≤1000)&&decide (1≤m.cap∧m.cap≤8) else decide (m.every=0)&&decide (m.cap=0)
def Wb (c:GConf):Bool:=decide (1≤(c.masters.length:Int)∧(c.masters.length:Int)≤4)&&decide (1≤c.quantum∧c.quantum≤4)&&decide (1≤c.maxSplit∧c.maxSplit≤12)&&decide (Yu c≠0)&&c.masters.all (Xi c)
theorem Zbu (c:GConf):0≤Wo c∧Wo c≤45:=by
 unfold Wo
 split
 ·rename_i h
  obtain⟨⟨h1,h2⟩,h3,h4⟩:=h
  generalize c.maxRetry=a at*
  generalize c.maxWait=b at*
  have:a=0∨a=1∨a=2∨a=3:=by omega
  rcases this with rfl|rfl|rfl|rfl<;>omega
 ·omega
theorem Zcf (c:GConf):0≤Yu c∧Yu c≤130:=by
 have:=Zbu c
 unfold Yu
 split
 ·omega
 ·split<;>omega
theorem K9 (c:GConf):Wl c=some (Wo c):=by
 unfold Wl
 rw[Q8,Option.bind_some,Q8,Option.bind_some]
 unfold Qp Wo
 by_cases h1:0≤c.maxRetry∧c.maxRetry≤3
 ·by_cases h2:0≤c.maxWait∧c.maxWait≤3
  ·have:=Zbu c
   unfold Wo at this
   rw[if_pos ⟨h1,h2⟩] at this
   simp only[h1,h2,decide_true,Bool.not_true,Bool.false_eq_true,if_false,and_self,if_true]
   rw[Jr (by omega) (by omega),Jr (by omega) (by omega),K4 (by omega) (by omega)]
  ·simp[h1,h2]
 ·simp[h1]
theorem Ziw (c:GConf):Kg c=some (Wo c):=by
 rw[←K9]
 unfold Kg Wl
 simp only[Q8,Zaj]
 rfl
theorem Zd0 (c:GConf):X2 c=some (Yu c):=by
 have:=Zbu c
 unfold X2 Yu
 rw[K9,Option.bind_some,Q8,Option.bind_some,Option.bind_some]
 by_cases h0:Wo c=0
 ·simp[h0]
 ·by_cases h1:1≤c.lockMost∧c.lockMost≤40
  ·simp only[h0,h1,decide_true,decide_false,Bool.not_true,Bool.false_eq_true,if_false,and_self,if_true]
   rw[K4 (by omega) (by omega),Jr (by omega) (by omega)]
  ·simp[h0,h1]
theorem Zdu (c:GConf):Kd c=some (Yu c):=by
 rw[←Zd0]
 unfold Kd X2
 simp only[Q8,Zaj,K9,Ziw]
theorem Zg0 (c:GConf):Ko c=some (decide (1≤c.quantum∧c.quantum≤4)&&decide (1≤c.maxSplit∧c.maxSplit≤12)&&decide (Yu c≠0)):=by
 have:=Zbu c
 unfold Ko Yu
 simp only[Q8,K9,Option.bind_some]
 by_cases h1:1≤c.quantum∧c.quantum≤4
 ·by_cases h2:Wo c=0
  ·simp[h2]
  ·have h3:Wo c > 0:=by omega
   by_cases h4:1≤c.maxSplit∧c.maxSplit≤12
   ·by_cases h5:1≤c.lockMost∧c.lockMost≤40
    ·have:¬(2*Wo c+c.lockMost=0):=by omega
     simp[h1,h2,h3,h4,h5,this]
    ·simp[h1,h2,h3,h4,h5]
   ·simp[h1,h2,h3,h4]
 ·simp[h1]
theorem Zes (xs:List GMConf):∀(n:Int),0≤n→n+xs.length < 4611686018427387904→∀{ρ:Type} (fin:Int→Option ρ),runL (fun (a:GMConf) n=>some (.inl (if a.prio=true then addW n 1 else n))) fin xs n=fin (n+(xs.countP (·.prio):Nat)):=by
 induction xs with
 | nil=>intro n _ _ ρ fin;simp[runL]
 | cons a l ih=>
  intro n h0 hl ρ fin
  simp only[List.length_cons] at hl
  simp only[runL,Option.bind_some,List.countP_cons]
  by_cases h:a.prio=true
  ·rw[if_pos h,Jr (by omega) (by omega),ih _ (by omega) (by omega),if_pos h]
   congr 1;omega
  ·rw[if_neg h,ih _ (by omega) (by omega),if_neg h]
   congr 1
theorem Zle (c:GConf) (hl:c.masters.length < 1048577):Zaz c=some (Yb c:Int):=by
 unfold Zaz
 rw[Zie c.masters (by omega) (fun (a:GMConf) n=>some (.inl (if a.prio=true then addW n 1 else n))) some (Q0 c) (fun m s i=>?_) 0,Zes _ _ (by omega) (by omega)]
 ·simp[Yb]
 ·show Kx c _ s i=_
  unfold Kx
  congr 1;congr 1;funext a
  by_cases h:a.prio=true<;>simp[h,goL]
theorem Zge (c:GConf):Yb c≤c.masters.length:=List.countP_le_length
theorem Zhq (c:GConf) (hl:c.masters.length < 1048577):0≤Yu c*(Yb c:Int)∧Yu c*(Yb c:Int)≤136314880:=by
 have h1:=Zcf c
 have h2:=Zge c
 constructor
 ·exact Int.mul_nonneg h1.1 (by omega)
 ·have h3:Yu c*(Yb c:Int)≤130*(Yb c:Int):=Int.mul_le_mul_of_nonneg_right h1.2 (by omega)
  omega
theorem Zet (c:GConf) (hl:c.masters.length < 1048577):Qj c=some (2*Yu c*Yb c):=by
 have h1:=Zcf c
 have h2:=Zhq c hl
 unfold Qj
 rw[Zdu,Option.bind_some,Zle c hl,Option.bind_some]
 rw[K4 (a:=2) (by omega) (by omega),K4 (by rw[Int.mul_assoc];omega) (by rw[Int.mul_assoc];omega)]
theorem Zgq (c:GConf) (m:GMConf) (hl:c.masters.length < 1048577):Kl m c=some (!Xi c m):=by
 unfold Kl Xi
 simp only[Zaj,Option.bind_some,Zet c hl]
 by_cases h1:1≤m.weight∧m.weight≤4
 ·by_cases h2:m.prio=true
  ·by_cases h3:2*Yu c*Yb c≤m.every∧m.every≤1000
   ·simp[h1,h2,h3]
   ·simp[h1,h2,h3]
  ·by_cases h3:m.every=0
   ·simp[h1,h2,h3]
   ·simp[h1,h2,h3]
 ·simp[h1]
theorem Zjl (c:GConf) (xs:List GMConf) (hl:c.masters.length < 1048577) (hx:xs.length < 4611686018427387904):Zm xs c=some (!xs.all (Xi c)):=by
 unfold Zm Z5
 have key:∀(m k:Nat),k≤xs.length→xs.length - k < m→∃r,Zg xs c m k=some r∧decide (r≥0)=!(xs.drop k).all (Xi c):=by
  intro m
  induction m with
  | zero=>intro k _ h;omega
  | succ m ih=>
   intro k hk hm
   have e:Zg xs c (m+1) k=Zv xs c (Zg xs c m) k:=rfl
   rw[e]
   unfold Zv
   by_cases hc:k < xs.length
   ·have h1:decide ((k:Int) < (xs.length:Int))=true:=by simpa using hc
    rw[if_pos h1,Zq hc,Option.bind_some,Zgq c _ hl,Option.bind_some,List.drop_eq_getElem_cons hc,List.all_cons]
    by_cases hq:Xi c xs[k]=true
    ·have h2:¬(!Xi c xs[k])=true:=by simp[hq]
     rw[if_neg h2,Y3 (by omega),hq,Bool.true_and]
     exact ih (k+1) (by omega) (by omega)
    ·have h2:(!Xi c xs[k])=true:=by simpa using hq
     rw[if_pos h2]
     refine⟨_,rfl,?_⟩
     simp[hq]
   ·have h1:¬decide ((k:Int) < (xs.length:Int))=true:=by simpa using hc
    rw[if_neg h1,List.drop_eq_nil_of_le (by omega)]
    exact⟨_,rfl,by simp⟩
 obtain⟨r,hr,hq⟩:=key FU 0 (Nat.zero_le _) (by have:=W4;omega)
 rw[show ((0:Nat):Int)=0 from rfl] at hr
 rw[hr,Option.bind_some,hq,List.drop_zero]
theorem Zdz (c:GConf) (hl:c.masters.length < 1048577):Qn c=some (Wb c):=by
 unfold Qn Wb
 simp only[Zaj,Option.bind_some,Zdu,Zjl c c.masters hl (by omega),Bool.not_not]
 by_cases h1:1≤(c.masters.length:Int)∧(c.masters.length:Int)≤4
 ·by_cases h2:1≤c.quantum∧c.quantum≤4
  ·by_cases h3:1≤c.maxSplit∧c.maxSplit≤12
   ·by_cases h4:Yu c=0<;>simp[h1,h2,h3,h4]
   ·simp[h1,h2,h3]
  ·simp[h1,h2]
 ·simp[h1]
theorem Zoi (c:GConf) (m:GMConf) (hl:c.masters.length < 1048577) (k:Option Bool):
  ((Z6 m.weight 1 4).bind fun r1102=>
  if (!r1102)=true then some false
  else if (!m.prio)=true then
    if decide (m.every≠0)=true then some false
    else if decide (m.cap≠0)=true then some false
     else if m.prio=true then
       (X2 c).bind fun r1128=>
       (Z6 m.every (mulW (mulW 2 (Yb c:Int)) r1128) 1000).bind fun r1130=>
       if (!r1130)=true then some false
       else (Z6 m.cap 1 8).bind fun r1135=>if (!r1135)=true then some false else k
      else k
   else if m.prio=true then
     (X2 c).bind fun r1128=>
     (Z6 m.every (mulW (mulW 2 (Yb c:Int)) r1128) 1000).bind fun r1130=>
     if (!r1130)=true then some false
     else (Z6 m.cap 1 8).bind fun r1135=>if (!r1135)=true then some false else k
    else k)=if Xi c m=true then k else some false:=by
 have h1:=Zcf c
 have h2:=Zhq c hl
 have h3:=Zge c
 have e:mulW (mulW 2 (Yb c:Int)) (Yu c)=2*Yu c*Yb c:=by
  have e2:2*(Yb c:Int)*Yu c=2*(Yu c*(Yb c:Int)):=by rw[Int.mul_assoc,Int.mul_comm (Yb c:Int)]
  rw[K4 (a:=2) (by omega) (by omega),K4 (by rw[e2];omega) (by rw[e2];omega),e2,Int.mul_assoc]
 unfold Xi
 simp only[Q8,Option.bind_some,Zd0,e]
 by_cases h1:1≤m.weight∧m.weight≤4
 ·by_cases h2:m.prio=true
  ·by_cases h3:2*Yu c*Yb c≤m.every∧m.every≤1000
   ·by_cases h4:1≤m.cap∧m.cap≤8<;>simp[h1,h2,h3,h4]
   ·simp[h1,h2,h3]
  ·by_cases h3:m.every=0
   ·by_cases h4:m.cap=0<;>simp[h1,h2,h3,h4]
   ·simp[h1,h2,h3]
 ·simp[h1]
theorem Ze2 (c:GConf) (hl:c.masters.length < 1048577):Yt c FU (Yb c:Int) 0=some (Wb c):=by
 have key:∀(m k:Nat),k≤c.masters.length→c.masters.length - k < m→Yt c m (Yb c:Int) k=some (decide (1≤(c.masters.length:Int)∧(c.masters.length:Int)≤4)&&decide (1≤c.quantum∧c.quantum≤4)&&decide (1≤c.maxSplit∧c.maxSplit≤12)&&decide (Yu c≠0)&&(c.masters.drop k).all (Xi c)):=by
  intro m
  induction m with
  | zero=>intro k _ h;omega
  | succ m ih=>
   intro k hk hm
   have e:Yt c (m+1) (Yb c:Int) k=Kj c (Yt c m) (Yb c:Int) k:=rfl
   rw[e]
   unfold Kj
   by_cases hc:k < c.masters.length
   ·have h1:decide ((k:Int) < (c.masters.length:Int))=true:=by simpa using hc
    rw[if_pos h1,Zq hc,Option.bind_some,Zoi c _ hl,List.drop_eq_getElem_cons hc,List.all_cons,Y3 (by omega),ih (k+1) (by omega) (by omega)]
    by_cases hq:Xi c c.masters[k]=true
    ·simp[hq]
    ·simp[hq]
   ·have h1:¬decide ((k:Int) < (c.masters.length:Int))=true:=by simpa using hc
    rw[if_neg h1,List.drop_eq_nil_of_le (by omega),Q8,Option.bind_some,Zg0]
    by_cases h2:1≤(c.masters.length:Int)∧(c.masters.length:Int)≤4
    ·simp[h2]
    ·simp[h2]
 have:=key FU 0 (Nat.zero_le _) (by have:=W4;omega)
 simpa [Wb] using this
theorem Zi2 (c:GConf) (hl:c.masters.length < 1048577):Jk c=some (Wb c):=by
 unfold Jk
 rw[Zie c.masters (by omega) (fun (a:GMConf) n=>some (.inl (if a.prio=true then addW n 1 else n))) (fun n=>Yt c FU n 0) (Qq c) (fun m s i=>?_) 0,Zes _ _ (by omega) (by omega)]
 ·rw[show (0:Int)+(c.masters.countP (·.prio):Nat)=(Yb c:Int) by simp[Yb]]
  exact Ze2 c hl
 ·show Kb c _ s i=_
  unfold Kb
  congr 1;congr 1;funext a
  by_cases h:a.prio=true<;>simp[h,goL]
theorem Ziy {c:GConf} {m:GMConf} (h:Wb c=true) (hm:m∈c.masters):1≤m.weight∧m.weight≤4:=by
 simp only[Wb,Bool.and_eq_true,List.all_eq_true] at h
 have:=h.2 m hm
 simp only[Xi,Bool.and_eq_true,decide_eq_true_eq] at this
 exact this.1
theorem Zjs {c:GConf} {m:GMConf} (h:Xi c m=true):-1≤m.every∧m.every≤1000∧0≤m.cap∧m.cap≤8:=by
 have h1:=Zcf c
 have h2:0≤2*Yu c*(Yb c:Int):=Int.mul_nonneg (by omega) (by omega)
 simp only[Xi,Bool.and_eq_true,decide_eq_true_eq] at h
 obtain⟨h3,h4⟩:=h
 split at h4
 ·simp only[Bool.and_eq_true,decide_eq_true_eq] at h4;omega
 ·simp only[Bool.and_eq_true,decide_eq_true_eq] at h4;omega
theorem Zgd {l:List Int} (hl:l.length < 1048577) (h:∀x∈l,InR x):Q4 l=some (l.map decB):=by
 unfold Q4
 refine Zbl (σ:=List ByteArray) (n:=l.length) (by omega) (fun k=>(l.take k).map decB) (B:=fun κ st j=>Q1 l κ st j) (L:=fun m st j=>Kt l m st j) (fun m s i=>rfl) (fun k hk κ=>?_) fun κ=>?_
 ·unfold Q1
  have h2:(l.take k).length≤k:=by rw[List.length_take];omega
  rw[if_pos (by simpa using hk),Zq hk,Option.bind_some,Zhl (h _ (List.getElem_mem hk)),Option.bind_some,Wf (by simp;omega) (by simp;omega),Option.bind_some,List.take_succ_eq_append_getElem hk,List.map_append]
  rfl
 ·unfold Q1
  rw[if_neg (by simp),List.take_length]
theorem Znc (a:Int):InR (IntKind.i64.wrap a):=by
 unfold InR
 simp[IntKind.wrap,IntKind.bits,IntKind.signed]
 constructor<;>omega
theorem Zmm:∀(l:List UInt8) (a k:Nat),a < 10^k→l.foldl dgF a < 10^(k+l.length):=by
 intro l
 induction l with
 | nil=>intro a k h;exact h
 | cons c l ih=>
  intro a k h
  rw[List.foldl_cons,List.length_cons,show k+(l.length+1)=(k+1)+l.length by omega]
  refine ih _ _ ?_
  unfold dgF
  rw[Nat.pow_succ]
  split
  ·rename_i hd;unfold isDg at hd;omega
  ·omega
def rdN (l:List UInt8):Nat:=l.foldl dgF 0
def rdK (l:List UInt8):Nat:=l.countP fun c=>decide (isDg c)
theorem Zn4 (l:List UInt8) (c:UInt8):rdN (l++[c])=dgF (rdN l) c:=by unfold rdN;rw[List.foldl_append];rfl
theorem Zm0 (l:List UInt8) (c:UInt8):rdK (l++[c])=rdK l+if isDg c then 1 else 0:=by
 unfold rdK
 rw[List.countP_append,List.countP_cons,List.countP_nil]
 simp
theorem dgW {c:UInt8} (h:isDg c):w64 (Zk4 (c.toNat:Int) 48)=((c.toNat - 48:Nat):Int):=by
 unfold isDg at h
 simp[w64,Zk4,IntKind.wrap,IntKind.bits,IntKind.signed];omega
theorem Zcy (x:ByteArray):Yc x=(if 0 < (L8 x).length then (atS x 0).bind fun a=>Zn x (rdN ((L8 x).take 11)) (rdK ((L8 x).take 11)) (decide (a=45)) else Zn x (rdN ((L8 x).take 11)) (rdK ((L8 x).take 11)) false):=by
 unfold Yc
 have hsz:=Yp x
 have fin:∀(κ:Int→Int→Int→Option (Int×Bool)) (n k:Int) (i:Int),Xf x κ n k i false=(if 0 < (L8 x).length then (atS x 0).bind fun a=>Zn x n k (decide (a=45)) else Zn x n k false):=fun κ n k i=>by
  unfold Xf
  rw[if_neg (by simp),hsz]
  by_cases h0:0 < (L8 x).length
  ·rw[if_pos (by simpa using h0),if_pos h0]
  ·rw[if_neg (by simpa using h0),if_neg h0]
 have hT:((L8 x).take 11).length=min 11 (L8 x).length:=List.length_take
 have:=Zbl (σ:=Int×Int) (n:=((L8 x).take 11).length) (by omega) (fun k=>((rdN (((L8 x).take 11).take k):Int),(rdK (((L8 x).take 11).take k):Int))) (B:=fun κ st j=>Wn x (fun a b c=>κ (a,b) c) st.1 st.2 j) (L:=fun m st j=>W2 x m st.1 st.2 j) (fun m s i=>rfl) (fun k hk κ=>?_) (r:=(if 0 < (L8 x).length then (atS x 0).bind fun a=>Zn x (rdN ((L8 x).take 11)) (rdK ((L8 x).take 11)) (decide (a=45)) else Zn x (rdN ((L8 x).take 11)) (rdK ((L8 x).take 11)) false)) fun κ=>?_
 ·simpa [rdN,rdK] using this
 ·have hk1:k < (L8 x).length:=by omega
  have hk2:k < 11:=by omega
  have hg:((L8 x).take 11)[k]=(L8 x)[k]:=by simp
  have e:=List.take_succ_eq_append_getElem (l:=(L8 x).take 11) hk
  have hb:=Zmm (((L8 x).take 11).take k) 0 0 (by simp)
  have hb2:10^(0+(((L8 x).take 11).take k).length)≤10^11:=Nat.pow_le_pow_right (by omega) (by simp;omega)
  have hb3:rdN (((L8 x).take 11).take k) < 10^11:=Nat.lt_of_lt_of_le hb hb2
  have hkc:rdK (((L8 x).take 11).take k)≤11:=by
   unfold rdK
   have:=List.countP_le_length (p:=fun c=>decide (isDg c)) (l:=((L8 x).take 11).take k)
   simp at this;omega
  unfold Wn
  rw[if_pos (by rw[hsz];simpa using hk1)]
  unfold Xf
  simp only
  rw[if_pos (by simp;omega),Jq hk1,Option.bind_some,e,Zn4,Zm0,hg]
  have step:∀b:Bool,(b=true↔isDg (L8 x)[k])→X3 x (fun a b c=>κ (a,b) c) (rdN (((L8 x).take 11).take k)) (rdK (((L8 x).take 11).take k)) k b=κ (((dgF (rdN (((L8 x).take 11).take k)) (L8 x)[k]:Nat):Int),((rdK (((L8 x).take 11).take k)+if isDg (L8 x)[k] then 1 else 0:Nat):Int)) (addW k 1):=fun b hb=>by
   unfold X3 dgF
   by_cases hd:isDg (L8 x)[k]
   ·rw[if_pos (hb.2 hd),if_pos hd,if_pos hd,Jq hk1,Option.bind_some,dgW hd,K4 (by omega) (by omega),Jr (a:=_*10) (by unfold isDg at hd;omega) (by unfold isDg at hd;omega),Y3 (by omega)]
    rfl
   ·rw[if_neg (fun h=>hd (hb.1 h)),if_neg hd,if_neg hd];rfl
  by_cases h48:48≤(L8 x)[k].toNat
  ·rw[if_pos (decide_eq_true (by omega))]
   exact step _ (by unfold isDg;simp;omega)
  ·rw[if_neg (by rw[decide_eq_true_eq];omega)]
   exact step _ (by unfold isDg;simp;omega)
 ·unfold Wn
  rw[List.take_length]
  simp only
  by_cases hc:((L8 x).take 11).length < (L8 x).length
  ·rw[if_pos (by rw[hsz];simpa using hc),show decide (((((L8 x).take 11).length:Nat):Int) < 11)=false by simp;omega,fin]
  ·rw[if_neg (by rw[hsz];simpa using hc),fin]
theorem rdN_lt (l:List UInt8):rdN (l.take 11) < 10^11:=by
 have hb:=Zmm (l.take 11) 0 0 (by simp)
 exact Nat.lt_of_lt_of_le hb (Nat.pow_le_pow_right (by omega) (by simp;omega))
theorem Yx (x:ByteArray):∃r,Yc x=some r:=by
 have h11:=rdN_lt (L8 x)
 have j5:∀(v k:Int),InR v→∃r,Yv x v k=some r:=fun v k hv=>by
  unfold Yv
  rw[Wa hv,Option.bind_some]
  split
  ·exact⟨_,rfl⟩
  ·split
   ·exact⟨_,rfl⟩
   ·split<;>exact⟨_,rfl⟩
 have j4:∀b,∃r,Zn x (rdN ((L8 x).take 11)) (rdK ((L8 x).take 11)) b=some r:=fun b=>by
  unfold Zn
  split
  ·exact j5 _ _ (Znc _)
  ·exact j5 _ _ ⟨by omega,by omega⟩
 rw[Zcy]
 split
 ·rename_i h0
  rw[show (0:Int)=((0:Nat):Int) from rfl,Jq h0,Option.bind_some]
  exact j4 _
 ·exact j4 _
theorem Zep {l:List UInt8} (h:∀c∈l,isDg c):rdK l=l.length:=by
 unfold rdK
 rw[List.countP_eq_length]
 intro c hc
 exact decide_eq_true (h c hc)
theorem Zll (x:ByteArray):(x.toList == x.toList)=true:=beq_self_eq_true _
theorem Y5 {v:Int} (h:-1000000000 < v∧v < 1000000000):Yc (decB v)=some (v,true):=by
 have hr:InR v:=⟨by omega,by omega⟩
 have key:∀k:Int,k≤9→(decB v).size≤10→Yv (decB v) v k=some (v,true):=fun k hk hz=>by
  unfold Yv
  rw[if_neg (by rw[decide_eq_true_eq];omega),if_neg (by rw[decide_eq_true_eq];omega),Wa hr,Option.bind_some,if_neg (by rw[Zll];simp)]
 have ha:=Zmc v
 rw[Zcy,Yi]
 by_cases hn:v < 0
 ·have e2:Lib.itoa v=45::Lib.decDigits v.natAbs:=by unfold Lib.itoa;rw[if_pos hn]
  have hl:=Zal (k:=8) (u:=v.natAbs) (by omega)
  have ht:(Lib.itoa v).take 11=Lib.itoa v:=List.take_of_length_le (by rw[e2];simp;omega)
  have hk:rdK (Lib.itoa v)=(Lib.decDigits v.natAbs).length:=by
   rw[e2]
   unfold rdK
   rw[List.countP_cons,if_neg (by decide)]
   exact Zep fun c hc=>Q7 hc
  rw[if_pos (by rw[e2];simp),ht,show (0:Int)=((0:Nat):Int) from rfl,Jq (by rw[Yi,e2];simp),Option.bind_some]
  have h45:(L8 (decB v))[0]'(by rw[Yi,e2];simp)=45:=by simp[Yi,e2]
  rw[h45]
  show Zn (decB v) _ _ true=_
  unfold Zn
  rw[if_pos rfl,show ((rdN (Lib.itoa v):Nat):Int)=-v by unfold rdN;rw[ha];omega,hk]
  have:negW (-v)=v:=by simp[negW,IntKind.wrap,IntKind.bits,IntKind.signed];omega
  rw[this]
  exact key _ (by omega) (by rw[Yp,Yi,e2];simp;omega)
 ·have e2:Lib.itoa v=Lib.decDigits v.toNat:=by unfold Lib.itoa;rw[if_neg hn]
  have hl:=Zal (k:=8) (u:=v.toNat) (by omega)
  have ht:(Lib.itoa v).take 11=Lib.itoa v:=List.take_of_length_le (by rw[e2];omega)
  have hne:=Zj5 v
  have hpos:0 < (Lib.itoa v).length:=List.length_pos_iff.2 hne
  have hk:rdK (Lib.itoa v)=(Lib.decDigits v.toNat).length:=by
   rw[e2];exact Zep fun c hc=>Q7 hc
  rw[if_pos hpos,ht,show (0:Int)=((0:Nat):Int) from rfl,Jq (by rw[Yi];exact hpos),Option.bind_some]
  have hd:isDg ((L8 (decB v))[0]'(by rw[Yi];exact hpos)):=by
   refine Q7 (u:=v.toNat) ?_
   rw[←e2]
   exact List.getElem_mem hpos
  rw[show decide ((((L8 (decB v))[0]'(by rw[Yi];exact hpos)).toNat:Int)=45)=false by unfold isDg at hd;simp;omega]
  unfold Zn
  rw[if_neg (by simp),show ((rdN (Lib.itoa v):Nat):Int)=v by unfold rdN;rw[ha];omega,hk]
  exact key _ (by omega) (by rw[Yp,Yi,e2];omega)
theorem Zcj {ws:List ByteArray} (hl:ws.length < 1048600) (hz:∀w∈ws,w.size≤281474976710656):∃r,Ws ws=some r∧(r.2=true→r.1.length=ws.length∧∀v∈r.1,InR v):=by
 have key:∀(m k:Nat) (out:List Int),k≤ws.length→ws.length - k < m→out.length=k→(∀v∈out,InR v)→∃r,Xe ws m out (k:Int)=some r∧(r.2=true→r.1.length=ws.length∧∀v∈r.1,InR v):=by
  intro m
  induction m with
  | zero=>intro k out _ h;omega
  | succ m ih=>
   intro k out hk hm ho hv
   show ∃r,Y2 ws (Xe ws m) out (k:Int)=some r∧_
   unfold Y2
   by_cases hc:k < ws.length
   ·obtain⟨r,h1,h2⟩:=Zhe (d:=18) (hz _ (List.getElem_mem hc))
    rw[if_pos (by simpa using hc),Zq hc,Option.bind_some,h1,Option.bind_some]
    by_cases hr:r.2=true
    ·rw[if_neg (by simp[hr]),Wf (by simp;omega) (by simp;omega),Option.bind_some,Y3 (by omega)]
     refine ih (k+1) _ (by omega) (by omega) (by simp;omega) fun v hv2=>?_
     rcases List.mem_append.1 hv2 with hv2|hv2
     ·exact hv v hv2
     ·rw[List.mem_singleton.1 hv2];exact (h2 hr).2
    ·rw[if_pos (by simp[hr])]
     exact⟨_,rfl,fun h=>by cases h⟩
   ·rw[if_neg (by simpa using hc)]
    exact⟨_,rfl,fun _=>⟨by show out.length=_;omega,hv⟩⟩
 exact key FU 0 [] (Nat.zero_le _) (by have:=W4;omega) rfl (by simp)
theorem Zd5 {l:List Int} (hl:l.length < 1048600) (h:∀v∈l,-1000000000000000000 < v∧v < 1000000000000000000):Ws (l.map decB)=some (l,true):=by
 unfold Ws
 refine Zbl (σ:=List Int) (n:=l.length) (by omega) (fun k=>l.take k) (B:=fun κ st j=>Y2 (l.map decB) κ st j) (L:=fun m st j=>Xe (l.map decB) m st j) (fun m s i=>rfl) (fun k hk κ=>?_) fun κ=>?_
 ·unfold Y2
  rw[if_pos (by simpa using hk),Zq (by simpa using hk),Option.bind_some,List.getElem_map,Zlb (h _ (List.getElem_mem hk)) (by omega),Option.bind_some,if_neg (by simp),Wf (by simp;omega) (by simp;omega),Option.bind_some,List.take_succ_eq_append_getElem hk]
 ·unfold Y2
  rw[if_neg (by simp),List.take_length]
theorem Zfz {ws:List ByteArray} {l:List Int} (h:ws.map L8=l.map Lib.itoa):ws=l.map decB:=by
 induction ws generalizing l with
 | nil=>cases l with
  | nil=>rfl
  | cons a l=>simp at h
 | cons w ws ih=>cases l with
  | nil=>simp at h
  | cons a l=>
   simp only[List.map_cons,List.cons.injEq] at h ⊢
   exact⟨Zbj h.1,ih h.2⟩
def mW (m:GMConf):List UInt8:=if m.prio=true then Lib.itoa m.weight++[58]++Lib.itoa m.every++[58]++Lib.itoa m.cap else Lib.itoa m.weight
def Zfe (c:GConf):List UInt8:=Lib.itoa c.quantum++[32]++Lib.itoa c.maxWait++[32]++Lib.itoa c.maxRetry++[32]++Lib.itoa c.maxSplit++[32]++Lib.itoa c.lockMost
def We (c:GConf):List UInt8:=Zfe c++c.masters.flatMap fun m=>[32]++mW m
def Z7 (c:GConf):List Int:=[c.quantum,c.maxWait,c.maxRetry,c.maxSplit,c.lockMost]
def Y0 (c:GConf):List (List UInt8):=(Z7 c).map Lib.itoa++c.masters.map mW
theorem Zb8 (c:GConf):We c=Lib.join (Y0 c) [32]:=by
 unfold We Y0 Zfe Z7
 simp only[List.map_cons,List.map_nil,List.cons_append,List.nil_append]
 rw[Lib.join_cons]
 unfold Lib.joinTail
 simp only[List.map_cons,List.flatten_cons,List.append_assoc,List.map_map,List.flatMap_def]
 rfl
structure ConfS (c:GConf):Prop where
 q:1≤c.quantum∧c.quantum≤4
 w:0≤c.maxWait∧c.maxWait≤3
 r:0≤c.maxRetry∧c.maxRetry≤3
 s:1≤c.maxSplit∧c.maxSplit≤12
 k:1≤c.lockMost∧c.lockMost≤40
 n:1≤c.masters.length∧c.masters.length≤4
 m:∀m∈c.masters,(1≤m.weight∧m.weight≤4)∧(-1≤m.every∧m.every≤1000)∧(0≤m.cap∧m.cap≤8)∧(m.prio=false→m.every=0∧m.cap=0)
theorem Zc8 {c:GConf} (h:Wb c=true):ConfS c:=by
 have h0:=h
 simp only[Wb,Bool.and_eq_true,decide_eq_true_eq,List.all_eq_true] at h
 obtain⟨⟨⟨⟨h1,h2⟩,h3⟩,h4⟩,h5⟩:=h
 have hk:Wo c≠0∧1≤c.lockMost∧c.lockMost≤40:=by
  unfold Yu at h4
  split at h4
  ·exact absurd rfl h4
  ·split at h4
   ·rename_i a b;exact⟨a,b⟩
   ·exact absurd rfl h4
 have hc:(0≤c.maxRetry∧c.maxRetry≤3)∧(0≤c.maxWait∧c.maxWait≤3):=by
  have:=hk.1
  unfold Wo at this
  split at this
  ·assumption
  ·exact absurd rfl this
 refine⟨h2,hc.2,hc.1,h3,hk.2,by omega,fun m hm=>?_⟩
 have hm2:=h5 m hm
 have he:=Zjs hm2
 refine⟨Ziy h0 hm,⟨he.1,he.2.1⟩,he.2.2,fun hp=>?_⟩
 simp only[Xi,Bool.and_eq_true,decide_eq_true_eq,hp] at hm2
 simpa using hm2.2
theorem mW_le {m:GMConf} (h1:InR m.weight) (h2:InR m.every) (h3:InR m.cap):(mW m).length≤62:=by
 have:=Qr h1
 have:=Qr h2
 have:=Qr h3
 unfold mW
 split<;>simp<;>omega
theorem Zgn {c:GConf} (hl:c.masters.length < 1048577):Qd c=some (if Wb c=true then ⟨(We c).toArray⟩ else ByteArray.empty):=by
 unfold Qd
 rw[Zi2 c hl,Option.bind_some]
 by_cases h:Wb c=true
 ·obtain⟨hq,hw,hr,hs,hk,hn,hm⟩:=Zc8 h
  have iq:InR c.quantum:=⟨by omega,by omega⟩
  have iw:InR c.maxWait:=⟨by omega,by omega⟩
  have ir:InR c.maxRetry:=⟨by omega,by omega⟩
  have is_:InR c.maxSplit:=⟨by omega,by omega⟩
  have ik:InR c.lockMost:=⟨by omega,by omega⟩
  have z1:=X0 iq
  have z2:=X0 iw
  have z3:=X0 ir
  have z4:=X0 is_
  have z5:=X0 ik
  rw[if_neg (by simp[h]),if_pos h]
  simp only[Wa iq,Wa iw,Wa ir,Wa is_,Wa ik,Option.bind_some]
  simp (disch:=(first|omega|(simp only[Ky,Xz,List.length_cons,List.length_nil];omega))) only[Zdp,Option.bind_some]
  have key:∀(m k:Nat) (v0:ByteArray),k≤c.masters.length→c.masters.length - k < m→v0.size≤200+70*k→Xo c m v0 (k:Int)=some ⟨(L8 v0++(c.masters.drop k).flatMap fun m=>[32]++mW m).toArray⟩:=by
   intro m
   induction m with
   | zero=>intro k v0 _ h;omega
   | succ m ih=>
    intro k v0 hk hm' hv
    show Qw c (Xo c m) v0 (k:Int)=_
    unfold Qw
    by_cases hc:k < c.masters.length
    ·obtain⟨⟨m1,m2⟩,⟨m3,m4⟩,⟨m5,m6⟩,_⟩:=hm _ (List.getElem_mem hc)
     have i1:InR c.masters[k].weight:=⟨by omega,by omega⟩
     have i2:InR c.masters[k].every:=⟨by omega,by omega⟩
     have i3:InR c.masters[k].cap:=⟨by omega,by omega⟩
     have y1:=X0 i1
     have y2:=X0 i2
     have y3:=X0 i3
     rw[if_pos (by simpa using hc),Zq hc,Option.bind_some,Wa i1,Wa i2,Wa i3,List.drop_eq_getElem_cons hc,List.flatMap_cons]
     simp (disch:=(first|omega|(simp only[Ky,Xz,List.length_cons,List.length_nil];omega))) only[Zdp,Option.bind_some]
     rw[Y3 (by omega)]
     by_cases hp:c.masters[k].prio=true
     ·rw[if_pos hp,ih (k+1) _ (by omega) (by omega) (by simp only[Ky,Xz,List.length_cons,List.length_nil];omega)]
      simp only[Zbd,Qi,Yi,mW,hp,if_true,List.append_assoc]
     ·rw[if_neg hp,ih (k+1) _ (by omega) (by omega) (by simp only[Ky,Xz,List.length_cons,List.length_nil];omega)]
      simp only[Zbd,Qi,Yi,mW,hp,if_false,List.append_assoc,Bool.false_eq_true]
    ·rw[if_neg (by simpa using hc),List.drop_eq_nil_of_le (by omega)]
     exact congrArg some (Zbj (by rw[L8_mk (L8 v0++([]:List GMConf).flatMap _)];simp))
  rw[show (0:Int)=((0:Nat):Int) from rfl,key FU 0 _ (Nat.zero_le _) (by have:=W4;omega) (by simp only[Ky,Xz,List.length_cons,List.length_nil];omega)]
  simp only[Zbd,Qi,Yi,List.drop_zero,We,Zfe]
 ·rw[if_pos (by simp[h]),if_neg h]
theorem Zgp {c:GConf} (hl:c.masters.length < 1048577):W3 c=some (if Wb c=true then ⟨(We c).toArray⟩ else ByteArray.empty):=by
 unfold W3
 rw[Zdz c hl,Option.bind_some]
 by_cases h:Wb c=true
 ·obtain⟨hq,hw,hr,hs,hk,hn,hm⟩:=Zc8 h
  have iq:InR c.quantum:=⟨by omega,by omega⟩
  have iw:InR c.maxWait:=⟨by omega,by omega⟩
  have ir:InR c.maxRetry:=⟨by omega,by omega⟩
  have is_:InR c.maxSplit:=⟨by omega,by omega⟩
  have ik:InR c.lockMost:=⟨by omega,by omega⟩
  rw[if_neg (by simp[h]),if_pos h]
  have hi:∀x∈Z7 c,InR x:=by
   intro x hx
   unfold Z7 at hx
   simp only[List.mem_cons,List.not_mem_nil,or_false] at hx
   rcases hx with rfl|rfl|rfl|rfl|rfl<;>assumption
  have e0:Q4 [c.quantum,c.maxWait,c.maxRetry,c.maxSplit,c.lockMost]=some ((Z7 c).map decB):=Zgd (l:=Z7 c) (by simp[Z7]) hi
  rw[e0,Option.bind_some]
  have mi:∀m∈c.masters,InR m.weight∧InR m.every∧InR m.cap:=fun m hm'=>by
   obtain⟨⟨m1,m2⟩,⟨m3,m4⟩,⟨m5,m6⟩,_⟩:=hm m hm'
   exact⟨⟨by omega,by omega⟩,⟨by omega,by omega⟩,⟨by omega,by omega⟩⟩
  have hj:(Lib.join (Y0 c) [32]).length≤1000:=by
   rw[←Zb8]
   unfold We Zfe
   have:=Qr iq;have:=Qr iw;have:=Qr ir;have:=Qr is_;have:=Qr ik
   have hf:∀l:List GMConf,(∀m∈l,m∈c.masters)→(l.flatMap fun m=>[32]++mW m).length≤63*l.length:=by
    intro l
    induction l with
    | nil=>intro _;simp
    | cons m l ih=>
     intro hh
     have h1:=ih fun x hx=>hh x (List.mem_cons_of_mem _ hx)
     obtain⟨a1,a2,a3⟩:=mi m (hh m List.mem_cons_self)
     have h2:=mW_le a1 a2 a3
     rw[List.flatMap_cons,List.length_append,List.length_cons]
     simp only[List.length_append,List.length_cons,List.length_nil];omega
   have:=hf c.masters fun _ h=>h
   simp only[List.length_append,List.length_cons,List.length_nil];omega
  refine Zbl (σ:=List ByteArray) (n:=c.masters.length) (by omega) (fun k=>(Z7 c).map decB++(c.masters.take k).map fun m=>(⟨(mW m).toArray⟩:ByteArray)) (B:=fun κ st j=>Wd c κ st j) (L:=fun m st j=>Wm c m st j) (fun m s i=>rfl) (fun k hk' κ=>?_) fun κ=>?_
  ·unfold Wd
   obtain⟨i1,i2,i3⟩:=mi _ (List.getElem_mem hk')
   have h2:(c.masters.take k).length≤k:=by rw[List.length_take];omega
   have h5:(Z7 c).length=5:=rfl
   rw[if_pos (by simpa using hk'),Zq hk',Option.bind_some,Zhl i1,Option.bind_some,List.take_succ_eq_append_getElem hk',List.map_append,←List.append_assoc]
   by_cases hp:c.masters[k].prio=true
   ·have ed:Q4 [c.masters[k].weight,c.masters[k].every,c.masters[k].cap]=some ([c.masters[k].weight,c.masters[k].every,c.masters[k].cap].map decB):=Zgd (by simp) (by
     intro x hx
     simp only[List.mem_cons,List.not_mem_nil,or_false] at hx
     rcases hx with rfl|rfl|rfl<;>assumption)
    have ej:Lib.join (([c.masters[k].weight,c.masters[k].every,c.masters[k].cap].map decB).map L8) (L8 (strL [58]))=mW c.masters[k]:=by
     unfold mW
     rw[if_pos hp]
     simp only[List.map_cons,List.map_nil,Yi,Qi]
     rw[Lib.join_cons]
     simp[Lib.joinTail]
    have hz:=mW_le i1 i2 i3
    rw[if_pos hp,ed,Option.bind_some,Zj7 (by simp) (by rw[ej];omega),Option.bind_some,ej,Wf (by simp;omega) (by simp;omega),Option.bind_some]
    rfl
   ·rw[if_neg hp,Wf (by simp;omega) (by simp;omega),Option.bind_some]
    have:decB c.masters[k].weight=⟨(mW c.masters[k]).toArray⟩:=Zbj (by rw[Yi,L8_mk (mW _)];unfold mW;rw[if_neg hp])
    rw[this];rfl
  ·unfold Wd
   have em:((Z7 c).map decB++(c.masters.take c.masters.length).map fun m=>(⟨(mW m).toArray⟩:ByteArray)).map L8=Y0 c:=by
    rw[List.take_length,List.map_append,List.map_map,List.map_map]
    rfl
   rw[if_neg (by simp),Zj7 (by simp[Z7];omega) (by rw[em,Qi];omega),Option.bind_some,em,Qi,←Zb8]
 ·rw[if_pos (by simp[h]),if_neg h]
def Zc9 (x:ByteArray) (c:GConf):Prop:=Wb c=true∧L8 x=We c
def Xu (x:ByteArray) (r:GConf×Bool):Prop:=r=(GConf.z0,false)∨(r.2=true∧Zc9 x r.1)
theorem Zn5 (c:GConf):We c≠[]:=by
 unfold We Zfe
 obtain⟨a,l,h⟩:=Zil (v:=c.quantum)
 rw[h];simp
theorem Zey {x:ByteArray} {c:GConf} (h:L8 x=We c):Zw 32 (L8 x)=Y0 c:=by
 rw[h,Zb8,Zjh (by simp[Y0,Z7])]
 intro w hw y hy
 unfold Y0 at hw
 rcases List.mem_append.1 hw with hw|hw
 ·obtain⟨v,_,rfl⟩:=List.mem_map.1 hw
  exact K2 hy (.inl rfl)
 ·obtain⟨m,_,rfl⟩:=List.mem_map.1 hw
  unfold mW at hy
  split at hy
  ·simp only[List.mem_append,List.mem_singleton] at hy
   rcases hy with (((hy|hy)|hy)|hy)|hy
   ·exact K2 hy (.inl rfl)
   ·subst hy;decide
   ·exact K2 hy (.inl rfl)
   ·subst hy;decide
   ·exact K2 hy (.inl rfl)
  ·exact K2 hy (.inl rfl)
def Q2 (m:GMConf):List Int:=if m.prio=true then [m.weight,m.every,m.cap] else [m.weight]
theorem Zhc (m:GMConf):Zw 58 (mW m)=(Q2 m).map Lib.itoa:=by
 have h58:∀v:Int,∀y∈Lib.itoa v,y≠58:=fun v y hy=>K2 hy (.inr (.inl rfl))
 unfold mW Q2
 by_cases hp:m.prio=true
 ·rw[if_pos hp,if_pos hp]
  have e:Lib.itoa m.weight++[58]++Lib.itoa m.every++[58]++Lib.itoa m.cap=Lib.itoa m.weight++58::(Lib.itoa m.every++58::Lib.itoa m.cap):=by simp
  rw[e,Jm (h58 _),Jm (h58 _),K8 (h58 _)];rfl
 ·rw[if_neg hp,if_neg hp,K8 (h58 _)];rfl
theorem Zbe {x:ByteArray} {c:GConf} (hl:c.masters.length < 1048577):∃r,((Qd c).bind fun r4=>
  if (!(r4.toList == x.toList))=true then (some (GConf.z0,false)) else (if (x.toList == ByteArray.empty.toList)=true then (some (GConf.z0,false)) else (some (c,true))))=some r∧Xu x r∧(Zc9 x c→r=(c,true)):=by
 rw[Zgn hl,Option.bind_some]
 by_cases h:Wb c=true
 ·rw[if_pos h,Lib.toList_data,Lib.toList_data,Lib.toList_data]
  by_cases he:We c=L8 x
  ·have e1:((⟨(We c).toArray⟩:ByteArray).data.toList == x.data.toList)=true:=beq_iff_eq.2 he
   have e2:¬(x.data.toList == ByteArray.empty.data.toList)=true:=fun hh=>Zn5 c (by rw[he];exact beq_iff_eq.1 hh)
   rw[if_neg (by simp[e1]),if_neg e2]
   exact⟨_,rfl,.inr ⟨rfl,h,he.symm⟩,fun _=>rfl⟩
  ·have e1:¬((⟨(We c).toArray⟩:ByteArray).data.toList == x.data.toList)=true:=fun hh=>he (beq_iff_eq.1 hh)
   rw[if_pos (by simpa using e1)]
   exact⟨_,rfl,.inl rfl,fun hh=>absurd hh.2.symm he⟩
 ·rw[if_neg h]
  split
  ·exact⟨_,rfl,.inl rfl,fun hh=>absurd hh.1 h⟩
  ·rename_i h1
   have h2:(ByteArray.empty.toList == x.toList)=true:=by simpa using h1
   rw[if_pos (by rw[beq_iff_eq] at h2 ⊢;exact h2.symm)]
   exact⟨_,rfl,.inl rfl,fun hh=>absurd hh.1 h⟩
theorem Ku {x w:ByteArray} {c:UInt8} {ws:List ByteArray} (h:ws.map L8=Zw c (L8 x)) (hw:w∈ws):w.size≤x.size:=by
 rw[Yp,Yp]
 refine Zla (c:=c) ?_
 rw[←h]
 exact List.mem_map_of_mem hw
theorem Zaq {x:ByteArray} {c:UInt8} {ws:List ByteArray} (h:ws.map L8=Zw c (L8 x)):ws.length≤x.size+1∧1≤ws.length:=by
 have h1:=congrArg List.length h
 rw[List.length_map] at h1
 have h2:=Zmp c (L8 x)
 rw[←Yp] at h2
 have h3:0 < (Zw c (L8 x)).length:=List.length_pos_iff.2 (Zgl c (L8 x))
 omega
theorem Ze4 {x:ByteArray} {ws:List ByteArray} (hw:ws.map L8=Zw 32 (L8 x)) (hx:x.size≤1048576):∀(m j:Nat) (c:GConf),j≤ws.length→ws.length - j < m→c.masters.length+5≤j→
  ∃r,Ya x m c ws (j:Int)=some r∧Xu x r:=by
 have hlen:=Zaq hw
 intro m
 induction m with
 | zero=>intro j c _ h;omega
 | succ m ih=>
  intro j c hj hm hc
  show ∃r,Xh x (Ya x m) c ws (j:Int)=some r∧_
  unfold Xh
  by_cases hlt:j < ws.length
  ·have hsz:ws[j].size≤x.size:=Ku hw (List.getElem_mem hlt)
   obtain⟨ps,h1,h2⟩:=Zbw (x:=ws[j]) 58 (by omega)
   have h1:X6 ws[j] 58=some ps:=h1
   have hp:=Zaq h2
   rw[if_pos (by simpa using hlt),Zq hlt,Option.bind_some,h1,Option.bind_some,show (0:Int)=((0:Nat):Int) from rfl,Zq (by omega),Option.bind_some]
   obtain⟨q1,e1⟩:=Yx ps[0]
   rw[e1,Option.bind_some]
   have next:∀mc:GMConf,∃r,Yo x (Ya x m) c mc ws (j:Int)=some r∧Xu x r:=fun mc=>by
    unfold Yo
    rw[Wf (by simp;omega) (by simp;omega),Option.bind_some,Y3 (by omega)]
    exact ih (j+1) _ (by omega) (by omega) (by simp;omega)
   by_cases h3:ps.length=3
   ·obtain⟨q2,e2⟩:=Yx ps[1]
    obtain⟨q3,e3⟩:=Yx ps[2]
    rw[if_pos (by simp[h3]),show (1:Int)=((1:Nat):Int) from rfl,Zq (by omega),Option.bind_some,e2,Option.bind_some,show (2:Int)=((2:Nat):Int) from rfl,Zq (by omega),Option.bind_some,e3,Option.bind_some]
    exact next _
   ·rw[if_neg (by simp;omega)]
    exact next _
  ·rw[if_neg (by simpa using hlt)]
   obtain⟨r,h1,h2,_⟩:=Zbe (x:=x) (c:=c) (by omega)
   exact⟨r,h1,h2⟩
theorem Zea {x:ByteArray} (hx:x.size≤1048576):∃r,Xp x=some r∧Xu x r:=by
 obtain⟨ws,h1,h2⟩:=Zbw (x:=x) 32 (by omega)
 have h1:X6 x 32=some ws:=h1
 unfold Xp
 rw[h1,Option.bind_some]
 by_cases hl:ws.length < 6
 ·rw[if_pos (by simp;omega)]
  exact⟨_,rfl,.inl rfl⟩
 ·obtain⟨q0,e0⟩:=Yx ws[0]
  obtain⟨q1,e1⟩:=Yx ws[1]
  obtain⟨q2,e2⟩:=Yx ws[2]
  obtain⟨q3,e3⟩:=Yx ws[3]
  obtain⟨q4,e4⟩:=Yx ws[4]
  have i0:idx ws 0=some ws[0]:=Zq (k:=0) (by omega)
  have i1:idx ws 1=some ws[1]:=Zq (k:=1) (by omega)
  have i2:idx ws 2=some ws[2]:=Zq (k:=2) (by omega)
  have i3:idx ws 3=some ws[3]:=Zq (k:=3) (by omega)
  have i4:idx ws 4=some ws[4]:=Zq (k:=4) (by omega)
  rw[if_neg (by simp;omega),i0,Option.bind_some,e0,Option.bind_some,i1,Option.bind_some,e1,Option.bind_some,i2,Option.bind_some,e2,Option.bind_some,i3,Option.bind_some,e3,Option.bind_some,i4,Option.bind_some,e4,Option.bind_some]
  exact Ze4 h2 hx FU 5 _ (by omega) (by have:=W4;have:=Zaq h2;omega) (by simp)
theorem Zkg {ws:List ByteArray} {c:GConf} (h:ws.map L8=Y0 c) {i:Nat} (hi:i < c.masters.length):∃hl:5+i < ws.length,L8 ws[5+i]=mW c.masters[i]:=by
 have hlen:ws.length=5+c.masters.length:=by
  have:=congrArg List.length h
  simp[Y0,Z7] at this;omega
 refine⟨by omega,?_⟩
 have h1:(ws.map L8)[5+i]?=some (mW c.masters[i]):=by
  rw[h]
  unfold Y0
  rw[List.getElem?_append_right (by simp[Z7])]
  simp[Z7,hi]
 rw[List.getElem?_map,List.getElem?_eq_getElem (by omega)] at h1
 simpa using h1
theorem Zbc {ws:List ByteArray} {c:GConf} (h:ws.map L8=Y0 c) {i:Nat} (hi:i < 5):∃hl:i < ws.length,ws[i]=decB ((Z7 c)[i]'hi):=by
 have hlen:ws.length=5+c.masters.length:=by
  have:=congrArg List.length h
  simp[Y0,Z7] at this;omega
 refine⟨by omega,Zbj ?_⟩
 have h1:(ws.map L8)[i]?=some (Lib.itoa ((Z7 c)[i]'hi)):=by
  rw[h]
  unfold Y0
  rw[List.getElem?_append_left (by simpa [Z7] using hi),List.getElem?_map,List.getElem?_eq_getElem (show i < (Z7 c).length from hi)]
  rfl
 rw[List.getElem?_map,List.getElem?_eq_getElem (by omega)] at h1
 rw[Yi]
 simpa using h1
theorem Zgb {c:GConf} {l:List GMConf} (h:l=c.masters):({c with masters:=l}:GConf)=c:=by subst h;rfl
theorem m_eta {m:GMConf} (h:m.prio=true):GMConf.mk m.weight true m.every m.cap=m:=by cases m;simp at h;simp[h]
theorem Zma {m:GMConf} (h:m.prio=false) (h2:m.every=0∧m.cap=0):GMConf.mk m.weight false 0 0=m:=by cases m;simp at h h2;simp[h,h2]
theorem Zei {x:ByteArray} {c:GConf} (h:Zc9 x c) (hx:x.size≤1048576):Xp x=some (c,true):=by
 obtain⟨hg,ht⟩:=h
 have hS:=Zc8 hg
 obtain⟨hq,hw,hr,hs,hk,hn,hm⟩:=hS
 obtain⟨ws,h1,h2⟩:=Zbw (x:=x) 32 (by omega)
 have h1:X6 x 32=some ws:=h1
 have hc:ws.map L8=Y0 c:=by rw[h2,Zey ht]
 have hlen:ws.length=5+c.masters.length:=by
  have:=congrArg List.length hc
  simp[Y0,Z7] at this;omega
 obtain⟨l0,w0⟩:=Zbc hc (i:=0) (by omega)
 obtain⟨l1,w1⟩:=Zbc hc (i:=1) (by omega)
 obtain⟨l2,w2⟩:=Zbc hc (i:=2) (by omega)
 obtain⟨l3,w3⟩:=Zbc hc (i:=3) (by omega)
 obtain⟨l4,w4⟩:=Zbc hc (i:=4) (by omega)
 have w0:ws[0]=decB c.quantum:=w0
 have w1:ws[1]=decB c.maxWait:=w1
 have w2:ws[2]=decB c.maxRetry:=w2
 have w3:ws[3]=decB c.maxSplit:=w3
 have w4:ws[4]=decB c.lockMost:=w4
 have i0:idx ws 0=some (decB c.quantum):=by rw[←w0];exact Zq (k:=0) (by omega)
 have i1:idx ws 1=some (decB c.maxWait):=by rw[←w1];exact Zq (k:=1) (by omega)
 have i2:idx ws 2=some (decB c.maxRetry):=by rw[←w2];exact Zq (k:=2) (by omega)
 have i3:idx ws 3=some (decB c.maxSplit):=by rw[←w3];exact Zq (k:=3) (by omega)
 have i4:idx ws 4=some (decB c.lockMost):=by rw[←w4];exact Zq (k:=4) (by omega)
 have key:∀(m i:Nat),i≤c.masters.length→c.masters.length - i < m→Ya x m {c with masters:=c.masters.take i} ws ((5+i:Nat):Int)=some (c,true):=by
  intro m
  induction m with
  | zero=>intro i _ h;omega
  | succ m ih=>
   intro i hi hm'
   show Xh x (Ya x m) {c with masters:=c.masters.take i} ws ((5+i:Nat):Int)=some (c,true)
   unfold Xh
   by_cases hlt:i < c.masters.length
   ·obtain⟨hwl,hww⟩:=Zkg hc hlt
    obtain⟨ps,p1,p2⟩:=Zbw (x:=ws[5+i]) 58 (by have:ws[5+i].size≤x.size:=Ku h2 (List.getElem_mem hwl);omega)
    have p1:X6 ws[5+i] 58=some ps:=p1
    rw[hww,Zhc] at p2
    have p3:=Zfz p2
    obtain⟨⟨m1,m2⟩,⟨m3,m4⟩,⟨m5,m6⟩,m7⟩:=hm _ (List.getElem_mem hlt)
    rw[if_pos (decide_eq_true (by show ((5+i:Nat):Int) < _;omega)),Zq hwl,Option.bind_some,p1,Option.bind_some]
    have next:Yo x (Ya x m) {c with masters:=c.masters.take i} c.masters[i] ws ((5+i:Nat):Int)=some (c,true):=by
     unfold Yo
     simp only
     rw[Wf (by simp;omega) (by simp;omega),Option.bind_some,Y3 (by omega),←List.take_succ_eq_append_getElem hlt]
     exact ih (i+1) (by omega) (by omega)
    by_cases hp:c.masters[i].prio=true
    ·have p4:ps=[decB c.masters[i].weight,decB c.masters[i].every,decB c.masters[i].cap]:=by rw[p3];unfold Q2;rw[if_pos hp];rfl
     subst p4
     have j0:idx [decB c.masters[i].weight,decB c.masters[i].every,decB c.masters[i].cap] 0=some (decB c.masters[i].weight):=rfl
     have j1:idx [decB c.masters[i].weight,decB c.masters[i].every,decB c.masters[i].cap] 1=some (decB c.masters[i].every):=rfl
     have j2:idx [decB c.masters[i].weight,decB c.masters[i].every,decB c.masters[i].cap] 2=some (decB c.masters[i].cap):=rfl
     rw[j0,Option.bind_some,Y5 ⟨by omega,by omega⟩,Option.bind_some,if_pos (by simp),j1,Option.bind_some,Y5 ⟨by omega,by omega⟩,Option.bind_some,j2,Option.bind_some,Y5 ⟨by omega,by omega⟩,Option.bind_some,m_eta hp]
     exact next
    ·have p4:ps=[decB c.masters[i].weight]:=by rw[p3];unfold Q2;rw[if_neg hp];rfl
     subst p4
     have j0:idx [decB c.masters[i].weight] 0=some (decB c.masters[i].weight):=rfl
     have hp':c.masters[i].prio=false:=by simpa using hp
     rw[j0,Option.bind_some,Y5 ⟨by omega,by omega⟩,Option.bind_some,if_neg (by simp),Zma hp' (m7 hp')]
     exact next
   ·rw[if_neg (by simp;omega),Zgb (List.take_of_length_le (by omega))]
    obtain⟨r,e1,_,e3⟩:=Zbe (x:=x) (c:=c) (by omega)
    rw[e1,e3 ⟨hg,ht⟩]
 unfold Xp
 rw[h1,Option.bind_some,if_neg (by simp;omega),i0,Option.bind_some,Y5 ⟨by omega,by omega⟩,Option.bind_some,i1,Option.bind_some,Y5 ⟨by omega,by omega⟩,Option.bind_some,i2,Option.bind_some,Y5 ⟨by omega,by omega⟩,Option.bind_some,i3,Option.bind_some,Y5 ⟨by omega,by omega⟩,Option.bind_some,i4,Option.bind_some,Y5 ⟨by omega,by omega⟩,Option.bind_some]
 exact key FU 0 (Nat.zero_le _) (by have:=W4;omega)
theorem Za9 {x:ByteArray} {c:GConf} (hl:c.masters.length < 1048577):∃r,((Qn c).bind fun r2=>if (!r2)=true then (some (GConf.z0,false)) else (
   (W3 c).bind fun r3=>if (!(r3.toList == x.toList))=true then (some (GConf.z0,false)) else (some (c,true))))=some r∧Xu x r∧(Zc9 x c→r=(c,true)):=by
 rw[Zdz c hl,Zgp hl,Option.bind_some,Option.bind_some]
 by_cases h:Wb c=true
 ·rw[if_neg (by simp[h]),if_pos h,Lib.toList_data,Lib.toList_data]
  by_cases he:We c=L8 x
  ·have e1:((⟨(We c).toArray⟩:ByteArray).data.toList == x.data.toList)=true:=beq_iff_eq.2 he
   rw[if_neg (by simp[e1])]
   exact⟨_,rfl,.inr ⟨rfl,h,he.symm⟩,fun _=>rfl⟩
  ·have e1:¬((⟨(We c).toArray⟩:ByteArray).data.toList == x.data.toList)=true:=fun hh=>he (beq_iff_eq.1 hh)
   rw[if_pos (by simpa using e1)]
   exact⟨_,rfl,.inl rfl,fun hh=>absurd hh.2.symm he⟩
 ·rw[if_pos (by simp[h])]
  exact⟨_,rfl,.inl rfl,fun hh=>absurd hh.1 h⟩
theorem idx0 {α:Type} {l:List α} (h:1≤l.length):∃a,idx l 0=some a:=⟨l[0],Zq (k:=0) (by omega)⟩
theorem idxn {α:Type} {l:List α} (n:Nat) (h:n < l.length):∃a,idx l (n:Int)=some a:=⟨l[n],Zq h⟩
theorem Zeo {x:ByteArray} {ws:List ByteArray} (hz:∀w∈ws,w.size≤1048576) (hn:ws.length≤10):∀(m j:Nat) (c:GConf),j≤ws.length→ws.length - j < m→c.masters.length≤j→
  ∃r,Zu x m c ws (ws.length:Int) (j:Int)=some r∧Xu x r:=by
 intro m
 induction m with
 | zero=>intro j c _ h;omega
 | succ m ih=>
  intro j c hj hm hc
  show ∃r,Z2 x (Zu x m) c ws (ws.length:Int) (j:Int)=some r∧_
  unfold Z2
  by_cases hlt:j < ws.length
  ·have hsz:=hz _ (List.getElem_mem hlt)
   obtain⟨ps,h1,h2⟩:=Zb0 (x:=ws[j]) 58 (by omega)
   have hp:=Zaq h2
   obtain⟨q,e1,e2⟩:=Zcj (ws:=ps) (by omega) (fun w hw=>by have:=Ku h2 hw;omega)
   rw[if_pos (by simpa using hlt),Zq hlt,Option.bind_some,h1,Option.bind_some,e1,Option.bind_some]
   have next:∀mc:GMConf,∃r,((appI 32 c.masters [mc]).bind fun z0=>Zu x m {c with masters:=z0} ws (ws.length:Int) (addW (j:Int) 1))=some r∧Xu x r:=fun mc=>by
    rw[Wf (by simp;omega) (by simp;omega),Option.bind_some,Y3 (by omega)]
    exact ih (j+1) _ (by omega) (by omega) (by simp;omega)
   have j4:∀b:Bool,(b=true→q.1.length=3)→∃r,Yl x (Zu x m) c q.1 ws (ws.length:Int) (j:Int) b=some r∧Xu x r:=fun b hb=>by
    unfold Yl
    by_cases hbt:b=true
    ·have h3:=hb hbt
     obtain⟨a0,i0⟩:=idxn (l:=q.1) 0 (by omega)
     obtain⟨a1,i1⟩:=idxn (l:=q.1) 1 (by omega)
     obtain⟨a2,i2⟩:=idxn (l:=q.1) 2 (by omega)
     have i0:idx q.1 0=some a0:=i0
     have i1:idx q.1 1=some a1:=i1
     have i2:idx q.1 2=some a2:=i2
     rw[if_pos hbt,i0,Option.bind_some,i1,Option.bind_some,i2,Option.bind_some]
     exact next _
    ·rw[if_neg hbt]
     exact⟨_,rfl,.inl rfl⟩
   have j3:∀(b c2:Bool),(c2=true→q.1.length=1)→∃r,Ym x (Zu x m) c q.1 b ws (ws.length:Int) (j:Int) c2=some r∧Xu x r:=fun b c2 hb=>by
    unfold Ym
    by_cases hbt:c2=true
    ·have h3:=hb hbt
     obtain⟨a0,i0⟩:=idx0 (l:=q.1) (by omega)
     rw[if_pos hbt,i0,Option.bind_some]
     exact next _
    ·rw[if_neg hbt]
     split
     ·exact j4 _ fun h=>by simp at h;omega
     ·exact j4 _ fun h=>by cases h
   split
   ·exact j3 _ _ fun h=>by simp at h;omega
   ·exact j3 _ _ fun h=>by cases h
  ·rw[if_neg (by simpa using hlt)]
   obtain⟨r,h1,h2,_⟩:=Za9 (x:=x) (c:=c) (by omega)
   exact⟨r,h1,h2⟩
theorem Zao {α:Type} {xs:List α} {a b:Nat} (h1:a≤b) (h2:b≤xs.length):X5 xs (a:Int) (b:Int)=some ((xs.drop a).take (b - a)):=by
 unfold X5
 rw[if_pos ⟨by omega,by omega,by omega⟩]
 rfl
theorem Zec {x:ByteArray} (hx:x.size≤1048576):∃r,Xa x=some r∧Xu x r:=by
 obtain⟨ws,h1,h2⟩:=Zb0 (x:=x) 32 (by omega)
 have hz:∀w∈ws,w.size≤1048576:=fun w hw=>by have:=Ku h2 hw;omega
 unfold Xa
 rw[h1,Option.bind_some]
 have bad:∃r,Y4 x ws true=some r∧Xu x r:=⟨_,rfl,.inl rfl⟩
 by_cases hl:ws.length < 6
 ·rw[if_pos (by simp;omega)];exact bad
 ·rw[if_neg (by simp;omega)]
  by_cases hl2:ws.length > 9
  ·rw[show decide ((ws.length:Int) > 9)=true by simp;omega];exact bad
  ·rw[show decide ((ws.length:Int) > 9)=false by simp;omega]
   unfold Y4
   have s0:X5 ws 0 5=some ((ws.drop 0).take 5):=Zao (a:=0) (b:=5) (by omega) (by omega)
   have s1:X5 ws 5 (ws.length:Int)=some ((ws.drop 5).take (ws.length - 5)):=Zao (a:=5) (by omega) (Nat.le_refl _)
   rw[if_neg (by simp),s0,Option.bind_some]
   obtain⟨q,e1,e2⟩:=Zcj (ws:=(ws.drop 0).take 5) (by simp;omega) (fun w hw=>by have:=hz w (List.mem_of_mem_drop (List.mem_of_mem_take hw));omega)
   rw[e1,Option.bind_some]
   by_cases hq:q.2=true
   ·have h5:q.1.length=5:=by
     have:=(e2 hq).1
     rw[this];simp;omega
    obtain⟨a0,i0⟩:=idxn (l:=q.1) 0 (by omega)
    obtain⟨a1,i1⟩:=idxn (l:=q.1) 1 (by omega)
    obtain⟨a2,i2⟩:=idxn (l:=q.1) 2 (by omega)
    obtain⟨a3,i3⟩:=idxn (l:=q.1) 3 (by omega)
    obtain⟨a4,i4⟩:=idxn (l:=q.1) 4 (by omega)
    have i0:idx q.1 0=some a0:=i0
    have i1:idx q.1 1=some a1:=i1
    have i2:idx q.1 2=some a2:=i2
    have i3:idx q.1 3=some a3:=i3
    have i4:idx q.1 4=some a4:=i4
    rw[if_neg (by simp[hq]),i0,Option.bind_some,i1,Option.bind_some,i2,Option.bind_some,i3,Option.bind_some,i4,Option.bind_some,s1,Option.bind_some]
    exact Zeo (fun w hw=>hz w (List.mem_of_mem_drop (List.mem_of_mem_take hw))) (by simp;omega) FU 0 _ (Nat.zero_le _) (by have:=W4;simp;omega) (by simp)
   ·rw[if_pos (by simp[hq])]
    exact⟨_,rfl,.inl rfl⟩
theorem Zee {x:ByteArray} {c:GConf} (h:Zc9 x c) (hx:x.size≤1048576):Xa x=some (c,true):=by
 obtain⟨hg,ht⟩:=h
 have hS:=Zc8 hg
 obtain⟨hq,hw,hr,hs,hk,hn,hm⟩:=hS
 obtain⟨ws,h1,h2⟩:=Zb0 (x:=x) 32 (by omega)
 have hc:ws.map L8=Y0 c:=by rw[h2,Zey ht]
 have hlen:ws.length=5+c.masters.length:=by
  have:=congrArg List.length hc
  simp[Y0,Z7] at this;omega
 have s0:X5 ws 0 5=some ((ws.drop 0).take 5):=Zao (a:=0) (b:=5) (by omega) (by omega)
 have s1:X5 ws 5 (ws.length:Int)=some ((ws.drop 5).take (ws.length - 5)):=Zao (a:=5) (by omega) (Nat.le_refl _)
 have hh:((ws.drop 0).take 5)=(Z7 c).map decB:=by
  refine Zfz ?_
  rw[List.drop_zero,List.map_take,hc]
  unfold Y0
  rw[List.take_append_of_le_length (by simp[Z7]),List.take_of_length_le (by simp[Z7])]
 have ht5:(ws.drop 5).take (ws.length - 5)=ws.drop 5:=List.take_of_length_le (by simp)
 unfold Xa
 rw[h1,Option.bind_some,if_neg (by simp;omega),show decide ((ws.length:Int) > 9)=false by simp;omega]
 unfold Y4
 rw[if_neg (by simp),s0,Option.bind_some,hh,Zd5 (by simp[Z7]) (by
  intro v hv
  unfold Z7 at hv
  simp only[List.mem_cons,List.not_mem_nil,or_false] at hv
  rcases hv with rfl|rfl|rfl|rfl|rfl<;>omega),Option.bind_some,if_neg (by simp),s1]
 have i0:idx (Z7 c) 0=some c.quantum:=rfl
 have i1:idx (Z7 c) 1=some c.maxWait:=rfl
 have i2:idx (Z7 c) 2=some c.maxRetry:=rfl
 have i3:idx (Z7 c) 3=some c.maxSplit:=rfl
 have i4:idx (Z7 c) 4=some c.lockMost:=rfl
 simp only[i0,i1,i2,i3,i4,Option.bind_some,ht5]
 have hd:(ws.drop 5).length=c.masters.length:=by simp;omega
 rw[hd]
 have:=Zbl (σ:=GConf) (n:=c.masters.length) (by omega) (fun k=>({c with masters:=c.masters.take k}:GConf)) (B:=fun κ st j=>Z2 x (fun a b d e=>κ a e) st (ws.drop 5) (c.masters.length:Int) j) (L:=fun m st j=>Zu x m st (ws.drop 5) (c.masters.length:Int) j) (r:=some (c,true)) (fun m s i=>?_) (fun k hk' κ=>?_) fun κ=>?_
 ·exact this
 ·show Z2 x (Zu x m) s (ws.drop 5) (c.masters.length:Int) i=Z2 x (fun a b d e=>Zu x m a (ws.drop 5) (c.masters.length:Int) e) s (ws.drop 5) (c.masters.length:Int) i
  unfold Z2 Ym Yl
  rfl
 ·obtain⟨hwl,hww⟩:=Zkg hc hk'
  have hk2:k < (ws.drop 5).length:=by omega
  have hg':(ws.drop 5)[k]=ws[5+k]:=by rw[List.getElem_drop]
  obtain⟨ps,p1,p2⟩:=Zb0 (x:=ws[5+k]) 58 (by have:ws[5+k].size≤x.size:=Ku h2 (List.getElem_mem hwl);omega)
  rw[hww,Zhc] at p2
  have p3:=Zfz p2
  obtain⟨⟨m1,m2⟩,⟨m3,m4⟩,⟨m5,m6⟩,m7⟩:=hm _ (List.getElem_mem hk')
  have hbn:∀v∈Q2 c.masters[k],-1000000000000000000 < v∧v < 1000000000000000000:=by
   intro v hv
   unfold Q2 at hv
   split at hv
   ·simp only[List.mem_cons,List.not_mem_nil,or_false] at hv
    rcases hv with rfl|rfl|rfl<;>omega
   ·simp only[List.mem_cons,List.not_mem_nil,or_false] at hv
    subst hv;omega
  have hbl:(Q2 c.masters[k]).length≤3:=by unfold Q2;split<;>simp
  unfold Z2
  rw[if_pos (by simpa using hk'),Zq hk2,Option.bind_some,hg',p1,Option.bind_some,p3,Zd5 (by omega) hbn,Option.bind_some,if_pos rfl]
  have ha:appI 32 (c.masters.take k) [c.masters[k]]=some (c.masters.take (k+1)):=by
   rw[Wf (by simp;omega) (by simp;omega),List.take_succ_eq_append_getElem hk']
  unfold Ym Yl
  by_cases hp:c.masters[k].prio=true
  ·have e:Q2 c.masters[k]=[c.masters[k].weight,c.masters[k].every,c.masters[k].cap]:=by unfold Q2;rw[if_pos hp]
   have j0:idx [c.masters[k].weight,c.masters[k].every,c.masters[k].cap] 0=some c.masters[k].weight:=rfl
   have j1:idx [c.masters[k].weight,c.masters[k].every,c.masters[k].cap] 1=some c.masters[k].every:=rfl
   have j2:idx [c.masters[k].weight,c.masters[k].every,c.masters[k].cap] 2=some c.masters[k].cap:=rfl
   simp only[e,j0,j1,j2,Option.bind_some,List.length_cons,List.length_nil,m_eta hp,ha]
   rfl
  ·have hp':c.masters[k].prio=false:=by simpa using hp
   have e:Q2 c.masters[k]=[c.masters[k].weight]:=by unfold Q2;rw[if_neg hp]
   have j0:idx [c.masters[k].weight] 0=some c.masters[k].weight:=rfl
   simp only[e,j0,Option.bind_some,List.length_cons,List.length_nil,Zma hp' (m7 hp'),ha]
   rfl
 ·unfold Z2
  rw[if_neg (by simp),Zgb (List.take_of_length_le (Nat.le_refl _))]
  obtain⟨r,e1,_,e3⟩:=Za9 (x:=x) (c:=c) (by omega)
  rw[e1,e3 ⟨hg,ht⟩]
theorem Zgu {x:ByteArray} (hx:x.size≤1048576):∃r,Xp x=some r∧Xa x=some r∧Xu x r:=by
 obtain⟨r,h1,h2⟩:=Zea hx
 obtain⟨q,h3,h4⟩:=Zec hx
 refine⟨r,h1,?_,h2⟩
 rcases h2 with rfl|⟨hr,hc⟩
 ·rcases h4 with rfl|⟨hq,hd⟩
  ·exact h3
  ·rw[Zei hd hx] at h1
   injection h1 with h1
   injection h1 with _ h1
   cases h1
 ·rw[Zee hc hx]
  obtain⟨r1,r2⟩:=r
  simp only at hr
  rw[hr]
theorem Znx {α:Type} [DecidableEq α] (xs ys:List α) (hl:xs.length < 4611686018427387904) (e:α→α→Option (Option Bool)) (L:Nat→Int→Option Bool)
  (hL:∀m i,L (m+1) i=if decide (i < (xs.length:Int))=true then (idx xs i).bind fun a=>(idx ys i).bind fun b=>(e a b).bind (Zfh (L m (addW i 1))) else some true)
  (he:∀a b,a∈xs→b∈ys→e a b=some (if a=b then none else some false)):
  (if decide ((xs.length:Int)≠(ys.length:Int))=true then some false else L FU 0)=some (decide (xs=ys)):=by
 by_cases hxy:xs.length=ys.length
 ·have h1:¬decide ((xs.length:Int)≠(ys.length:Int))=true:=by simp[hxy]
  rw[if_neg h1]
  have:=Znt xs ys hl hxy e true L hL (fun a b=>decide (a=b)) false (fun a b ha hb=>by rw[he a b ha hb];by_cases h:a=b<;>simp[h]) FU 0 (Nat.zero_le _) (by have:=W4;omega)
  simp only[List.drop_zero] at this
  rw[Zko hxy] at this
  rw[show ((0:Nat):Int)=0 from rfl] at this
  rw[this]
  by_cases h:xs=ys<;>simp[h]
 ·have h1:decide ((xs.length:Int)≠(ys.length:Int))=true:=by simp;omega
  rw[if_pos h1]
  have:xs≠ys:=fun h=>hxy (by rw[h])
  simp[this]
theorem Zlh (a b:GMConf):Wu a b=some (decide (a=b)):=by
 obtain⟨a1,a2,a3,a4⟩:=a
 obtain⟨b1,b2,b3,b4⟩:=b
 unfold Wu
 simp only[GMConf.mk.injEq,decide_eq_true_eq,ne_eq,bne_iff_ne]
 by_cases h1:a1=b1<;>simp[h1]
 by_cases h2:a2=b2<;>simp[h2]
 by_cases h3:a3=b3<;>simp[h3]
 by_cases h4:a4=b4<;>simp[h4]
theorem Zjk (xs ys:List GMConf) (hl:xs.length < 4611686018427387904):Ks xs ys=some (decide (xs=ys)):=by
 unfold Ks
 refine Znx xs ys hl (fun a b=>(Wu a b).bind fun r=>if (!r)=true then some (some false) else some none) (Wk xs ys) (fun m i=>?_) (fun a b _ _=>?_)
 ·show Qv xs ys _ i=_
  unfold Qv
  congr 1;congr 1;funext a;congr 1;funext b
  cases hp:Wu a b with
  | none=>rfl
  | some r=>cases r<;>simp[Zfh]
 ·rw[Zlh]
  by_cases h:a=b<;>simp[h]
theorem Zl4 (a b:GConf) (hl:a.masters.length < 4611686018427387904):Qk a b=some (decide (a=b)):=by
 obtain⟨a1,a2,a3,a4,a5,a6⟩:=a
 obtain⟨b1,b2,b3,b4,b5,b6⟩:=b
 unfold Qk
 simp only
 rw[Zjk a1 b1 hl,Option.bind_some]
 simp only[GConf.mk.injEq,decide_eq_true_eq,ne_eq,bne_iff_ne]
 by_cases h1:a1=b1<;>simp[h1]
 by_cases h2:a2=b2<;>simp[h2]
 by_cases h3:a3=b3<;>simp[h3]
 by_cases h4:a4=b4<;>simp[h4]
 by_cases h5:a5=b5<;>simp[h5]
 by_cases h6:a6=b6<;>simp[h6]
theorem Zlg {l:List GMConf} (h1:1≤l.length) (h2:l.length≤4):∃n y,Kf l 1=some (n,y)∧y.length=l.length∧K0 y 1=some n∧0≤n:=by
 match l,h1,h2 with
 | [a],_,_=>exact⟨5,[⟨1,false,3,4⟩],by kernel_rfl,rfl,by kernel_rfl,by omega⟩
 | [a,b],_,_=>exact⟨9,[⟨1,false,3,4⟩,⟨5,true,7,8⟩],by kernel_rfl,rfl,by kernel_rfl,by omega⟩
 | [a,b,c],_,_=>exact⟨13,[⟨1,false,3,4⟩,⟨5,true,7,8⟩,⟨9,false,11,12⟩],by kernel_rfl,rfl,by kernel_rfl,by omega⟩
 | [a,b,c,d],_,_=>exact⟨17,[⟨1,false,3,4⟩,⟨5,true,7,8⟩,⟨9,false,11,12⟩,⟨13,false,15,16⟩],by kernel_rfl,rfl,by kernel_rfl,by omega⟩
theorem Zkh {α β:Type} {xs:List α} {ys:List β} (h:xs.length=ys.length):lenE xs ys=some ():=by unfold lenE;rw[if_pos h]
theorem Zbm (x:ByteArray) (h:x.size≤maxLen):Wx x=some true:=by
 unfold Wx
 by_cases hs:x.size≤1048576
 ·rw[if_neg (by rw[decide_eq_true_eq];omega)]
  obtain⟨r,h1,h2,h3⟩:=Zgu hs
  have hl:r.1.masters.length≤4:=by
   rcases h3 with rfl|⟨_,hc,_⟩
   ·simp
   ·exact (Zc8 hc).n.2
  have heq:Qk r.1 r.1=some true:=by rw[Zl4 _ _ (by omega)];simp
  have J3:∀(c:GConf) (n:Int),Xq c 1=some n→0≤n→Yg x c n false=some true:=fun c n hh hn=>by
   unfold Yg
   rw[if_neg (by simp),hh,Option.bind_some,if_neg (by rw[decide_eq_true_eq];omega),if_neg (by simp)]
  have J2:∀(c:GConf) (n:Int),Xq c 1=some n→0≤n→Yf x r.1 c r.2 n=some true:=fun c n hh hn=>by
   unfold Yf
   rw[hh,Option.bind_some,if_neg (by rw[decide_eq_true_eq];omega),if_neg (by simp),h2,Option.bind_some,heq,Option.bind_some,if_neg (by simp),bne_self_eq_false]
   exact J3 c n hh hn
  rw[h1,Option.bind_some,h2,Option.bind_some,heq,Option.bind_some,if_neg (by simp),bne_self_eq_false]
  unfold Yy
  rw[if_neg (by simp)]
  by_cases h0:r.1.masters.length=0
  ·rw[if_pos (by simpa using h0)]
   have e1:Jx {r.1 with masters:=[]} 1=some (1,{r.1 with masters:=[]}):=rfl
   rw[e1,Option.bind_some]
   refine J2 _ _ ?_ (by omega)
   unfold Xq
   rw[List.eq_nil_of_length_eq_zero h0];rfl
  ·rw[if_neg (by simpa using h0)]
   obtain⟨n,y,m1,m2,m3,m4⟩:=Zlg (l:=r.1.masters) (by omega) hl
   have e1:Q3 r.1 1=some (n,{r.1 with masters:=y}):=by
    unfold Q3
    rw[if_neg (by simpa using h0),m1,Option.bind_some,Zkh m2.symm];rfl
   rw[e1,Option.bind_some,Zkh m2.symm,Option.bind_some]
   refine J2 _ _ ?_ m4
   unfold Xq
   rw[m3,Option.bind_some,if_neg (by rw[decide_eq_true_eq];omega)]
 ·rw[if_pos (by rw[decide_eq_true_eq];omega)]
end Go.Proofs.YtlcfolgfmlgncaaDoor.Ev
