/- A part of the proof of FnExactFinished: see the text YtgmmcfpabnoekaaLawFnExactFinished for what is proved and its conditions. Conditions here: those in each line. -/
import Derived.Test.YtgmmcfpabnoekaaA4
namespace Go.Proofs.Ytgmmcfpabnoekaa.Ev
open Go Go.Proofs
set_option linter.unusedVariables false
set_option linter.unusedSimpArgs false
theorem Zjh {n:Int} (h1:-9223372036854775808≤n) (h2:n < 9223372036854775808):IntKind.i64.wrap n=n:=w64_of h1 h2
theorem Zmf {a b:Int} (h1:-9223372036854775808≤a+b) (h2:a+b < 9223372036854775808):addW a b=a+b:=Zjh h1 h2
theorem Zhj {a b:Int} (h1:-9223372036854775808≤a - b) (h2:a - b < 9223372036854775808):subW a b=a - b:=Zjh h1 h2
theorem Xy {k:Nat} (h:k < 4611686018427387904):addW (k:Int) 1=((k+1:Nat):Int):=by rw[Zmf (by omega) (by omega)];rfl
section
variable {α β σ ρ:Type}
theorem Wb {xs:List α} {k:Nat} (h:k < xs.length):idx xs (k:Int)=some xs[k]:=by
 simp[idx,h]
theorem Zay:4611686018427387904 < FU:=by decide
def runL (step:α→σ→Option (σ ⊕ ρ)) (fin:σ→Option ρ):List α→σ→Option ρ
 | [],s=>fin s
 | a::l,s=>(step a s).bind fun r=>match r with|.inl s'=>runL step fin l s'|.inr x=>some x
def goL (k:σ→Option ρ):σ ⊕ ρ→Option ρ
 | .inl s=>k s
 | .inr x=>some x
theorem Zj0 (xs:List α) (hl:xs.length < 4611686018427387904) (step:α→σ→Option (σ ⊕ ρ)) (fin:σ→Option ρ) (L:Nat→σ→Int→Option ρ)
  (hL:∀m s i,L (m+1) s i=if decide (i < (xs.length:Int))=true then (idx xs i).bind fun a=>(step a s).bind (goL fun s'=>L m s' (addW i 1)) else fin s):
  ∀(m k:Nat) (s:σ),k≤xs.length→xs.length - k < m→L m s k=runL step fin (xs.drop k) s:=by
 intro m
 induction m with
 | zero=>intro k s _ h;omega
 | succ m ih=>
  intro k s hk hm
  rw[hL]
  by_cases hc:k < xs.length
  ·have h1:decide ((k:Int) < (xs.length:Int))=true:=by simpa using hc
   rw[if_pos h1,Wb hc,Option.bind_some,List.drop_eq_getElem_cons hc]
   simp only[runL]
   congr 1
   funext r
   cases r with
   | inl s'=>
    simp only[goL]
    rw[Xy (by omega)]
    exact ih (k+1) s' (by omega) (by omega)
   | inr x=>rfl
  ·have h1:¬decide ((k:Int) < (xs.length:Int))=true:=by simpa using hc
   rw[if_neg h1,List.drop_eq_nil_of_le (by omega)]
   rfl
theorem Zk8 (xs:List α) (hl:xs.length < 4611686018427387904) (step:α→σ→Option (σ ⊕ ρ)) (fin:σ→Option ρ) (L:Nat→σ→Int→Option ρ)
  (hL:∀m s i,L (m+1) s i=if decide (i < (xs.length:Int))=true then (idx xs i).bind fun a=>(step a s).bind (goL fun s'=>L m s' (addW i 1)) else fin s) (s:σ):
  L FU s 0=runL step fin xs s:=by
 have:=Zj0 xs hl step fin L hL FU 0 s (Nat.zero_le _) (by have:=Zay;omega)
 simpa using this
theorem W9 (xs:List α) (g:α→β) (hl:xs.length < 4611686018427387904) (f:α→Option β) (hf:∀a∈xs,f a=some (g a)) (L:Nat→List β→Int→Option (List β))
  (hL:∀m v i,L (m+1) v i=if decide (i < (xs.length:Int))=true then (idx xs i).bind fun a=>(f a).bind fun b=>(idx v i).bind fun _=>(setO v i b).bind fun y=>L m y (addW i 1) else some v) (v:List β) (hv:v.length=xs.length):L FU v 0=some (xs.map g):=by
 have key:∀(m k:Nat) (v:List β),k≤xs.length→xs.length - k < m→v.length=xs.length→v.take k=(xs.take k).map g→L m v k=some (xs.map g):=by
  intro m
  induction m with
  | zero=>intro k v _ h;omega
  | succ m ih=>
   intro k v hk hm hv ht
   rw[hL]
   by_cases hc:k < xs.length
   ·have h1:decide ((k:Int) < (xs.length:Int))=true:=by simpa using hc
    have hc2:k < v.length:=by omega
    rw[if_pos h1,Wb hc,Option.bind_some,hf _ (List.getElem_mem hc),Option.bind_some,Wb hc2,Option.bind_some]
    simp only[setO,Option.bind_some]
    rw[Xy (by omega)]
    refine ih (k+1) _ (by omega) (by omega) (by simp[hv]) ?_
    rw[Int.toNat_natCast,List.take_add_one,List.take_add_one,List.map_append,List.take_set_of_le (Nat.le_refl _),ht,List.getElem?_set_self hc2,List.getElem?_eq_getElem hc]
    rfl
   ·have h1:¬decide ((k:Int) < (xs.length:Int))=true:=by simpa using hc
    rw[if_neg h1]
    rw[List.take_of_length_le (by omega),List.take_of_length_le (by omega)] at ht
    rw[ht]
 have:=key FU 0 v (Nat.zero_le _) (by have:=Zay;omega) hv (by simp)
 simpa using this
theorem Ji {sz n:Nat} {z:α} (h1:n*sz≤70368744177664) (h2:n≤9223372036854775807):mkI sz (n:Int) z=some (List.replicate n z):=by
 simp[mkI,h1,h2]
theorem Zhb {sz:Nat} {xs ys:List α} (h1:(xs.length+ys.length)*sz≤140737488355328) (h2:xs.length+ys.length≤9223372036854775807):appI sz xs ys=some (xs++ys):=by
 unfold appI
 rw[if_pos ⟨h1,h2⟩]
end
section
variable {α:Type}
theorem Zih (xs:List α) (hl:xs.length < 4611686018427387904) (f:α→Option Bool) (q:α→Bool) (hf:∀a∈xs,f a=some (!q a)) (L:Nat→Int→Option Int)
  (hL:∀m i,L (m+1) i=if decide (i < (xs.length:Int))=true then (idx xs i).bind fun a=>(f a).bind fun r=>if r=true then some i else L m (addW i 1) else some (-1)):
  (xs.all q=true∧L FU 0=some (-1))∨∃k:Nat,∃h:k < xs.length,L FU 0=some (k:Int)∧q xs[k]=false∧(xs.take k).all q=true:=by
 have key:∀(m k:Nat),k≤xs.length→xs.length - k < m→(xs.take k).all q=true→(xs.all q=true∧L m k=some (-1))∨∃j:Nat,∃h:j < xs.length,L m k=some (j:Int)∧q xs[j]=false∧(xs.take j).all q=true:=by
  intro m
  induction m with
  | zero=>intro k _ h;omega
  | succ m ih=>
   intro k hk hm ht
   rw[hL]
   by_cases hc:k < xs.length
   ·have h1:decide ((k:Int) < (xs.length:Int))=true:=by simpa using hc
    rw[if_pos h1,Wb hc,Option.bind_some,hf _ (List.getElem_mem hc),Option.bind_some]
    by_cases hq:q xs[k]=true
    ·have h2:¬(!q xs[k])=true:=by simp[hq]
     rw[if_neg h2,Xy (by omega)]
     refine ih (k+1) (by omega) (by omega) ?_
     rw[List.take_succ_eq_append_getElem hc,List.all_append,ht];simp[hq]
    ·have h2:(!q xs[k])=true:=by simpa using hq
     rw[if_pos h2]
     exact .inr ⟨k,hc,rfl,by simpa using hq,ht⟩
   ·have h1:¬decide ((k:Int) < (xs.length:Int))=true:=by simpa using hc
    rw[if_neg h1]
    rw[List.take_of_length_le (by omega)] at ht
    exact .inl ⟨ht,rfl⟩
 exact key FU 0 (Nat.zero_le _) (by have:=Zay;omega) (by simp)
theorem Zfy (xs:List α) (z:α) (hl:xs.length < 4611686018427387904) (f:α→Option Bool) (q:α→Bool) (hf:∀a∈xs,f a=some (!q a)) (I:Nat→Int→Option Int)
  (hI:∀m i,I (m+1) i=if decide (i < (xs.length:Int))=true then (idx xs i).bind fun a=>(f a).bind fun r=>if r=true then some i else I m (addW i 1) else some (-1))
  (L:Nat→List α→Int→Int→Option (List α))
  (hL:∀m v i j,L (m+1) v i j=if decide (j < (v.length:Int))=true then (idx v j).bind fun a=>(f a).bind fun r=>if (!r)=true then (idx v i).bind fun _=>(setO v i a).bind fun y=>L m y (addW i 1) (addW j 1) else L m v i (addW j 1)
   else (Yv v i (v.length:Int)).bind fun _=>(clrI z v i (v.length:Int)).bind fun y=>(Yv y 0 i).bind fun s=>some s):
  ((I FU 0).bind fun r=>if decide (r=(-1))=true then some xs else L FU xs r (addW r 1))=some (xs.filter q):=by
 have key:∀(m i j:Nat) (v:List α),i≤j→j≤xs.length→xs.length - j < m→v.length=xs.length→v.take i=(xs.take j).filter q→v.drop j=xs.drop j→L m v i j=some (xs.filter q):=by
  intro m
  induction m with
  | zero=>intro i j v _ _ h;omega
  | succ m ih=>
   intro i j v hij hj hm hv ht hd
   rw[hL]
   by_cases hc:j < v.length
   ·have hc2:j < xs.length:=by omega
    have h1:decide ((j:Int) < (v.length:Int))=true:=by simpa using hc
    have e:v[j]=xs[j]:=by
     have:=congrArg List.head? hd
     simpa [List.head?_drop,hc,hc2] using this
    have hd2:v.drop (j+1)=xs.drop (j+1):=by
     have:=congrArg (List.drop 1) hd
     simpa [List.drop_drop] using this
    rw[if_pos h1,Wb hc,Option.bind_some,e,hf _ (List.getElem_mem hc2),Option.bind_some,Bool.not_not]
    by_cases hq:q xs[j]=true
    ·rw[if_pos hq,Wb (by omega:i < v.length),Option.bind_some]
     simp only[setO,Option.bind_some]
     rw[Xy (by omega),Xy (by omega)]
     refine ih (i+1) (j+1) _ (by omega) (by omega) (by omega) (by simp[hv]) ?_ ?_
     ·rw[Int.toNat_natCast,List.take_succ_eq_append_getElem (by simpa using (by omega:i < v.length)),List.take_set_of_le (Nat.le_refl _),ht,List.take_succ_eq_append_getElem hc2,List.filter_append]
      simp[hq]
     ·rw[Int.toNat_natCast,List.drop_set_of_lt (by omega),hd2]
    ·rw[if_neg hq,Xy (by omega)]
     refine ih i (j+1) v (by omega) (by omega) (by omega) hv ?_ hd2
     rw[ht,List.take_succ_eq_append_getElem hc2,List.filter_append]
     simp[hq]
   ·have h1:¬decide ((j:Int) < (v.length:Int))=true:=by simpa using hc
    have hjx:j=xs.length:=by omega
    rw[if_neg h1]
    have h2:Yv v (i:Int) (v.length:Int)=some ((v.drop i).take (v.length - i)):=by
     unfold Yv;rw[if_pos ⟨by omega,by omega,by omega⟩];simp
    have h3:clrI z v (i:Int) (v.length:Int)=some (v.take i++List.replicate (v.length - i) z++v.drop v.length):=by
     unfold clrI
     have:(i:Int).toNat+((v.length:Int).toNat - (i:Int).toNat)=v.length:=by omega
     rw[if_pos (by omega),this];simp
    rw[h2,Option.bind_some,h3,Option.bind_some]
    have h4:Yv (v.take i++List.replicate (v.length - i) z++v.drop v.length) 0 (i:Int)=some (v.take i):=by
     unfold Yv
     rw[if_pos ⟨by omega,by omega,by simp;omega⟩]
     have:(v.take i).length=i:=by rw[List.length_take];omega
     simp[List.append_assoc,List.take_append,this]
    rw[h4,Option.bind_some,ht,hjx,List.take_length]
 rcases Zih xs hl f q hf I hI with⟨h1,h2⟩|⟨k,hk,h1,h2,h3⟩
 ·rw[h2,Option.bind_some,if_pos (by decide)]
  congr 1
  exact (List.filter_eq_self.2 (fun a ha=>List.all_eq_true.1 h1 a ha)).symm
 ·rw[h1,Option.bind_some,if_neg (by simp),Xy (by omega)]
  refine key FU k (k+1) xs (by omega) (by omega) (by have:=Zay;omega) rfl ?_ rfl
  rw[List.take_succ_eq_append_getElem hk,List.filter_append,List.filter_eq_self.2 (fun a ha=>List.all_eq_true.1 h3 a ha)]
  simp[h2]
end
theorem Zhr {σ ρ:Type} {n:Nat} (hn:n < 4611686018427387904) (st:Nat→σ) {B:(σ→Int→ρ)→σ→Int→ρ} {L:Nat→σ→Int→ρ} (hL:∀m s i,L (m+1) s i=B (L m) s i)
  (hs:∀k,k < n→∀κ,B κ (st k) (k:Int)=κ (st (k+1)) (addW (k:Int) 1)) {r:ρ} (hf:∀κ,B κ (st n) (n:Int)=r):L FU (st 0) 0=r:=by
 have key:∀(m k:Nat),k≤n→n - k < m→L m (st k) (k:Int)=r:=by
  intro m
  induction m with
  | zero=>intro k _ h;omega
  | succ m ih=>
   intro k hk hm
   rw[hL]
   by_cases hc:k < n
   ·rw[hs k hc,Xy (by omega)]
    exact ih (k+1) (by omega) (by omega)
   ·have:k=n:=by omega
    subst this
    exact hf _
 have:=key FU 0 (Nat.zero_le _) (by have:=Zay;omega)
 simpa using this
theorem Zfp {ρ:Type} {n:Nat} (hn:n < 4611686018427387904) {B:(Int→ρ)→Int→ρ} {L:Nat→Int→ρ} (hL:∀m i,L (m+1) i=B (L m) i)
  (hs:∀k,k < n→∀κ,B κ (k:Int)=κ (addW (k:Int) 1)) {r:ρ} (hf:∀κ,B κ (n:Int)=r):L FU 0=r:=
 Zhr (σ:=Unit) hn (fun _=>()) (B:=fun κ _ i=>B (κ ()) i) (L:=fun m _ i=>L m i) (fun m _ i=>hL m i) (fun k hk κ=>hs k hk _) fun κ=>hf _
theorem Zk9 (xs:List GDone) (h:xs.length < 1048577):appI 56 [] xs=some xs:=by
 rw[Zhb (by simp;omega) (by simp;omega)];rfl
def ofL (l:List GDone) (i:Int):List GDone:=l.filter fun d=>decide (d.who=i)
theorem Zgy (l:List GDone) (i:Int) (hl:l.length < 1048577):Q4 l i=some (ofL l i):=by
 unfold Q4 Ye
 rw[Zk9 l hl,Option.bind_some]
 have:=Zfy l GDone.z0 (by omega) (fun d=>X2 d i) (fun d=>decide (d.who=i)) (fun d _=>by unfold X2;by_cases h:d.who=i<;>simp[h]) (Zq l i) (fun m j=>rfl) (Zp l i) (fun m v j k=>rfl)
 unfold Z1 Z3
 rw[this]
 rfl
theorem Zd7 (b:GBus) (i:Int) (hl:b.log.length < 1048577):Wy b i=some ((ofL b.log i).length:Int):=by
 unfold Wy
 rw[Zgy _ _ hl]
 rfl
theorem Zls (l:List GDone) (d:GDone) (i:Int):ofL (l++[d]) i=if d.who=i then ofL l i++[d] else ofL l i:=by
 unfold ofL
 rw[List.filter_append]
 by_cases h:d.who=i<;>simp[h]
def Wk (left:Int) (n:Nat):Int:=if left < (n:Int) then -1 else left - n
def Sz (f:Int→Option Int) (n:Nat):Prop:=∀left,0≤left→left≤1048576→f left=some (Wk left n)
theorem Sz.tail {f:Int→Option Int} {n:Nat} (h:Sz f n):Sz (fun l=>(f l).bind fun r=>if decide (r < 0)=true then some (-1) else some r) n:=by
 intro l h0 h1
 dsimp only
 rw[h l h0 h1,Option.bind_some]
 unfold Wk
 by_cases hc:l < (n:Int)
 ·simp[hc]
 ·rw[if_neg hc,if_neg (by simp;omega)]
theorem Sz.seq {f g:Int→Option Int} {n m:Nat} (h:Sz f n) (k:Sz g m):Sz (fun l=>(f l).bind fun r=>if decide (r < 0)=true then some (-1) else g r) (n+m):=by
 intro l h0 h1
 dsimp only
 rw[h l h0 h1,Option.bind_some]
 unfold Wk
 by_cases hc:l < (n:Int)
 ·rw[if_pos hc,if_pos (by decide),if_pos (by omega)]
 ·rw[if_neg hc,if_neg (by simp;omega),k _ (by omega) (by omega)]
  unfold Wk
  by_cases hd:l - (n:Int) < (m:Int)
  ·rw[if_pos hd,if_pos (by omega)]
  ·rw[if_neg hd,if_neg (by omega)]
   congr 1;omega
theorem Sz.flat {n:Nat} (hn:n≤9223372036854775807):Sz (fun l=>if decide ((subW l (n:Int)) < 0)=true then some (-1) else some (subW l (n:Int))) n:=by
 intro l h0 h1
 dsimp only
 rw[Zhj (by omega) (by omega)]
 unfold Wk
 by_cases h:l < (n:Int)
 ·rw[if_pos (by simp;omega),if_pos h]
 ·rw[if_neg (by simp;omega),if_neg h]
theorem Sz.list {α:Type} (xs:List α) (f:α→Int→Option Int) (t:α→Nat) (hn:xs.length≤9223372036854775807) (hf:∀a∈xs,Sz (f a) (t a)) (L:Int→Nat→Int→Int→Option Int)
  (hL:∀l m v i,L l (m+1) v i=if decide (i < (xs.length:Int))=true then (idx xs i).bind fun a=>(f a v).bind fun r=>if decide (r < 0)=true then some (-1) else L l m r (addW i 1) else some v):
  Sz (fun l=>if decide ((subW l (xs.length:Int)) < 0)=true then some (-1) else L l FU (subW l (xs.length:Int)) 0) (xs.length+(xs.map t).sum):=by
 intro l h0 h1
 dsimp only
 rw[Zhj (by omega) (by omega)]
 by_cases h:l < (xs.length:Int)
 ·rw[if_pos (by simp;omega)]
  unfold Wk
  rw[if_pos (by omega)]
 ·rw[if_neg (by simp;omega)]
  have key:=Zk8 (ρ:=Int) xs (by omega) (fun a s=>(f a s).bind fun r=>if decide (r < 0)=true then some (.inr (-1)) else some (.inl r)) some (L l) (fun m s i=>by
   rw[hL]
   congr 1;congr 1;funext a
   cases f a s with
   | none=>rfl
   | some r=>
    simp only[Option.bind_some]
    by_cases hr:r < 0<;>simp[hr,goL]) (l - xs.length)
  rw[key]
  have run:∀(ys:List α) (s:Int),0≤s→s≤1048576→(∀a∈ys,Sz (f a) (t a))→runL (fun a s=>(f a s).bind fun r=>if decide (r < 0)=true then some (.inr (-1)) else some (.inl r)) some ys s=some (Wk s (ys.map t).sum):=by
   intro ys
   induction ys with
   | nil=>intro s hs0 _ _;simp[runL,Wk];omega
   | cons p ys ih=>
    intro s hs0 hs1 hp
    simp only[runL,hp p List.mem_cons_self s hs0 hs1,Option.bind_some,List.map_cons,List.sum_cons]
    unfold Wk
    by_cases hr:s < (t p:Int)
    ·rw[if_pos hr,if_pos (by decide),if_pos (by omega)]
     rfl
    ·rw[if_neg hr,if_neg (by simp;omega)]
     simp only[Option.bind_some]
     rw[ih _ (by omega) (by omega) (fun q hq=>hp q (List.mem_cons_of_mem _ hq))]
     unfold Wk
     by_cases h3:s - (t p:Int) < ((ys.map t).sum:Nat)
     ·rw[if_pos h3,if_pos (by omega)]
     ·rw[if_neg h3,if_neg (by omega)]
      congr 1;omega
  rw[run xs _ (by omega) (by omega) hf]
  unfold Wk
  by_cases h3:l - (xs.length:Int) < ((xs.map t).sum:Nat)
  ·rw[if_pos h3,if_pos (by omega)]
  ·rw[if_neg h3,if_neg (by omega)]
   congr 1;omega
theorem Zcq {α:Type} {xs:List α} {t:α→Nat} {a:α} (h:a∈xs):t a≤(xs.map t).sum:=by
 induction xs with
 | nil=>simp at h
 | cons q l ih=>
  simp only[List.map_cons,List.sum_cons]
  rcases List.mem_cons.1 h with rfl|h
  ·omega
  ·have:=ih h;omega
def GReq.tot (r:GReq):Nat:=r.data_.length
def Q6 (l:List GReq):Nat:=l.length+(l.map GReq.tot).sum
def GMst.tot (m:GMst):Nat:=Q6 m.queue
def Q7 (l:List GMst):Nat:=l.length+(l.map GMst.tot).sum
def GModel.tot (m:GModel):Nat:=m.mem.length+(m.dev.regs.length+m.dev.fifo.length)
def GBus.tot (b:GBus):Nat:=b.conf.masters.length+(Q7 b.m+(b.buckets.length+(b.splits.length+(b.model.tot+b.log.length))))
theorem Zkh (c:GConf) (h:c.ok):Sz (J6 c) c.masters.length:=(Sz.flat (by have:=h.1.1;unfold maxLen at this;omega)).tail
theorem Zk6 (r:GReq) (h:r.ok):Sz (Ky r) r.tot:=(Sz.flat (by have:=h.2.2.2.2.2.1;unfold maxLen at this;omega)).tail
theorem Zki (l:List GReq) (h0:l.length≤maxLen) (h:∀r∈l,r.ok):Sz (Jq l) (Q6 l):=
 Sz.list l Ky GReq.tot (by unfold maxLen at h0;omega) (fun a ha=>Zk6 a (h a ha)) (X5 l) (fun _ _ _ _=>rfl)
theorem Zlz (m:GMst) (h:m.ok):Sz (K5 m) m.tot:=(Zki m.queue h.1.1 h.1.2).tail
theorem Zkg (l:List GMst) (h0:l.length≤maxLen) (h:∀r∈l,r.ok):Sz (J3 l) (Q7 l):=
 Sz.list l K5 GMst.tot (by unfold maxLen at h0;omega) (fun a ha=>Zlz a (h a ha)) (Wc l) (fun _ _ _ _=>rfl)
theorem Zh9 (m:GModel) (h:m.ok):Sz (Jd m) m.tot:=by
 have h1:=h.1.1;have h2:=h.2.1.1;have h3:=h.2.2.2.1
 unfold maxLen at h1 h2 h3
 exact (Sz.flat (by omega)).seq ((Sz.flat (by omega)).seq (Sz.flat (by omega)).tail).tail
theorem Zma (b:GBus) (h:b.ok):Sz (Zao b) b.tot:=by
 obtain⟨h1,-,h2,-,h3,h4,-,-,-,-,-,h5,-,h6⟩:=h
 have a3:=h3.1;have a4:=h4.1;have a6:=h6.1
 unfold maxLen at a3 a4 a6
 exact (Zkh _ h1).seq ((Zkg _ h2.1 h2.2).seq ((Sz.flat (by omega)).seq ((Sz.flat (by omega)).seq ((Zh9 _ h5).seq (Sz.flat (by omega)).tail))))
theorem Qp (xs:List Int) (hl:xs.length < 1048577):Y3 xs=some xs:=by
 unfold Y3
 rw[Ji (by omega) (by omega),Option.bind_some]
 have:=W9 xs id (by omega) some (fun a _=>rfl) (Wa xs) (fun m v i=>rfl) (List.replicate xs.length 0) (by simp)
 simpa using this
theorem Zji (c:GConf) (hl:c.masters.length < 1048577):Qt c=some c:=by
 have:W7 c.masters=some c.masters:=by
  unfold W7
  rw[Ji (by omega) (by omega),Option.bind_some]
  have:=W9 c.masters id (by omega) K8 (fun a _=>rfl) (Xf c.masters) (fun m v i=>rfl) (List.replicate c.masters.length GMConf.z0) (by simp)
  simpa using this
 unfold Qt
 rw[this];rfl
theorem Zkv (r:GReq) (h:r.data_.length < 1048577):Qo r=some r:=by
 unfold Qo
 rw[Qp _ h];rfl
theorem Zkb (l:List GReq) (h:Q6 l < 1048577):Q5 l=some l:=by
 unfold Q6 at h
 unfold Q5
 rw[Ji (by omega) (by omega),Option.bind_some]
 have:=W9 l id (by omega) Qo (fun a ha=>Zkv a (by have:=Zcq (t:=GReq.tot) ha;unfold GReq.tot at this h;omega)) (Wd l) (fun m v i=>rfl) (List.replicate l.length GReq.z0) (by simp)
 simpa using this
theorem Zju (l:List GMst) (h:Q7 l < 1048577):Qy l=some l:=by
 unfold Q7 at h
 unfold Qy
 rw[Ji (by omega) (by omega),Option.bind_some]
 have:=W9 l id (by omega) K2 (fun a ha=>by
  unfold K2
  rw[Zkb _ (by have:=Zcq (t:=GMst.tot) ha;unfold GMst.tot at this h;omega)]
  rfl) (X8 l) (fun m v i=>rfl) (List.replicate l.length GMst.z0) (by simp)
 simpa using this
theorem Zi2 (m:GModel) (h:m.tot < 1048577):Qh m=some m:=by
 unfold GModel.tot at h
 unfold Qh Zan
 rw[Qp _ (by omega),Option.bind_some,Qp _ (by omega),Option.bind_some,Qp _ (by omega)]
 rfl
theorem Zlj (b:GBus) (h:b.tot < 1048577):Wo b=some b:=by
 unfold GBus.tot at h
 have e1:Wi b.buckets=some b.buckets:=by
  unfold Wi
  rw[Ji (by omega) (by omega),Option.bind_some]
  have:=W9 b.buckets id (by omega) Ki (fun a _=>rfl) (Y7 b.buckets) (fun m v i=>rfl) (List.replicate b.buckets.length GBucket.z0) (by simp)
  simpa using this
 have e2:Qc b.log=some b.log:=by
  unfold Qc
  rw[Ji (by omega) (by omega),Option.bind_some]
  have:=W9 b.log id (by omega) J7 (fun a _=>rfl) (Xp b.log) (fun m v i=>rfl) (List.replicate b.log.length GDone.z0) (by simp)
  simpa using this
 unfold Wo
 rw[Zji _ (by omega),Option.bind_some,Zju _ (by omega),Option.bind_some,show Zaz b.arb=some b.arb from rfl,Option.bind_some,e1,Option.bind_some,Qp _ (by omega),Option.bind_some,show W1 b.addr=some b.addr from rfl,Option.bind_some,show W1 b.data_=some b.data_ from rfl,Option.bind_some,Zi2 _ (by omega),Option.bind_some,e2]
 rfl
theorem Jm {α:Type} (xs:List α) (hl:xs.length < 4611686018427387904) (e:α→α→Option Bool) (L:Nat→Int→Option Bool)
  (hL:∀m i,L (m+1) i=if decide (i < (xs.length:Int))=true then (idx xs i).bind fun a=>(idx xs i).bind fun b=>(e a b).bind fun r=>if (!r)=true then some false else L m (addW i 1) else some true)
  (he:∀a∈xs,e a a=some true):(if decide ((xs.length:Int)≠(xs.length:Int))=true then some false else L FU 0)=some true:=by
 rw[if_neg (by simp)]
 refine Zfp (n:=xs.length) hl (B:=fun κ i=>if decide (i < (xs.length:Int))=true then (idx xs i).bind fun a=>(idx xs i).bind fun b=>(e a b).bind fun r=>if (!r)=true then some false else κ (addW i 1) else some true) (L:=L) hL (fun k hk κ=>?_) fun κ=>?_
 ·rw[if_pos (by simpa using hk),Wb hk,Option.bind_some,Option.bind_some,he _ (List.getElem_mem hk)]
  rfl
 ·rw[if_neg (by simp)]
theorem Wg (xs:List Int) (hl:xs.length < 1048577):Y0 xs xs=some true:=by
 unfold Y0
 rw[if_neg (by simp)]
 refine Zfp (n:=xs.length) (by omega) (B:=Xm xs xs) (L:=We xs xs) (fun m i=>rfl) (fun k hk κ=>?_) fun κ=>?_
 ·unfold Xm
  rw[if_pos (by simpa using hk),Wb hk]
  simp
 ·unfold Xm
  rw[if_neg (by simp)]
theorem Zex (m:GMConf):Wf m m=some true:=by unfold Wf;simp
theorem Zgg (c:GConf) (hl:c.masters.length < 1048577):Qv c c=some true:=by
 have:W6 c.masters c.masters=some true:=by
  unfold W6
  exact Jm c.masters (by omega) Wf (Xe c.masters c.masters) (fun m i=>rfl) (fun a _=>Zex a)
 unfold Qv
 rw[this];simp
theorem Zin (r:GReq) (h:r.data_.length < 1048577):Ql r r=some true:=by
 unfold Ql
 rw[Wg _ h];simp
theorem Zgt (l:List GReq) (h:Q6 l < 1048577):Q1 l l=some true:=by
 unfold Q6 at h
 unfold Q1
 exact Jm l (by omega) Ql (X4 l l) (fun m i=>rfl) (fun a ha=>Zin a (by have:=Zcq (t:=GReq.tot) ha;unfold GReq.tot at this h;omega))
theorem Zgp (l:List GMst) (h:Q7 l < 1048577):Qz l l=some true:=by
 unfold Q7 at h
 unfold Qz
 exact Jm l (by omega) Kv (X6 l l) (fun m i=>rfl) (fun a ha=>by
  unfold Kv
  rw[Zgt _ (by have:=Zcq (t:=GMst.tot) ha;unfold GMst.tot at this h;omega)]
  simp)
theorem Zfi (m:GModel) (h:m.tot < 1048577):Qd m m=some true:=by
 unfold GModel.tot at h
 unfold Qd Za5
 rw[Wg _ (by omega),Wg m.dev.regs (by omega),Wg m.dev.fifo (by omega)]
 simp
theorem Zgl (d:GDone):Wr d d=some true:=by unfold Wr;simp
theorem Zer (l:List GDone) (h:l.length < 1048577):Qi l l=some true:=by
 unfold Qi
 exact Jm l (by omega) Wr (Xr l l) (fun m i=>rfl) (fun a _=>Zgl a)
theorem Zgr (x:GBeat):Wx x x=some true:=by unfold Wx;simp
theorem Zh8 (b:GBus) (h:b.tot < 1048577):Ks b b=some true:=by
 unfold GBus.tot at h
 have e1:Wl b.buckets b.buckets=some true:=by
  unfold Wl
  exact Jm b.buckets (by omega) Wz (Y9 b.buckets b.buckets) (fun m i=>rfl) (fun a _=>by unfold Wz;simp)
 have e2:Kt b.arb b.arb=some true:=by unfold Kt;simp
 unfold Ks
 simp[Zgg b.conf (by omega),Zgp b.m (by omega),e1,e2,Wg b.splits (by omega),Zgr,Zfi b.model (by omega),Zer b.log (by omega)]
theorem Zgd (l:List GDone) (i:Int) (hl:l.length < 1048577):Qx l i=some (ofL l i):=by
 unfold Qx
 refine Zhr (σ:=List GDone) (n:=l.length) (by omega) (fun k=>ofL (l.take k) i) (B:=fun κ st j=>Xo l i κ st j) (L:=fun m st j=>X3 l i m st j) (fun m s i=>rfl) (fun k hk κ=>?_) fun κ=>?_
 ·have h1:(ofL (l.take k) i).length≤k:=Nat.le_trans (List.length_filter_le ..) (by rw[List.length_take];omega)
  unfold Xo
  rw[if_pos (by simpa using hk),Wb hk,Option.bind_some,List.take_succ_eq_append_getElem hk,Zls]
  by_cases hw:l[k].who=i
  ·rw[if_pos (by simpa using hw),if_pos hw,Zhb (by simp;omega) (by simp;omega),Option.bind_some]
  ·rw[if_neg (by simpa using hw),if_neg hw]
 ·unfold Xo
  rw[if_neg (by simp),List.take_length]
theorem Jf (b:GBus) (who:Int) (h:b.ok) (hw:(Lit.int .i64 who).wf=true):Xl b who=some true:=by
 unfold Xl
 rw[Zma b h _ (by omega) (by omega),Option.bind_some]
 unfold Wk
 by_cases hc:(1048576:Int) < (b.tot:Int)
 ·rw[if_pos hc];rfl
 ·have ht:b.tot < 1048577:=by omega
  have hlog:b.log.length < 1048577:=by unfold GBus.tot at ht;omega
  rw[if_neg hc,if_neg (by simp;omega),Zlj b ht,Option.bind_some]
  unfold Kl
  rw[Zgd _ _ hlog,Option.bind_some,Option.bind_some,Option.bind_some,Zd7 _ _ hlog,Option.bind_some,if_neg (by simp),Option.bind_some,Zh8 b ht]
  rfl
end Go.Proofs.Ytgmmcfpabnoekaa.Ev
