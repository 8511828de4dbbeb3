/- A part of the proof of FnExactFinished: see the text YtgmmcfpabnoekaaLawFnExactFinished for what is proved and its conditions. Conditions here: those in each line. -/
import Derived.Test.YtgmmcfpabnoekaaA4
namespace Go.Proofs.Ytgmmcfpabnoekaa.Ev
open Go Go.Proofs
set_option linter.unusedVariables false
set_option linter.unusedSimpArgs false
theorem Zjd {n:Int} (h1:-9223372036854775808≤n) (h2:n < 9223372036854775808):IntKind.i64.wrap n=n:=w64_of h1 h2
theorem Zmj {a b:Int} (h1:-9223372036854775808≤a+b) (h2:a+b < 9223372036854775808):addW a b=a+b:=Zjd h1 h2
theorem Zg9 {a b:Int} (h1:-9223372036854775808≤a - b) (h2:a - b < 9223372036854775808):subW a b=a - b:=Zjd h1 h2
theorem Xs {k:Nat} (h:k < 4611686018427387904):addW (k:Int) 1=((k+1:Nat):Int):=by rw[Zmj (by omega) (by omega)];rfl
section
variable {α β σ ρ:Type}
theorem X3 {xs:List α} {k:Nat} (h:k < xs.length):idx xs (k:Int)=some xs[k]:=by
 simp[idx,h]
theorem Zaf:4611686018427387904 < FU:=by decide
def runL (step:α→σ→Option (σ ⊕ ρ)) (fin:σ→Option ρ):List α→σ→Option ρ
 | [],s=>fin s
 | a::l,s=>(step a s).bind fun r=>match r with|.inl s'=>runL step fin l s'|.inr x=>some x
def goL (k:σ→Option ρ):σ ⊕ ρ→Option ρ
 | .inl s=>k s
 | .inr x=>some x
theorem Zkc (xs:List α) (hl:xs.length < 4611686018427387904) (step:α→σ→Option (σ ⊕ ρ)) (fin:σ→Option ρ) (L:Nat→σ→Int→Option ρ)
  (hL:∀m s i,L (m+1) s i=if decide (i < (xs.length:Int))=true then (idx xs i).bind fun a=>(step a s).bind (goL fun s'=>L m s' (addW i 1)) else fin s):
  ∀(m k:Nat) (s:σ),k≤xs.length→xs.length - k < m→L m s k=runL step fin (xs.drop k) s:=by
 intro m
 induction m with
 | zero=>intro k s _ h;omega
 | succ m ih=>
  intro k s hk hm
  rw[hL]
  by_cases hc:k < xs.length
  ·have h1:decide ((k:Int) < (xs.length:Int))=true:=by simpa using hc
   rw[if_pos h1,X3 hc,Option.bind_some,List.drop_eq_getElem_cons hc]
   simp only[runL]
   congr 1
   funext r
   cases r with
   | inl s'=>
    simp only[goL]
    rw[Xs (by omega)]
    exact ih (k+1) s' (by omega) (by omega)
   | inr x=>rfl
  ·have h1:¬decide ((k:Int) < (xs.length:Int))=true:=by simpa using hc
   rw[if_neg h1,List.drop_eq_nil_of_le (by omega)]
   rfl
theorem Zle (xs:List α) (hl:xs.length < 4611686018427387904) (step:α→σ→Option (σ ⊕ ρ)) (fin:σ→Option ρ) (L:Nat→σ→Int→Option ρ)
  (hL:∀m s i,L (m+1) s i=if decide (i < (xs.length:Int))=true then (idx xs i).bind fun a=>(step a s).bind (goL fun s'=>L m s' (addW i 1)) else fin s) (s:σ):
  L FU s 0=runL step fin xs s:=by
 have:=Zkc xs hl step fin L hL FU 0 s (Nat.zero_le _) (by have:=Zaf;omega)
 simpa using this
theorem W3 (xs:List α) (g:α→β) (hl:xs.length < 4611686018427387904) (f:α→Option β) (hf:∀a∈xs,f a=some (g a)) (L:Nat→List β→Int→Option (List β))
  (hL:∀m v i,L (m+1) v i=if decide (i < (xs.length:Int))=true then (idx xs i).bind fun a=>(f a).bind fun b=>(idx v i).bind fun _=>(setO v i b).bind fun y=>L m y (addW i 1) else some v) (v:List β) (hv:v.length=xs.length):L FU v 0=some (xs.map g):=by
 have key:∀(m k:Nat) (v:List β),k≤xs.length→xs.length - k < m→v.length=xs.length→v.take k=(xs.take k).map g→L m v k=some (xs.map g):=by
  intro m
  induction m with
  | zero=>intro k v _ h;omega
  | succ m ih=>
   intro k v hk hm hv ht
   rw[hL]
   by_cases hc:k < xs.length
   ·have h1:decide ((k:Int) < (xs.length:Int))=true:=by simpa using hc
    have hc2:k < v.length:=by omega
    rw[if_pos h1,X3 hc,Option.bind_some,hf _ (List.getElem_mem hc),Option.bind_some,X3 hc2,Option.bind_some]
    simp only[setO,Option.bind_some]
    rw[Xs (by omega)]
    refine ih (k+1) _ (by omega) (by omega) (by simp[hv]) ?_
    rw[Int.toNat_natCast,List.take_add_one,List.take_add_one,List.map_append,List.take_set_of_le (Nat.le_refl _),ht,List.getElem?_set_self hc2,List.getElem?_eq_getElem hc]
    rfl
   ·have h1:¬decide ((k:Int) < (xs.length:Int))=true:=by simpa using hc
    rw[if_neg h1]
    rw[List.take_of_length_le (by omega),List.take_of_length_le (by omega)] at ht
    rw[ht]
 have:=key FU 0 v (Nat.zero_le _) (by have:=Zaf;omega) hv (by simp)
 simpa using this
theorem K8 {sz n:Nat} {z:α} (h1:n*sz≤70368744177664) (h2:n≤9223372036854775807):mkI sz (n:Int) z=some (List.replicate n z):=by
 simp[mkI,h1,h2]
theorem Zhg {sz:Nat} {xs ys:List α} (h1:(xs.length+ys.length)*sz≤140737488355328) (h2:xs.length+ys.length≤9223372036854775807):appI sz xs ys=some (xs++ys):=by
 unfold appI
 rw[if_pos ⟨h1,h2⟩]
end
section
variable {α:Type}
theorem Zh2 (xs:List α) (hl:xs.length < 4611686018427387904) (f:α→Option Bool) (q:α→Bool) (hf:∀a∈xs,f a=some (!q a)) (L:Nat→Int→Option Int)
  (hL:∀m i,L (m+1) i=if decide (i < (xs.length:Int))=true then (idx xs i).bind fun a=>(f a).bind fun r=>if r=true then some i else L m (addW i 1) else some (-1)):
  (xs.all q=true∧L FU 0=some (-1))∨∃k:Nat,∃h:k < xs.length,L FU 0=some (k:Int)∧q xs[k]=false∧(xs.take k).all q=true:=by
 have key:∀(m k:Nat),k≤xs.length→xs.length - k < m→(xs.take k).all q=true→(xs.all q=true∧L m k=some (-1))∨∃j:Nat,∃h:j < xs.length,L m k=some (j:Int)∧q xs[j]=false∧(xs.take j).all q=true:=by
  intro m
  induction m with
  | zero=>intro k _ h;omega
  | succ m ih=>
   intro k hk hm ht
   rw[hL]
   by_cases hc:k < xs.length
   ·have h1:decide ((k:Int) < (xs.length:Int))=true:=by simpa using hc
    rw[if_pos h1,X3 hc,Option.bind_some,hf _ (List.getElem_mem hc),Option.bind_some]
    by_cases hq:q xs[k]=true
    ·have h2:¬(!q xs[k])=true:=by simp[hq]
     rw[if_neg h2,Xs (by omega)]
     refine ih (k+1) (by omega) (by omega) ?_
     rw[List.take_succ_eq_append_getElem hc,List.all_append,ht];simp[hq]
    ·have h2:(!q xs[k])=true:=by simpa using hq
     rw[if_pos h2]
     exact .inr ⟨k,hc,rfl,by simpa using hq,ht⟩
   ·have h1:¬decide ((k:Int) < (xs.length:Int))=true:=by simpa using hc
    rw[if_neg h1]
    rw[List.take_of_length_le (by omega)] at ht
    exact .inl ⟨ht,rfl⟩
 exact key FU 0 (Nat.zero_le _) (by have:=Zaf;omega) (by simp)
theorem Zgb (xs:List α) (z:α) (hl:xs.length < 4611686018427387904) (f:α→Option Bool) (q:α→Bool) (hf:∀a∈xs,f a=some (!q a)) (I:Nat→Int→Option Int)
  (hI:∀m i,I (m+1) i=if decide (i < (xs.length:Int))=true then (idx xs i).bind fun a=>(f a).bind fun r=>if r=true then some i else I m (addW i 1) else some (-1))
  (L:Nat→List α→Int→Int→Option (List α))
  (hL:∀m v i j,L (m+1) v i j=if decide (j < (v.length:Int))=true then (idx v j).bind fun a=>(f a).bind fun r=>if (!r)=true then (idx v i).bind fun _=>(setO v i a).bind fun y=>L m y (addW i 1) (addW j 1) else L m v i (addW j 1)
   else (Ys v i (v.length:Int)).bind fun _=>(clrI z v i (v.length:Int)).bind fun y=>(Ys y 0 i).bind fun s=>some s):
  ((I FU 0).bind fun r=>if decide (r=(-1))=true then some xs else L FU xs r (addW r 1))=some (xs.filter q):=by
 have key:∀(m i j:Nat) (v:List α),i≤j→j≤xs.length→xs.length - j < m→v.length=xs.length→v.take i=(xs.take j).filter q→v.drop j=xs.drop j→L m v i j=some (xs.filter q):=by
  intro m
  induction m with
  | zero=>intro i j v _ _ h;omega
  | succ m ih=>
   intro i j v hij hj hm hv ht hd
   rw[hL]
   by_cases hc:j < v.length
   ·have hc2:j < xs.length:=by omega
    have h1:decide ((j:Int) < (v.length:Int))=true:=by simpa using hc
    have e:v[j]=xs[j]:=by
     have:=congrArg List.head? hd
     simpa [List.head?_drop,hc,hc2] using this
    have hd2:v.drop (j+1)=xs.drop (j+1):=by
     have:=congrArg (List.drop 1) hd
     simpa [List.drop_drop] using this
    rw[if_pos h1,X3 hc,Option.bind_some,e,hf _ (List.getElem_mem hc2),Option.bind_some,Bool.not_not]
    by_cases hq:q xs[j]=true
    ·rw[if_pos hq,X3 (by omega:i < v.length),Option.bind_some]
     simp only[setO,Option.bind_some]
     rw[Xs (by omega),Xs (by omega)]
     refine ih (i+1) (j+1) _ (by omega) (by omega) (by omega) (by simp[hv]) ?_ ?_
     ·rw[Int.toNat_natCast,List.take_succ_eq_append_getElem (by simpa using (by omega:i < v.length)),List.take_set_of_le (Nat.le_refl _),ht,List.take_succ_eq_append_getElem hc2,List.filter_append]
      simp[hq]
     ·rw[Int.toNat_natCast,List.drop_set_of_lt (by omega),hd2]
    ·rw[if_neg hq,Xs (by omega)]
     refine ih i (j+1) v (by omega) (by omega) (by omega) hv ?_ hd2
     rw[ht,List.take_succ_eq_append_getElem hc2,List.filter_append]
     simp[hq]
   ·have h1:¬decide ((j:Int) < (v.length:Int))=true:=by simpa using hc
    have hjx:j=xs.length:=by omega
    rw[if_neg h1]
    have h2:Ys v (i:Int) (v.length:Int)=some ((v.drop i).take (v.length - i)):=by
     unfold Ys;rw[if_pos ⟨by omega,by omega,by omega⟩];simp
    have h3:clrI z v (i:Int) (v.length:Int)=some (v.take i++List.replicate (v.length - i) z++v.drop v.length):=by
     unfold clrI
     have:(i:Int).toNat+((v.length:Int).toNat - (i:Int).toNat)=v.length:=by omega
     rw[if_pos (by omega),this];simp
    rw[h2,Option.bind_some,h3,Option.bind_some]
    have h4:Ys (v.take i++List.replicate (v.length - i) z++v.drop v.length) 0 (i:Int)=some (v.take i):=by
     unfold Ys
     rw[if_pos ⟨by omega,by omega,by simp;omega⟩]
     have:(v.take i).length=i:=by rw[List.length_take];omega
     simp[List.append_assoc,List.take_append,this]
    rw[h4,Option.bind_some,ht,hjx,List.take_length]
 rcases Zh2 xs hl f q hf I hI with⟨h1,h2⟩|⟨k,hk,h1,h2,h3⟩
 ·rw[h2,Option.bind_some,if_pos (by decide)]
  congr 1
  exact (List.filter_eq_self.2 (fun a ha=>List.all_eq_true.1 h1 a ha)).symm
 ·rw[h1,Option.bind_some,if_neg (by simp),Xs (by omega)]
  refine key FU k (k+1) xs (by omega) (by omega) (by have:=Zaf;omega) rfl ?_ rfl
  rw[List.take_succ_eq_append_getElem hk,List.filter_append,List.filter_eq_self.2 (fun a ha=>List.all_eq_true.1 h3 a ha)]
  simp[h2]
end
theorem Zhd {σ ρ:Type} {n:Nat} (hn:n < 4611686018427387904) (st:Nat→σ) {B:(σ→Int→ρ)→σ→Int→ρ} {L:Nat→σ→Int→ρ} (hL:∀m s i,L (m+1) s i=B (L m) s i)
  (hs:∀k,k < n→∀κ,B κ (st k) (k:Int)=κ (st (k+1)) (addW (k:Int) 1)) {r:ρ} (hf:∀κ,B κ (st n) (n:Int)=r):L FU (st 0) 0=r:=by
 have key:∀(m k:Nat),k≤n→n - k < m→L m (st k) (k:Int)=r:=by
  intro m
  induction m with
  | zero=>intro k _ h;omega
  | succ m ih=>
   intro k hk hm
   rw[hL]
   by_cases hc:k < n
   ·rw[hs k hc,Xs (by omega)]
    exact ih (k+1) (by omega) (by omega)
   ·have:k=n:=by omega
    subst this
    exact hf _
 have:=key FU 0 (Nat.zero_le _) (by have:=Zaf;omega)
 simpa using this
theorem Zeq {ρ:Type} {n:Nat} (hn:n < 4611686018427387904) {B:(Int→ρ)→Int→ρ} {L:Nat→Int→ρ} (hL:∀m i,L (m+1) i=B (L m) i)
  (hs:∀k,k < n→∀κ,B κ (k:Int)=κ (addW (k:Int) 1)) {r:ρ} (hf:∀κ,B κ (n:Int)=r):L FU 0=r:=
 Zhd (σ:=Unit) hn (fun _=>()) (B:=fun κ _ i=>B (κ ()) i) (L:=fun m _ i=>L m i) (fun m _ i=>hL m i) (fun k hk κ=>hs k hk _) fun κ=>hf _
theorem Zkz (xs:List GDone) (h:xs.length < 1048577):appI 56 [] xs=some xs:=by
 rw[Zhg (by simp;omega) (by simp;omega)];rfl
def ofL (l:List GDone) (i:Int):List GDone:=l.filter fun d=>decide (d.who=i)
theorem Zgf (l:List GDone) (i:Int) (hl:l.length < 1048577):Qx l i=some (ofL l i):=by
 unfold Qx Yd
 rw[Zkz l hl,Option.bind_some]
 have:=Zgb l GDone.z0 (by omega) (fun d=>Xq d i) (fun d=>decide (d.who=i)) (fun d _=>by unfold Xq;by_cases h:d.who=i<;>simp[h]) (Zp l i) (fun m j=>rfl) (Zo l i) (fun m v j k=>rfl)
 unfold Z0 Z2
 rw[this]
 rfl
theorem Zdz (b:GBus) (i:Int) (hl:b.log.length < 1048577):W1 b i=some ((ofL b.log i).length:Int):=by
 unfold W1
 rw[Zgf _ _ hl]
 rfl
theorem Zko (l:List GDone) (d:GDone) (i:Int):ofL (l++[d]) i=if d.who=i then ofL l i++[d] else ofL l i:=by
 unfold ofL
 rw[List.filter_append]
 by_cases h:d.who=i<;>simp[h]
def Wg (left:Int) (n:Nat):Int:=if left < (n:Int) then -1 else left - n
def Sz (f:Int→Option Int) (n:Nat):Prop:=∀left,0≤left→left≤1048576→f left=some (Wg left n)
theorem Sz.tail {f:Int→Option Int} {n:Nat} (h:Sz f n):Sz (fun l=>(f l).bind fun r=>if decide (r < 0)=true then some (-1) else some r) n:=by
 intro l h0 h1
 dsimp only
 rw[h l h0 h1,Option.bind_some]
 unfold Wg
 by_cases hc:l < (n:Int)
 ·simp[hc]
 ·rw[if_neg hc,if_neg (by simp;omega)]
theorem Sz.seq {f g:Int→Option Int} {n m:Nat} (h:Sz f n) (k:Sz g m):Sz (fun l=>(f l).bind fun r=>if decide (r < 0)=true then some (-1) else g r) (n+m):=by
 intro l h0 h1
 dsimp only
 rw[h l h0 h1,Option.bind_some]
 unfold Wg
 by_cases hc:l < (n:Int)
 ·rw[if_pos hc,if_pos (by decide),if_pos (by omega)]
 ·rw[if_neg hc,if_neg (by simp;omega),k _ (by omega) (by omega)]
  unfold Wg
  by_cases hd:l - (n:Int) < (m:Int)
  ·rw[if_pos hd,if_pos (by omega)]
  ·rw[if_neg hd,if_neg (by omega)]
   congr 1;omega
theorem Sz.flat {n:Nat} (hn:n≤9223372036854775807):Sz (fun l=>if decide ((subW l (n:Int)) < 0)=true then some (-1) else some (subW l (n:Int))) n:=by
 intro l h0 h1
 dsimp only
 rw[Zg9 (by omega) (by omega)]
 unfold Wg
 by_cases h:l < (n:Int)
 ·rw[if_pos (by simp;omega),if_pos h]
 ·rw[if_neg (by simp;omega),if_neg h]
theorem Sz.list {α:Type} (xs:List α) (f:α→Int→Option Int) (t:α→Nat) (hn:xs.length≤9223372036854775807) (hf:∀a∈xs,Sz (f a) (t a)) (L:Int→Nat→Int→Int→Option Int)
  (hL:∀l m v i,L l (m+1) v i=if decide (i < (xs.length:Int))=true then (idx xs i).bind fun a=>(f a v).bind fun r=>if decide (r < 0)=true then some (-1) else L l m r (addW i 1) else some v):
  Sz (fun l=>if decide ((subW l (xs.length:Int)) < 0)=true then some (-1) else L l FU (subW l (xs.length:Int)) 0) (xs.length+(xs.map t).sum):=by
 intro l h0 h1
 dsimp only
 rw[Zg9 (by omega) (by omega)]
 by_cases h:l < (xs.length:Int)
 ·rw[if_pos (by simp;omega)]
  unfold Wg
  rw[if_pos (by omega)]
 ·rw[if_neg (by simp;omega)]
  have key:=Zle (ρ:=Int) xs (by omega) (fun a s=>(f a s).bind fun r=>if decide (r < 0)=true then some (.inr (-1)) else some (.inl r)) some (L l) (fun m s i=>by
   rw[hL]
   congr 1;congr 1;funext a
   cases f a s with
   | none=>rfl
   | some r=>
    simp only[Option.bind_some]
    by_cases hr:r < 0<;>simp[hr,goL]) (l - xs.length)
  rw[key]
  have run:∀(ys:List α) (s:Int),0≤s→s≤1048576→(∀a∈ys,Sz (f a) (t a))→runL (fun a s=>(f a s).bind fun r=>if decide (r < 0)=true then some (.inr (-1)) else some (.inl r)) some ys s=some (Wg s (ys.map t).sum):=by
   intro ys
   induction ys with
   | nil=>intro s hs0 _ _;simp[runL,Wg];omega
   | cons p ys ih=>
    intro s hs0 hs1 hp
    simp only[runL,hp p List.mem_cons_self s hs0 hs1,Option.bind_some,List.map_cons,List.sum_cons]
    unfold Wg
    by_cases hr:s < (t p:Int)
    ·rw[if_pos hr,if_pos (by decide),if_pos (by omega)]
     rfl
    ·rw[if_neg hr,if_neg (by simp;omega)]
     simp only[Option.bind_some]
     rw[ih _ (by omega) (by omega) (fun q hq=>hp q (List.mem_cons_of_mem _ hq))]
     unfold Wg
     by_cases h3:s - (t p:Int) < ((ys.map t).sum:Nat)
     ·rw[if_pos h3,if_pos (by omega)]
     ·rw[if_neg h3,if_neg (by omega)]
      congr 1;omega
  rw[run xs _ (by omega) (by omega) hf]
  unfold Wg
  by_cases h3:l - (xs.length:Int) < ((xs.map t).sum:Nat)
  ·rw[if_pos h3,if_pos (by omega)]
  ·rw[if_neg h3,if_neg (by omega)]
   congr 1;omega
theorem Zcj {α:Type} {xs:List α} {t:α→Nat} {a:α} (h:a∈xs):t a≤(xs.map t).sum:=by
 induction xs with
 | nil=>simp at h
 | cons q l ih=>
  simp only[List.map_cons,List.sum_cons]
  rcases List.mem_cons.1 h with rfl|h
  ·omega
  ·have:=ih h;omega
def GReq.tot (r:GReq):Nat:=r.data_.length
def Q0 (l:List GReq):Nat:=l.length+(l.map GReq.tot).sum
def GMst.tot (m:GMst):Nat:=Q0 m.queue
def Qz (l:List GMst):Nat:=l.length+(l.map GMst.tot).sum
def GModel.tot (m:GModel):Nat:=m.mem.length+(m.dev.regs.length+m.dev.fifo.length)
def GBus.tot (b:GBus):Nat:=b.conf.masters.length+(Qz b.m+(b.buckets.length+(b.splits.length+(b.model.tot+b.log.length))))
theorem Zkd (c:GConf) (h:c.ok):Sz (Jw c) c.masters.length:=(Sz.flat (by have:=h.1.1;unfold maxLen at this;omega)).tail
theorem Zlb (r:GReq) (h:r.ok):Sz (Km r) r.tot:=(Sz.flat (by have:=h.2.2.2.2.2.1;unfold maxLen at this;omega)).tail
theorem Zi2 (l:List GReq) (h0:l.length≤maxLen) (h:∀r∈l,r.ok):Sz (Ji l) (Q0 l):=
 Sz.list l Km GReq.tot (by unfold maxLen at h0;omega) (fun a ha=>Zlb a (h a ha)) (X9 l) (fun _ _ _ _=>rfl)
theorem Zk5 (m:GMst) (h:m.ok):Sz (Ko m) m.tot:=(Zi2 m.queue h.1.1 h.1.2).tail
theorem Zi4 (l:List GMst) (h0:l.length≤maxLen) (h:∀r∈l,r.ok):Sz (Jo l) (Qz l):=
 Sz.list l Ko GMst.tot (by unfold maxLen at h0;omega) (fun a ha=>Zk5 a (h a ha)) (X4 l) (fun _ _ _ _=>rfl)
theorem Zii (m:GModel) (h:m.ok):Sz (K4 m) m.tot:=by
 have h1:=h.1.1;have h2:=h.2.1.1;have h3:=h.2.2.2.1
 unfold maxLen at h1 h2 h3
 exact (Sz.flat (by omega)).seq ((Sz.flat (by omega)).seq (Sz.flat (by omega)).tail).tail
theorem Zly (b:GBus) (h:b.ok):Sz (Zaw b) b.tot:=by
 obtain⟨h1,-,h2,-,h3,h4,-,-,-,-,-,h5,-,h6⟩:=h
 have a3:=h3.1;have a4:=h4.1;have a6:=h6.1
 unfold maxLen at a3 a4 a6
 exact (Zkd _ h1).seq ((Zi4 _ h2.1 h2.2).seq ((Sz.flat (by omega)).seq ((Sz.flat (by omega)).seq ((Zii _ h5).seq (Sz.flat (by omega)).tail))))
theorem Qd (xs:List Int) (hl:xs.length < 1048577):Yw xs=some xs:=by
 unfold Yw
 rw[K8 (by omega) (by omega),Option.bind_some]
 have:=W3 xs id (by omega) some (fun a _=>rfl) (Xz xs) (fun m v i=>rfl) (List.replicate xs.length 0) (by simp)
 simpa using this
theorem Zi1 (c:GConf) (hl:c.masters.length < 1048577):Qp c=some c:=by
 have:Wq c.masters=some c.masters:=by
  unfold Wq
  rw[K8 (by omega) (by omega),Option.bind_some]
  have:=W3 c.masters id (by omega) K5 (fun a _=>rfl) (Xb c.masters) (fun m v i=>rfl) (List.replicate c.masters.length GMConf.z0) (by simp)
  simpa using this
 unfold Qp
 rw[this];rfl
theorem Zli (r:GReq) (h:r.data_.length < 1048577):Qi r=some r:=by
 unfold Qi
 rw[Qd _ h];rfl
theorem Zjo (l:List GReq) (h:Q0 l < 1048577):Qu l=some l:=by
 unfold Q0 at h
 unfold Qu
 rw[K8 (by omega) (by omega),Option.bind_some]
 have:=W3 l id (by omega) Qi (fun a ha=>Zli a (by have:=Zcj (t:=GReq.tot) ha;unfold GReq.tot at this h;omega)) (Xy l) (fun m v i=>rfl) (List.replicate l.length GReq.z0) (by simp)
 simpa using this
theorem Zjk (l:List GMst) (h:Qz l < 1048577):Qm l=some l:=by
 unfold Qz at h
 unfold Qm
 rw[K8 (by omega) (by omega),Option.bind_some]
 have:=W3 l id (by omega) Kq (fun a ha=>by
  unfold Kq
  rw[Zjo _ (by have:=Zcj (t:=GMst.tot) ha;unfold GMst.tot at this h;omega)]
  rfl) (X0 l) (fun m v i=>rfl) (List.replicate l.length GMst.z0) (by simp)
 simpa using this
theorem Zh4 (m:GModel) (h:m.tot < 1048577):W9 m=some m:=by
 unfold GModel.tot at h
 unfold W9 Zaj
 rw[Qd _ (by omega),Option.bind_some,Qd _ (by omega),Option.bind_some,Qd _ (by omega)]
 rfl
theorem Zku (b:GBus) (h:b.tot < 1048577):Wk b=some b:=by
 unfold GBus.tot at h
 have e1:Wd b.buckets=some b.buckets:=by
  unfold Wd
  rw[K8 (by omega) (by omega),Option.bind_some]
  have:=W3 b.buckets id (by omega) Kd (fun a _=>rfl) (Y4 b.buckets) (fun m v i=>rfl) (List.replicate b.buckets.length GBucket.z0) (by simp)
  simpa using this
 have e2:W8 b.log=some b.log:=by
  unfold W8
  rw[K8 (by omega) (by omega),Option.bind_some]
  have:=W3 b.log id (by omega) Ju (fun a _=>rfl) (Xk b.log) (fun m v i=>rfl) (List.replicate b.log.length GDone.z0) (by simp)
  simpa using this
 unfold Wk
 rw[Zi1 _ (by omega),Option.bind_some,Zjk _ (by omega),Option.bind_some,show Zaz b.arb=some b.arb from rfl,Option.bind_some,e1,Option.bind_some,Qd _ (by omega),Option.bind_some,show W2 b.addr=some b.addr from rfl,Option.bind_some,show W2 b.data_=some b.data_ from rfl,Option.bind_some,Zh4 _ (by omega),Option.bind_some,e2]
 rfl
theorem Ja {α:Type} (xs:List α) (hl:xs.length < 4611686018427387904) (e:α→α→Option Bool) (L:Nat→Int→Option Bool)
  (hL:∀m i,L (m+1) i=if decide (i < (xs.length:Int))=true then (idx xs i).bind fun a=>(idx xs i).bind fun b=>(e a b).bind fun r=>if (!r)=true then some false else L m (addW i 1) else some true)
  (he:∀a∈xs,e a a=some true):(if decide ((xs.length:Int)≠(xs.length:Int))=true then some false else L FU 0)=some true:=by
 rw[if_neg (by simp)]
 refine Zeq (n:=xs.length) hl (B:=fun κ i=>if decide (i < (xs.length:Int))=true then (idx xs i).bind fun a=>(idx xs i).bind fun b=>(e a b).bind fun r=>if (!r)=true then some false else κ (addW i 1) else some true) (L:=L) hL (fun k hk κ=>?_) fun κ=>?_
 ·rw[if_pos (by simpa using hk),X3 hk,Option.bind_some,Option.bind_some,he _ (List.getElem_mem hk)]
  rfl
 ·rw[if_neg (by simp)]
theorem Wb (xs:List Int) (hl:xs.length < 1048577):Yz xs xs=some true:=by
 unfold Yz
 rw[if_neg (by simp)]
 refine Zeq (n:=xs.length) (by omega) (B:=Xn xs xs) (L:=X5 xs xs) (fun m i=>rfl) (fun k hk κ=>?_) fun κ=>?_
 ·unfold Xn
  rw[if_pos (by simpa using hk),X3 hk]
  simp
 ·unfold Xn
  rw[if_neg (by simp)]
theorem Zed (m:GMConf):Wa m m=some true:=by unfold Wa;simp
theorem Zgg (c:GConf) (hl:c.masters.length < 1048577):Qs c c=some true:=by
 have:Ws c.masters c.masters=some true:=by
  unfold Ws
  exact Ja c.masters (by omega) Wa (Xa c.masters c.masters) (fun m i=>rfl) (fun a _=>Zed a)
 unfold Qs
 rw[this];simp
theorem Zhs (r:GReq) (h:r.data_.length < 1048577):Qj r r=some true:=by
 unfold Qj
 rw[Wb _ h];simp
theorem Zf5 (l:List GReq) (h:Q0 l < 1048577):Qy l l=some true:=by
 unfold Q0 at h
 unfold Qy
 exact Ja l (by omega) Qj (X6 l l) (fun m i=>rfl) (fun a ha=>Zhs a (by have:=Zcj (t:=GReq.tot) ha;unfold GReq.tot at this h;omega))
theorem Zf3 (l:List GMst) (h:Qz l < 1048577):Qr l l=some true:=by
 unfold Qz at h
 unfold Qr
 exact Ja l (by omega) Ku (X1 l l) (fun m i=>rfl) (fun a ha=>by
  unfold Ku
  rw[Zf5 _ (by have:=Zcj (t:=GMst.tot) ha;unfold GMst.tot at this h;omega)]
  simp)
theorem Zfj (m:GModel) (h:m.tot < 1048577):W6 m m=some true:=by
 unfold GModel.tot at h
 unfold W6 J9
 rw[Wb _ (by omega),Wb m.dev.regs (by omega),Wb m.dev.fifo (by omega)]
 simp
theorem Zf2 (d:GDone):Wy d d=some true:=by unfold Wy;simp
theorem Zfn (l:List GDone) (h:l.length < 1048577):Qa l l=some true:=by
 unfold Qa
 exact Ja l (by omega) Wy (Xh l l) (fun m i=>rfl) (fun a _=>Zf2 a)
theorem Zf8 (x:GBeat):Wr x x=some true:=by unfold Wr;simp
theorem Zho (b:GBus) (h:b.tot < 1048577):Ky b b=some true:=by
 unfold GBus.tot at h
 have e1:Wf b.buckets b.buckets=some true:=by
  unfold Wf
  exact Ja b.buckets (by omega) Wo (Y6 b.buckets b.buckets) (fun m i=>rfl) (fun a _=>by unfold Wo;simp)
 have e2:Kp b.arb b.arb=some true:=by unfold Kp;simp
 unfold Ky
 simp[Zgg b.conf (by omega),Zf3 b.m (by omega),e1,e2,Wb b.splits (by omega),Zf8,Zfj b.model (by omega),Zfn b.log (by omega)]
theorem Zgn (l:List GDone) (i:Int) (hl:l.length < 1048577):Qo l i=some (ofL l i):=by
 unfold Qo
 refine Zhd (σ:=List GDone) (n:=l.length) (by omega) (fun k=>ofL (l.take k) i) (B:=fun κ st j=>Xj l i κ st j) (L:=fun m st j=>X7 l i m st j) (fun m s i=>rfl) (fun k hk κ=>?_) fun κ=>?_
 ·have h1:(ofL (l.take k) i).length≤k:=Nat.le_trans (List.length_filter_le ..) (by rw[List.length_take];omega)
  unfold Xj
  rw[if_pos (by simpa using hk),X3 hk,Option.bind_some,List.take_succ_eq_append_getElem hk,Zko]
  by_cases hw:l[k].who=i
  ·rw[if_pos (by simpa using hw),if_pos hw,Zhg (by simp;omega) (by simp;omega),Option.bind_some]
  ·rw[if_neg (by simpa using hw),if_neg hw]
 ·unfold Xj
  rw[if_neg (by simp),List.take_length]
theorem Je (b:GBus) (who:Int) (h:b.ok) (hw:(Lit.int .i64 who).wf=true):Xg b who=some true:=by
 unfold Xg
 rw[Zly b h _ (by omega) (by omega),Option.bind_some]
 unfold Wg
 by_cases hc:(1048576:Int) < (b.tot:Int)
 ·rw[if_pos hc];rfl
 ·have ht:b.tot < 1048577:=by omega
  have hlog:b.log.length < 1048577:=by unfold GBus.tot at ht;omega
  rw[if_neg hc,if_neg (by simp;omega),Zku b ht,Option.bind_some]
  unfold Kg
  rw[Zgn _ _ hlog,Option.bind_some,Option.bind_some,Option.bind_some,Zdz _ _ hlog,Option.bind_some,if_neg (by simp),Option.bind_some,Zho b ht]
  rfl
end Go.Proofs.Ytgmmcfpabnoekaa.Ev
