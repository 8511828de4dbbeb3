/- A part of the proof of FnExactReadScript: see the text YthdljdelfgofdaaGreatDoorLawFnExactReadScript for what is proved and its conditions. Conditions here: those in each line. -/
import Derived.Test.YthdljdelfgofdaaGreatDoorA5
import Derived.KernelRfl
import Derived.Lib.AtoiAllCases
import Derived.Lib.SplitLaws
set_option linter.unusedSimpArgs false
set_option linter.unusedVariables false
set_option linter.unusedSectionVars false
namespace Go.Proofs.YthdljdelfgofdaaGreatDoor.Ev
open Go Go.Proofs Go.RowKit KM
abbrev w1 (k:Int):Int:=IntKind.i64.wrap (k+1)
abbrev b3 (k:Int):Bool:=decide (k.tmod 3=0)
def sqL:Code->Code
 | .seq a _=>a
 | c=>c
def sqR:Code->Code
 | .seq _ b=>b
 | c=>c
def blC:Code->Code
 | .block _ c=>c
 | c=>c
def lpC:Code->Code
 | .loop c=>c
 | c=>c
theorem Z6e {i:Nat} (h:i < 1152921504606846976):w1 (i:Int)=((i+1:Nat):Int):=by
 unfold w1;simp[IntKind.wrap,IntKind.bits,IntKind.signed];omega
abbrev rs {α:Type} (e:α->List V) (l:List α) (i:Nat) (r:List V):List (List V):=(l.map e).set i r
abbrev nn (i:Nat):Prop:=Y3 (toV (.lit (.int .i64 (i:Int))))=some i
theorem Z55 {α:Type} {e:α->List V} {l:List α} {i:Nat} {a:α} (h:l[i]?=some a):decide ((i:Int) < ((l.map e).length:Int))=true:=by
 have:=(ZZh.1 h).1;simp;omega
theorem Zn4 {α:Type} {e:α->List V} {l:List α} {i:Nat} {a:α} (h:l[i]?=some a):(l.map e)[i]?=some (e a):=by
 rw[Vay,h];rfl
section
variable [Anchor]
theorem Q1 {α:Type} {e:α->List V} {l:List α} {i:Nat} {a:α} (h:l[i]?=some a) (r:List V):((l.map e).set i r)[i]?=some r:=set_at (Zn4 h)
def Xb (_:Int) (k:Int):Int×Int:=(k,w1 k)
def rInt1 (a:Int) (k:Int):List V:=(Ze a).set 0 (.lit (.int .i64 (k)))
theorem Zur {rows:List (List V)} {i:Nat} {r r':List V}:(rows.set i r).set i r'=rows.set i r':=by rw[List.set_set]
theorem set3 {α:Type} {e:α->List V} {l:List α} {i:Nat} {a:α} {r r':List V} (h:e a=r'):((l.map e).set i r).set i r'=(l.set i a).map e:=by rw[List.set_set,Z1z,h]
theorem Zki (l:List Int) (k:Int) (hl:l.length<=1152921504606846976):Zb8 Tryz.prog 36 false [.tr (l.map Ze)] [.tr ((mkL Xb l k).1.map Ze)] k (mkL Xb l k).2:=by
 refine Zxi (M:=Mo) fOk (fn:=Tryz.f36) (r0:=sqL (J0 Tryz.f36)) (r1:=sqL (sqL (sqR (J0 Tryz.f36)))) (body:=lpC (blC (sqR (sqL (sqR (J0 Tryz.f36)))))) (post:=sqR (sqR (J0 Tryz.f36))) (f:=Xb) (by kernel_rfl) (by kernel_rfl) (by kernel_rfl) l k (Qp:=λ_=>True) (λ_ _=>trivial) hl (λts=>by kernel_rfl) (λl k z e ob bk bx u=>by kernel_rfl) (λl k z e ob bk bx u=>by kernel_rfl) (λl k z e i ob bk bx u=>by kernel_rfl) λl i a k z e ob bk bx u h hi hq=>
  Ze4 (M:=Mo) fOk 100 [.t true,.row i (Ze a),.put (Ze a) ((l.set i (Xb a k).1).map Ze)]
   (p:=(decide ((i:Int) < ((l.map Ze).length:Int))=true)/\(nn i)/\((l.map Ze)[i]?=some (Ze a))/\((l.map Ze)[i]?=some (Ze a))/\((l.map Ze).set i (rInt1 a k)=((l.set i (Xb a k).1).map Ze))/\True)
   ⟨Z55 h,Zc7,Zn4 h,Zn4 h,Z1z.symm,trivial⟩ (ts:=[0,1,5]) (ks:=[0]) (e:=.normal) (vs:=[.ob 0,.lit (.int .i64 (w1 k)),.lit (.int .i64 (w1 (i:Int)))]) (bs:=[some ⟨true,z,e,((l.set i (Xb a k).1).map Ze)⟩]) (by kernel_rfl) (λs h1 h2=>⟨rfl,.of (by rw[h1,Z6e hi];rfl) h2⟩)
def Xh (x:Zf) (k:Int):Zf×Int:=({x with at_:=k,who:=w1 k,req:={x.req with write:=b3 (w1 (w1 k)),addr:=w1 (w1 (w1 k)),size:=w1 (w1 (w1 (w1 k))),burst:=w1 (w1 (w1 (w1 (w1 k)))),lock:=b3 (w1 (w1 (w1 (w1 (w1 (w1 k)))))),data_:=(mkL Xb x.req.data_ (w1 (w1 (w1 (w1 (w1 (w1 (w1 k)))))))).1}},(mkL Xb x.req.data_ (w1 (w1 (w1 (w1 (w1 (w1 (w1 k)))))))).2)
def Zco (a:Zf) (k:Int):List V:=(Zf.enc a).set 0 (.lit (.int .i64 (k)))
def Zcv (a:Zf) (k:Int):List V:=(Zco a k).set 1 (.lit (.int .i64 (w1 k)))
def Zcp (a:Zf) (k:Int):List V:=(Zcv a k).set 2 (.lit (.bool (b3 (w1 (w1 k)))))
def Zcb (a:Zf) (k:Int):List V:=(Zcp a k).set 3 (.lit (.int .i64 (w1 (w1 (w1 k)))))
def Zcf (a:Zf) (k:Int):List V:=(Zcb a k).set 4 (.lit (.int .i64 (w1 (w1 (w1 (w1 k))))))
def Zct (a:Zf) (k:Int):List V:=(Zcf a k).set 5 (.lit (.int .i64 (w1 (w1 (w1 (w1 (w1 k)))))))
def Jq (a:Zf) (k:Int):List V:=(Zct a k).set 6 (.lit (.bool (b3 (w1 (w1 (w1 (w1 (w1 (w1 k)))))))))
def rPost8 (a:Zf) (k:Int):List V:=(Jq a k).set 7 (.tr ((mkL Xb a.req.data_ (w1 (w1 (w1 (w1 (w1 (w1 (w1 k)))))))).1.map Ze))
theorem Zzd (l:List Zf) (k:Int) (hl:l.length<=1152921504606846976) (hq:∀x∈l,x.req.data_.length<=1152921504606846976):Zb8 Tryz.prog 35 false [.tr (l.map Zf.enc)] [.tr ((mkL Xh l k).1.map Zf.enc)] k (mkL Xh l k).2:=by
 refine Zxi (M:=Mo) fOk (fn:=Tryz.f35) (r0:=sqL (J0 Tryz.f35)) (r1:=sqL (sqL (sqR (J0 Tryz.f35)))) (body:=lpC (blC (sqR (sqL (sqR (J0 Tryz.f35)))))) (post:=sqR (sqR (J0 Tryz.f35))) (f:=Xh) (by kernel_rfl) (by kernel_rfl) (by kernel_rfl) l k (Qp:=λx=>x.req.data_.length<=1152921504606846976) hq hl (λts=>by kernel_rfl) (λl k z e ob bk bx u=>by kernel_rfl) (λl k z e ob bk bx u=>by kernel_rfl) (λl k z e i ob bk bx u=>by kernel_rfl) λl i a k z e ob bk bx u h hi hq=>
  Ze4 (M:=Mo) fOk 100 [.t true,.row i (Zf.enc a),.put (Zf.enc a) (rs Zf.enc l i (Zco a k)),.row i (Zco a k),.put (Zco a k) (rs Zf.enc l i (Zcv a k)),.k,.row i (Zcv a k),.put (Zcv a k) (rs Zf.enc l i (Zcp a k)),.row i (Zcp a k),.put (Zcp a k) (rs Zf.enc l i (Zcb a k)),.row i (Zcb a k),.put (Zcb a k) (rs Zf.enc l i (Zcf a k)),.row i (Zcf a k),.put (Zcf a k) (rs Zf.enc l i (Zct a k)),.k,.row i (Zct a k),.put (Zct a k) (rs Zf.enc l i (Jq a k)),.row i (Jq a k),.cell (Jq a k),.put (Jq a k) ((l.set i (Xh a k).1).map Zf.enc),.res (.lit (.int .i64 (mkL Xb a.req.data_ (w1 (w1 (w1 (w1 (w1 (w1 (w1 k)))))))).2)) [.tr ((mkL Xb a.req.data_ (w1 (w1 (w1 (w1 (w1 (w1 (w1 k)))))))).1.map Ze)]]
   (p:=(decide ((i:Int) < ((l.map Zf.enc).length:Int))=true)/\(nn i)/\((l.map Zf.enc)[i]?=some (Zf.enc a))/\((l.map Zf.enc)[i]?=some (Zf.enc a))/\((l.map Zf.enc).set i (Zco a k)=(rs Zf.enc l i (Zco a k)))/\(nn i)/\((rs Zf.enc l i (Zco a k))[i]?=some (Zco a k))/\((rs Zf.enc l i (Zco a k))[i]?=some (Zco a k))/\((rs Zf.enc l i (Zco a k)).set i (Zcv a k)=(rs Zf.enc l i (Zcv a k)))/\(nn i)/\((rs Zf.enc l i (Zcv a k))[i]?=some (Zcv a k))/\((rs Zf.enc l i (Zcv a k))[i]?=some (Zcv a k))/\((rs Zf.enc l i (Zcv a k)).set i (Zcp a k)=(rs Zf.enc l i (Zcp a k)))/\(nn i)/\((rs Zf.enc l i (Zcp a k))[i]?=some (Zcp a k))/\((rs Zf.enc l i (Zcp a k))[i]?=some (Zcp a k))/\((rs Zf.enc l i (Zcp a k)).set i (Zcb a k)=(rs Zf.enc l i (Zcb a k)))/\(nn i)/\((rs Zf.enc l i (Zcb a k))[i]?=some (Zcb a k))/\((rs Zf.enc l i (Zcb a k))[i]?=some (Zcb a k))/\((rs Zf.enc l i (Zcb a k)).set i (Zcf a k)=(rs Zf.enc l i (Zcf a k)))/\(nn i)/\((rs Zf.enc l i (Zcf a k))[i]?=some (Zcf a k))/\((rs Zf.enc l i (Zcf a k))[i]?=some (Zcf a k))/\((rs Zf.enc l i (Zcf a k)).set i (Zct a k)=(rs Zf.enc l i (Zct a k)))/\(nn i)/\((rs Zf.enc l i (Zct a k))[i]?=some (Zct a k))/\((rs Zf.enc l i (Zct a k))[i]?=some (Zct a k))/\((rs Zf.enc l i (Zct a k)).set i (Jq a k)=(rs Zf.enc l i (Jq a k)))/\(nn i)/\((rs Zf.enc l i (Jq a k))[i]?=some (Jq a k))/\((rs Zf.enc l i (Jq a k))[i]?=some (Jq a k))/\((rs Zf.enc l i (Jq a k))[i]?=some (Jq a k))/\(Zb8 Tryz.prog 36 false [.tr (a.req.data_.map Ze)] [.tr ((mkL Xb a.req.data_ (w1 (w1 (w1 (w1 (w1 (w1 (w1 k)))))))).1.map Ze)] (w1 (w1 (w1 (w1 (w1 (w1 (w1 k))))))) (mkL Xb a.req.data_ (w1 (w1 (w1 (w1 (w1 (w1 (w1 k)))))))).2)/\((rs Zf.enc l i (Jq a k)).set i (rPost8 a k)=((l.set i (Xh a k).1).map Zf.enc))/\True)
   ⟨Z55 h,Zc7,Zn4 h,Zn4 h,rfl,Zc7,Q1 h _,Q1 h _,Zur,Zc7,Q1 h _,Q1 h _,Zur,Zc7,Q1 h _,Q1 h _,Zur,Zc7,Q1 h _,Q1 h _,Zur,Zc7,Q1 h _,Q1 h _,Zur,Zc7,Q1 h _,Q1 h _,Zur,Zc7,Q1 h _,Q1 h _,Q1 h _,Zki _ _ hq,set3 rfl,trivial⟩ (ts:=[0,1,5]) (ks:=[0]) (e:=.normal) (vs:=[.ob 0,.lit (.int .i64 ((mkL Xb a.req.data_ (w1 (w1 (w1 (w1 (w1 (w1 (w1 k)))))))).2)),.lit (.int .i64 (w1 (i:Int)))]) (bs:=[some ⟨true,z,e,((l.set i (Xh a k).1).map Zf.enc)⟩]) (by kernel_rfl) (λs h1 h2=>⟨rfl,.of (by rw[h1,Z6e hi];rfl) h2⟩)
def Za.mok (x:Za):Prop:=(x.posts.length<=1152921504606846976/\∀y∈x.posts,y.req.data_.length<=1152921504606846976)/\(x.waits.length<=1152921504606846976)/\(x.says.length<=1152921504606846976)
def Yc (x:Za) (k:Int):Za×Int:=({x with posts:=(mkL Xh x.posts (k)).1,waits:=(mkL Xb x.waits ((mkL Xh x.posts (k)).2)).1,says:=(mkL Xb x.says ((mkL Xb x.waits ((mkL Xh x.posts (k)).2)).2)).1},(mkL Xb x.says ((mkL Xb x.waits ((mkL Xh x.posts (k)).2)).2)).2)
theorem Zwl (x:Za) (k:Int) (h:x.mok):Zb8 Tryz.prog 10 true (Za.enc x) (Za.enc (Yc x k).1) k (Yc x k).2:=by
 refine mk_ok fOk (fn:=Tryz.f10) (c:=J0 Tryz.f10) (rt:=4) (by kernel_rfl) (by kernel_rfl) (by kernel_rfl) (by show 3<=1000;decide) (.inl rfl) λts=>?_;exact Ze4 (M:=Mo) fOk 100 [.res (.lit (.int .i64 (mkL Xh x.posts (k)).2)) [.tr ((mkL Xh x.posts (k)).1.map Zf.enc)],.res (.lit (.int .i64 (mkL Xb x.waits ((mkL Xh x.posts (k)).2)).2)) [.tr ((mkL Xb x.waits ((mkL Xh x.posts (k)).2)).1.map Ze)],.res (.lit (.int .i64 (mkL Xb x.says ((mkL Xb x.waits ((mkL Xh x.posts (k)).2)).2)).2)) [.tr ((mkL Xb x.says ((mkL Xb x.waits ((mkL Xh x.posts (k)).2)).2)).1.map Ze)]]
  (p:=(Zb8 Tryz.prog 35 false [.tr (x.posts.map Zf.enc)] [.tr ((mkL Xh x.posts (k)).1.map Zf.enc)] (k) (mkL Xh x.posts (k)).2)/\(Zb8 Tryz.prog 36 false [.tr (x.waits.map Ze)] [.tr ((mkL Xb x.waits ((mkL Xh x.posts (k)).2)).1.map Ze)] ((mkL Xh x.posts (k)).2) (mkL Xb x.waits ((mkL Xh x.posts (k)).2)).2)/\(Zb8 Tryz.prog 36 false [.tr (x.says.map Ze)] [.tr ((mkL Xb x.says ((mkL Xb x.waits ((mkL Xh x.posts (k)).2)).2)).1.map Ze)] ((mkL Xb x.waits ((mkL Xh x.posts (k)).2)).2) (mkL Xb x.says ((mkL Xb x.waits ((mkL Xh x.posts (k)).2)).2)).2)/\True)
  ⟨Zzd _ _ h.1.1 h.1.2,Zki _ _ h.2.1,Zki _ _ h.2.2,trivial⟩ (ts:=[4]) (ks:=[0,1,2]) (e:=.ret) (vs:=[.lit (.int .i64 (Yc x k).2)]) (bs:=[some ⟨true,(ts 0).1,(ts 0).2,((Yc x k).1.posts.map Zf.enc)⟩,some ⟨true,(ts 1).1,(ts 1).2,((Yc x k).1.waits.map Ze)⟩,some ⟨true,(ts 2).1,(ts 2).2,((Yc x k).1.says.map Ze)⟩]) (by kernel_rfl)
  (λs h1 h2=>⟨rfl,by simpa using h1,by
   simp only[Vau,Vbw,Vcd,and_true] at h2;exact⟨h2.1,h2.2.1,h2.2.2,trivial⟩⟩)
end
end Go.Proofs.YthdljdelfgofdaaGreatDoor.Ev
namespace Go.Proofs.YthdljdelfgofdaaGreatDoor.Ev
open Go Go.Proofs
theorem Zsf {n:Int} (h1:-9223372036854775808<=n) (h2:n < 9223372036854775808):IntKind.i64.wrap n=n:=Z57 h1 h2
theorem Zfy {a b:Int} (h1:-9223372036854775808<=a+b) (h2:a+b < 9223372036854775808):Zq a b=a+b:=Zsf h1 h2
theorem Zk5 {a b:Int} (h1:-9223372036854775808<=a - b) (h2:a - b < 9223372036854775808):Zoy a b=a - b:=Zsf h1 h2
theorem Zfs {a b:Int} (h1:-9223372036854775808<=a*b) (h2:a*b < 9223372036854775808):Zdh a b=a*b:=Zsf h1 h2
theorem Xr {k:Nat} (h:k < 4611686018427387904):Zq (k:Int) 1=((k+1:Nat):Int):=by rw[Zfy (by omega) (by omega)];rfl
section
variable {α β σ ρ:Type}
theorem Z1 {xs:List α} {k:Nat} (h:k < xs.length):idx xs (k:Int)=some xs[k]:=by
 simp[idx,h]
theorem Wk:4611686018427387904 < FU:=by decide
theorem Wz {sz:Nat} {xs ys:List α} (h1:(xs.length+ys.length)*sz<=140737488355328) (h2:xs.length+ys.length<=9223372036854775807):Zak sz xs ys=some (xs++ys):=by
 unfold Zak;rw[ZZj ⟨h1,h2⟩]
end
section
variable {α:Type}
def atI [Inhabited α] (xs:List α) (i:Int):α:=xs.getD i.toNat default
theorem Zsr [Inhabited α] {xs:List α} {k:Nat} (h:k < xs.length):atI xs (k:Int)=xs[k]:=by
 simp[atI,h]
theorem Zs4 {n:Int} (h:n≠0):nzI n=some ():=by unfold nzI;rw[ZZi h]
theorem Zqb {a n:Int} (h0:0<=a):Zfv a n=a % n:=by unfold Zfv;rw[Int.tmod_eq_emod_of_nonneg h0]
theorem Z9k {a n:Int} (h0:0<=a) (h1:a < 9223372036854775808) (hn:1<=n):Zj6 a n=a / n:=by
 unfold Zj6;rw[Int.tdiv_eq_ediv_of_nonneg h0];have h2:0<=a / n:=Int.ediv_nonneg h0 (by omega);have h3:a / n<=a:=Int.ediv_le_self n h0;exact Zsf (by omega) (by omega)
theorem Z3k (xs:List α) (hl:xs.length < 4611686018427387904) (f:α->Option Bool) (q:α->Bool) (hf:∀a∈xs,f a=some (!q a)) (L:Nat->Int->Option Int)
  (hL:∀m i,L (m+1) i=if decide (i < (xs.length:Int))=true then (idx xs i).bind λa=>(f a).bind λr=>if r=true then some i else L m (Zq i 1) else some (-1)):
  (xs.all q=true/\L FU 0=some (-1))\/∃k:Nat,∃h:k < xs.length,L FU 0=some (k:Int)/\q xs[k]=false/\(xs.take k).all q=true:=by
 have key:∀(m k:Nat),k<=xs.length->xs.length - k < m->(xs.take k).all q=true->(xs.all q=true/\L m k=some (-1))\/∃j:Nat,∃h:j < xs.length,L m k=some (j:Int)/\q xs[j]=false/\(xs.take j).all q=true:=by
  intro m
  induction m with
  | zero=>intro k _ h;omega
  | succ m ih=>
   intro k hk hm ht;rw[hL];by_cases hc:k < xs.length
   .have h1:decide ((k:Int) < (xs.length:Int))=true:=by simpa using hc
    rw[ZZj h1,Z1 hc,ZZa,hf _ (Vai hc),ZZa];by_cases hq:q xs[k]=true
    .have h2:¬(!q xs[k])=true:=by simp[hq]
     rw[ZZi h2,Xr (by omega)];refine ih (k+1) (by omega) (by omega) ?_;rw[Vbg hc,List.all_append,ht];simp[hq]
    .have h2:(!q xs[k])=true:=by simpa using hq
     rw[ZZj h2];exact .inr ⟨k,hc,rfl,by simpa using hq,ht⟩
   .have h1:¬decide ((k:Int) < (xs.length:Int))=true:=by simpa using hc
    rw[ZZi h1];rw[Va7 (by omega)] at ht;exact .inl ⟨ht,rfl⟩
 exact key FU 0 (Vbb _) (by have:=Wk;omega) (by simp)
theorem Z56 (xs:List α) (hl:xs.length < 4611686018427387904) (f:α->Option Bool) (q:α->Bool) (hf:∀a∈xs,f a=some (!q a)) (L:Nat->Int->Option Int)
  (hL:∀m i,L (m+1) i=if decide (i < (xs.length:Int))=true then (idx xs i).bind λa=>(f a).bind λr=>if r=true then some i else L m (Zq i 1) else some (-1)):
  ((L FU 0).bind λr=>some (decide (r≥0)))=some (!xs.all q):=by
 rcases Z3k xs hl f q hf L hL with⟨h1,h2⟩|⟨k,hk,h1,h2,h3⟩
 .rw[h2,h1];rfl
 .rw[h1,ZZa]
  have:xs.all q=false:=by
   rw[List.all_eq_false];exact⟨xs[k],Vai hk,by simp[h2]⟩
  rw[this];have h4:((k:Nat):Int)≥0:=by omega
  simp[h4]
end
theorem Zeh {σ ρ:Type} {n:Nat} (hn:n < 4611686018427387904) (st:Nat->σ) {B:(σ->Int->ρ)->σ->Int->ρ} {L:Nat->σ->Int->ρ} (hL:∀m s i,L (m+1) s i=B (L m) s i)
  (hs:∀k,k < n->∀κ,B κ (st k) (k:Int)=κ (st (k+1)) (Zq (k:Int) 1)) {r:ρ} (hf:∀κ,B κ (st n) (n:Int)=r):L FU (st 0) 0=r:=by
 have key:∀(m k:Nat),k<=n->n - k < m->L m (st k) (k:Int)=r:=by
  intro m
  induction m with
  | zero=>intro k _ h;omega
  | succ m ih=>
   intro k hk hm;rw[hL];by_cases hc:k < n
   .rw[hs k hc,Xr (by omega)]
    exact ih (k+1) (by omega) (by omega)
   .have:k=n:=by omega
    subst this;exact hf _
 have:=key FU 0 (Vbb _) (by have:=Wk;omega);simpa using this
theorem Zly {ρ:Type} {n:Nat} (hn:n < 4611686018427387904) {B:(Int->ρ)->Int->ρ} {L:Nat->Int->ρ} (hL:∀m i,L (m+1) i=B (L m) i)
  (hs:∀k,k < n->∀κ,B κ (k:Int)=κ (Zq (k:Int) 1)) {r:ρ} (hf:∀κ,B κ (n:Int)=r):L FU 0=r:=
 Zeh (σ:=Unit) hn (λ_=>()) (B:=λκ _ i=>B (κ ()) i) (L:=λm _ i=>L m i) (λm _ i=>hL m i) (λk hk κ=>hs k hk _) λκ=>hf _
end Go.Proofs.YthdljdelfgofdaaGreatDoor.Ev
namespace Go.Proofs.YthdljdelfgofdaaGreatDoor.Ev
open Go Go.Proofs Go.RowKit KM
theorem dlt_f {a:Int} (h:0<=a):decide (a < 0)=false:=by simp;omega
theorem dne_f {a:Int}:decide (a≠a)=false:=by simp
theorem bne_f {a:Bool}:(a != a)=false:=by simp
section
variable [Anchor] [ExtOk]
theorem Zhj (x0:ByteArray)   (hb0:decide ((x0.size:Int) > 1048576)=true):Z5 Tryz.prog Mo (3,[.lit (.string x0)],.lit (.bool true),[.undef]):=by
 refine Z5l fOk (fn:=Tryz.f3) (c:=J0 Tryz.f3) (rt:=2) (b:=true) (xs:=[.lit (.string x0)]) (by kernel_rfl) (by kernel_rfl) (by kernel_rfl) (by kernel_rfl) (by rfl) (of_decide_eq_true (by kernel_rfl)) ?_;exact Ze4 (M:=Mo) fOk 300 [.t true]
  (p:=((decide ((x0.size:Int) > 1048576))=true)/\(True))
  ⟨hb0,trivial⟩ (ts:=[2]) (ks:=[]) (e:=.ret) (vs:=[.lit (.bool true)]) (bs:=[]) (by kernel_rfl) (λs h1 _=>⟨rfl,by simpa using h1⟩)
theorem Zk0 (x0:ByteArray)  (v0:Za) (v1:Bool) (hb0:decide ((x0.size:Int) > 1048576)=false) (hc1:Q0 x0=some (v0,v1)) (hc2:Qy x0=some (v0,v1)) (hc3:Ze0 v0 v0=some true) (hm4:v0.mok) (hc5:Zc2 ((Yc v0 1).1) 1=some ((Yc v0 1).2)) (hz6:0<=(Yc v0 1).2):Z5 Tryz.prog Mo (3,[.lit (.string x0)],.lit (.bool true),[.undef]):=by
 refine Z5l fOk (fn:=Tryz.f3) (c:=J0 Tryz.f3) (rt:=2) (b:=true) (xs:=[.lit (.string x0)]) (by kernel_rfl) (by kernel_rfl) (by kernel_rfl) (by kernel_rfl) (by rfl) (of_decide_eq_true (by kernel_rfl)) ?_;exact Ze4 (M:=Mo) fOk 300 [.t false,.res (Zal x0 ((v0,v1))).2.2.1 (Zal x0 ((v0,v1))).2.2.2,.res (Y8 x0 ((v0,v1))).2.2.1 (Y8 x0 ((v0,v1))).2.2.2,.res (Jc v0 v0 true).2.2.1 (Jc v0 v0 true).2.2.2,.k,.k,.k,.k,.t false,.res (.lit (.int .i64 (Yc v0 1).2)) (Za.enc (Yc v0 1).1),.res (Qx ((Yc v0 1).1) 1 ((Yc v0 1).2)).2.2.1 (Qx ((Yc v0 1).1) 1 ((Yc v0 1).2)).2.2.2,.t false,.t false,.res (Y8 x0 ((v0,v1))).2.2.1 (Y8 x0 ((v0,v1))).2.2.2,.res (Jc v0 v0 true).2.2.1 (Jc v0 v0 true).2.2.2,.k,.k,.k,.k,.t false,.res (Qx ((Yc v0 1).1) 1 ((Yc v0 1).2)).2.2.1 (Qx ((Yc v0 1).1) 1 ((Yc v0 1).2)).2.2.2,.t false,.t false]
  (p:=((decide ((x0.size:Int) > 1048576))=false)/\(Z5 Tryz.prog Mo (Zal x0 ((v0,v1))))/\(Z5 Tryz.prog Mo (Y8 x0 ((v0,v1))))/\(Z5 Tryz.prog Mo (Jc v0 v0 true))/\((v1 != v1)=false)/\(Zb8 Tryz.prog 10 true (Za.enc v0) (Za.enc (Yc v0 1).1) 1 (Yc v0 1).2)/\(Z5 Tryz.prog Mo (Qx ((Yc v0 1).1) 1 ((Yc v0 1).2)))/\((decide ((Yc v0 1).2 < 0))=false)/\((decide ((Yc v0 1).2≠(Yc v0 1).2))=false)/\(Z5 Tryz.prog Mo (Y8 x0 ((v0,v1))))/\(Z5 Tryz.prog Mo (Jc v0 v0 true))/\((v1 != v1)=false)/\(Z5 Tryz.prog Mo (Qx ((Yc v0 1).1) 1 ((Yc v0 1).2)))/\((decide ((Yc v0 1).2 < 0))=false)/\((decide ((Yc v0 1).2≠(Yc v0 1).2))=false)/\(True))
  ⟨hb0,Zui hc1,Zlj hc2,Zoa hc3,(bne_f),Zwl _ _ hm4,Zk2 hc5,(dlt_f hz6),(dne_f),Zlj hc2,Zoa hc3,(bne_f),Zk2 hc5,(dlt_f hz6),(dne_f),trivial⟩ (ts:=[2]) (ks:=[]) (e:=.ret) (vs:=[.lit (.bool true)]) (bs:=[]) (by kernel_rfl) (λs h1 _=>⟨rfl,by simpa using h1⟩)
end
end Go.Proofs.YthdljdelfgofdaaGreatDoor.Ev
namespace Go.Proofs.YthdljdelfgofdaaGreatDoor.Ev
open Go Go.Proofs
def L8 (b:ByteArray):List UInt8:=b.data.toList
theorem Wc (a b:ByteArray):L8 (a++b)=L8 a++L8 b:=by simp[L8]
theorem Kh {a b:ByteArray} (h:L8 a=L8 b):a=b:=by
 cases a;cases b;simp only[L8] at h;rw[Array.toList_inj.1 h]
theorem Z4 (a:ByteArray):a.size=(L8 a).length:=by show a.data.size=a.data.toList.length;rw[Array.length_toList]
theorem Xt (l:List UInt8):L8 ⟨l.toArray⟩=l:=rfl
theorem Zw (l:List UInt8):L8 (Zd l)=l:=rfl
theorem Zay:L8 ByteArray.empty=[]:=rfl
theorem Qu {a b:ByteArray} (h:a.size+b.size < 9223372036854775808):X9 a b=some ():=by
 unfold X9;rw[ZZi (by simp[IntKind.max,IntKind.signed,IntKind.bits];omega)]
theorem Wi (a b:ByteArray):(a++b).size=a.size+b.size:=by rw[Z4,Wc,Vas,Z4,Z4]
theorem Yk (l:List UInt8):(Zd l).size=l.length:=by rw[Z4,Zw]
theorem Ziu:∀(k u:Nat),u < 10^(k+1)->(Lib.decDigits u).length<=k+1:=by
 intro k
 induction k with
 | zero=>
  intro u hu;rw[Lib.decDigits,dif_pos (by omega)];simp
 | succ k ih=>
  intro u hu;rw[Lib.decDigits];split
  .simp
  .rw[Vas]
   have:=ih (u / 10) (by rw[Vc0] at hu;omega);simp;omega
def dgL (u:Nat):List UInt8:=if u=0 then [] else Lib.decDigits u
theorem Z8a {u:Nat} (h:u≠0):dgL u=dgL (u / 10)++[UInt8.ofNat (48+u % 10)]:=by
 unfold dgL;rw[ZZi h,Lib.decDigits];split
 .rename_i h1
  rw[ZZj (by omega),Nat.mod_eq_of_lt h1];rfl
 .rw[ZZi (by omega)]
def InR (x:Int):Prop:=-9223372036854775808<=x/\x<=9223372036854775807
def Zt (x:Int):ByteArray:=⟨(Lib.itoa x).toArray⟩
theorem Xa (x:Int):L8 (Zt x)=Lib.itoa x:=rfl
theorem Zp3 {x:Int} (h:InR x):(Lib.itoa x).length<=20:=by
 obtain⟨h1,h2⟩:=h;unfold Lib.itoa;split
 .have:=Ziu 18 x.natAbs (by omega)
  simp;omega
 .have:=Ziu 18 x.toNat (by omega)
  omega
theorem K7 {x:Int} (h:InR x):(Zt x).size<=20:=by rw[Z4,Xa];exact Zp3 h
theorem Yaj {x:Int} (h:x≠0):Lib.itoa x=(if x < 0 then [45] else [])++dgL x.natAbs:=by
 unfold Lib.itoa dgL;have hn:¬x.natAbs=0:=by omega
 by_cases hx:x < 0
 .rw[ZZj hx,ZZj hx,ZZi hn];rfl
 .have:x.toNat=x.natAbs:=by omega
  rw[ZZi hx,ZZi hx,ZZi hn,this];rfl
theorem Z6f:Lib.itoa 0=[48]:=by
 unfold Lib.itoa;rw[ZZi (by omega),show (0:Int).toNat=0 from rfl,Lib.decDigits,dif_pos (by omega)];rfl
theorem digB {d:Int} (h0:0<=d) (h1:d < 10):strB [w8 (Zq 48 d)]=Zd [UInt8.ofNat (48+d.toNat)]:=by
 have:w8 (Zq 48 d)=((48+d.toNat:Nat):Int):=by
  simp[w8,Zq,IntKind.wrap,IntKind.bits,IntKind.signed];omega
 rw[this];rfl
theorem Z3c (x0:Int):∀(m:Nat) (v0:Int) (v1:ByteArray),v0.natAbs < m->InR v0->(v1.size+v0.natAbs < 9223372036854775807\/v1.size=0)->
  ∃r,Zbd x0 m v0 v1=some r/\L8 r=(if x0 < 0 then [45] else [])++dgL v0.natAbs++L8 v1:=by
 intro m
 induction m with
 | zero=>intro v0 v1 h;omega
 | succ m ih=>
  intro v0 v1 hm hr hs;show ∃r,Zia x0 (Zbd x0 m) v0 v1=some r/\_;unfold Zia;obtain⟨X6,Xq⟩:=hr;by_cases h0:v0=0
  .subst h0
   rw[ZZi (by simp)];by_cases hx:x0 < 0
   .rw[ZZj (by simpa using hx),Qu (by
     have hz:(0:Int).natAbs=0:=rfl;rw[hz] at hs;rw[Yk];show 1+v1.size < _;omega),ZZa]
    exact⟨_,rfl,by rw[ZZj hx,Wc];rfl⟩
   .rw[ZZi (by simpa using hx)]
    exact⟨_,rfl,by rw[ZZi hx];rfl⟩
  .rw[ZZj (by simpa using h0)]
   have hq:Zj6 v0 10=v0.tdiv 10:=by
    unfold Zj6;have:(v0.tdiv 10).natAbs=v0.natAbs / 10:=by rw[Int.natAbs_tdiv];rfl
    simp[IntKind.wrap,IntKind.bits,IntKind.signed];omega
   have hqa:(v0.tdiv 10).natAbs=v0.natAbs / 10:=by rw[Int.natAbs_tdiv];rfl
   have hra:(v0.tmod 10).natAbs=v0.natAbs % 10:=by rw[Int.natAbs_tmod];rfl
   have step:∀d:Int,0<=d->d.toNat=v0.natAbs % 10->∃r,Zdr x0 (Zbd x0 m) v0 v1 d=some r/\L8 r=(if x0 < 0 then [45] else [])++dgL v0.natAbs++L8 v1:=λd hd0 hd=>by
    unfold Zdr;rw[digB hd0 (by omega),Qu (by rw[Yk];simp;omega),ZZa,hq];obtain⟨r,h1,h2⟩:=ih (v0.tdiv 10) (Zd [UInt8.ofNat (48+d.toNat)]++v1) (by omega) (by constructor<;>omega) (.inl (by rw[Wi,Yk,hqa];simp;omega));refine⟨r,h1,?_⟩;rw[h2,hqa,Wc,Zw,Z8a (u:=v0.natAbs) (by omega),hd];simp
   unfold Zfv at*;by_cases hn:v0.tmod 10 < 0
   .rw[ZZj (by simpa using hn)]
    have hneg:negW (v0.tmod 10)=-(v0.tmod 10):=by
     simp[negW,IntKind.wrap,IntKind.bits,IntKind.signed];omega
    rw[hneg];exact step _ (by omega) (by omega)
   .rw[ZZi (by simpa using hn)]
    exact step _ (by omega) (by omega)
theorem Zh7 {x:Int} (h:InR x):Zef x=some (Zt x):=by
 unfold Zef;by_cases h0:x=0
 .subst h0
  rw[ZZj (by simp)];exact congrArg some (Kh (by rw[Xa,Z6f,Zw]))
 .rw[ZZi (by simpa using h0)]
  obtain⟨r,h1,h2⟩:=Z3c x FU x ByteArray.empty (by obtain⟨h1,h2⟩:=h;unfold FU;omega) h (.inr rfl);rw[h1];exact congrArg some (Kh (by rw[h2,Xa,Yaj h0,Zay,Vb2]))
theorem Zmp {x:Int} (h:InR x):Zf0 x=some (Zt x):=by
 unfold Zf0 Zdc;rw[ZZj (show _/\_ from h)];rfl
theorem Zlf {ws:List ByteArray} {sep:ByteArray} (h1:ws.length<=1000000000) (h2:(Lib.join (ws.map L8) (L8 sep)).length<=140737488355328):Wp ws sep=some ⟨(Lib.join (ws.map L8) (L8 sep)).toArray⟩:=by
 unfold Wp;rw[ZZj ⟨by omega,h2⟩];rfl
theorem Zje (x a b:Int):Zaz x a b=some (decide (a<=x/\x<=b)):=by
 unfold Zaz;by_cases h:a<=x<;>simp[h]
theorem Zhs (x a b:Int):Zcq x a b=some (decide (a<=x/\x<=b)):=by
 unfold Zcq;by_cases h:a<=x<;>simp[h]
def Xu (s:Int):Int:=if s=0 then 1 else if s=1 then 2 else if s=2 then 4 else 0
def Zer (s:Int):Int:=if s=0 then 256 else if s=1 then 65536 else if s=2 then 4294967296 else 0
def Yr (b:Int):Int:=if b=0 then 1 else if b=1 then 4 else if b=2 then 4 else if b=3 then 8 else 0
theorem Zvl (s:Int):0<=Xu s/\Xu s<=4:=by unfold Xu;repeat' split<;>omega
theorem Znm (s:Int):0<=Zer s/\Zer s<=4294967296:=by unfold Zer;repeat' split<;>omega
theorem Zb9 (b:Int):0<=Yr b/\Yr b<=8:=by unfold Yr;repeat' split<;>omega
theorem Zch (s:Int):Q6 s=some (Xu s):=by
 unfold Q6;rw[Zhs,ZZa];by_cases h:0<=s/\s<=2
 .have:s=0\/s=1\/s=2:=by omega
  rcases this with rfl|rfl|rfl<;>rfl
 .have:Xu s=0:=by unfold Xu;repeat' split<;>omega
  simp[h,this]
theorem Zit (s:Int):K5 s=some (Xu s):=by
 rw[<-Zch];unfold K5 Q6;rw[Zje,Zhs]
theorem Zca (b:Int):Q8 b=some (Yr b):=by
 unfold Q8;rw[Zhs,ZZa];by_cases h:0<=b/\b<=3
 .have:b=0\/b=1\/b=2\/b=3:=by omega
  rcases this with rfl|rfl|rfl|rfl<;>rfl
 .have:Yr b=0:=by unfold Yr;repeat' split<;>omega
  simp[h,this]
theorem Zin (b:Int):Zbk b=some (Yr b):=by
 rw[<-Zca];unfold Zbk Q8;rw[Zje,Zhs]
theorem Zoi (s:Int):Zdo s=some (Zer s):=by
 unfold Zdo;rw[Zch,ZZa,ZZa];by_cases h:s=0\/s=1\/s=2
 .rcases h with rfl|rfl|rfl<;>rfl
 .have h1:Xu s=0:=by unfold Xu;repeat' split<;>omega
  have h2:Zer s=0:=by unfold Zer;repeat' split<;>omega
  simp[h1,h2]
theorem Zyr (s:Int):Zf6 s=some (Zer s):=by
 rw[<-Zoi];unfold Zf6 Zdo;simp only[Zit,Zch]
def Ziq (v s:Int):Bool:=decide (0<=v/\v < Zer s)
theorem Z3j (v s:Int):Zi5 v s=some (Ziq v s):=by
 have:=Znm s;unfold Zi5 Ziq;rw[Zyr,ZZa,Zje,ZZa,Zk5 (by omega) (by omega)]
 congr 2
 apply propext;omega
theorem Z6v (v s:Int):Zcq v 0 (Zoy (Zer s) 1)=some (Ziq v s):=by
 have:=Znm s;unfold Ziq;rw[Zhs,Zk5 (by omega) (by omega)]
 congr 2
 apply propext;omega
def Qf (a s:Int):Bool:=decide (0 < Xu s)&&(decide (0<=a)&&decide (a % Xu s=0))
theorem Zx1 (a s:Int):Zf3 a s=some (Qf a s):=by
 unfold Zf3 Qf;rw[Zch,ZZa,ZZa];by_cases h1:0 < Xu s
 .by_cases h2:0<=a
  .rw[Zs4 (by omega),Zqb h2];simp[h1,h2]
  .simp[h1,h2]
 .simp[h1]
theorem Zv1 (s:Int):0 < Xu s↔(0<=s/\s<=2):=by
 unfold Xu
 repeat' split<;>omega
theorem Zyt (a s:Int):Zf9 a s=some (Qf a s):=by
 unfold Zf9 Qf;rw[Zje,ZZa,Zit,ZZa];by_cases h1:0 < Xu s
 .have h3:=(Zv1 s).1 h1
  by_cases h2:0<=a
  .rw[Zs4 (by omega),Zqb h2];simp[h1,h2,h3]
  .simp[h1,h2,h3]
 .have h3:¬(0<=s/\s<=2):=λh=>h1 ((Zv1 s).2 h)
  simp[h1,h3]
def Zab (a s b:Int):Int:=if (Qf a s=true/\a < 512)/\Yr b≠0 then (if b=2/\(a+Xu s) % (4*Xu s)=0 then a+Xu s - 4*Xu s else a+Xu s) else -1
theorem Za8 {a s:Int} (h:Qf a s=true):0 < Xu s/\0<=a/\a % Xu s=0:=by
 simpa [Qf,ZZg,ZZl] using h
theorem Zw3 (a s b:Int):Zci a s b=some (Zab a s b):=by
 have hb:=Zvl s;unfold Zci Je Za4 Zab;rw[Zch,ZZa,Zx1,ZZa,Zhs,ZZa,Zca,ZZa];by_cases h1:Qf a s=true
 .obtain⟨h2,h3,h4⟩:=Za8 h1
  by_cases h5:a < 512
  .have h6:0<=a/\a<=511:=by omega
   rw[Zfs (by omega) (by omega),Zfy (by omega) (by omega),Zk5 (by omega) (by omega),Zs4 (by omega),Zqb (by omega)];by_cases h7:Yr b=0
   .simp[h1,h5,h6,h7]
   .by_cases h8:b=2
    .subst h8
     by_cases h9:(a+Xu s) % (4*Xu s)=0<;>simp[h1,h5,h6,h7,h9]
    .simp[h1,h5,h6,h7,h8]
  .have h6:¬(0<=a/\a<=511):=by omega
   simp[h1,h5,h6]
 .simp[h1]
theorem Zw1 (a s b:Int):Zfb a s b=some (Zab a s b):=by
 have hb:=Zvl s;unfold Zfb Jf Zab;rw[Zyt,ZZa,Zit,ZZa,ZZa,Zin,ZZa];by_cases h1:Qf a s=true
 .obtain⟨h2,h3,h4⟩:=Za8 h1
  by_cases h5:a < 512
  .have h6:¬a≥512:=by omega
   rw[Zfs (by omega) (by omega),Zfy (by omega) (by omega),Zk5 (by omega) (by omega),Zs4 (by omega),Zqb (by omega)];by_cases h7:Yr b=0
   .simp[h1,h5,h6,h7]
   .by_cases h8:b=2
    .subst h8
     by_cases h9:(a+Xu s) % (4*Xu s)=0<;>simp[h1,h5,h6,h7,h9]
    .simp[h1,h5,h6,h7,h8]
  .have h6:a≥512:=by omega
   simp[h1,h5,h6]
 .simp[h1]
theorem Z1i {a s b:Int} (h:0<=Zab a s b):Qf a s=true/\a < 512:=by
 unfold Zab at h;split at h
 .rename_i h1;exact h1.1
 .omega
def Qh (s b:Int):Nat->Int->Option (List Int)
 | 0,_=>some []
 | n+1,a=>if Zab a s b < 0 then none else (Qh s b n (Zab a s b)).map (a::·)
def Wt (a s b:Int):List Int:=(Qh s b (Yr b).toNat a).getD []
theorem Zse (a s b:Int):Zda a s b=some (Wt a s b):=by
 have hb:=Zb9 b;unfold Zda;rw[Zin,ZZa];have key:∀(n m:Nat) (x:Int) (out:List Int) (k:Nat),n < m->(k:Int)+n=Yr b->out.length=k->Jr a s b m x out (Yr b) k=some (match Qh s b n x with|some l=>out++l|none=>[]):=by
  intro n
  induction n with
  | zero=>
   intro m x out k hm hk ho;obtain⟨m,rfl⟩:∃m',m=m'+1:=⟨m - 1,by omega⟩;show Qs a s b _ x out (Yr b) k=_;unfold Qs;rw[ZZi (by simp;omega)];simp[Qh]
  | succ n ih=>
   intro m x out k hm hk ho;obtain⟨m,rfl⟩:∃m',m=m'+1:=⟨m - 1,by omega⟩;show Qs a s b _ x out (Yr b) k=_;unfold Qs;rw[ZZj (by simp;omega),Zw1,ZZa];simp only[Qh];by_cases h1:Zab x s b < 0
   .rw[ZZj (by simpa using h1),ZZj h1]
   .rw[ZZi (by simpa using h1),ZZi h1,Wz (by simp;omega) (by simp;omega),ZZa,Xr (by omega),ih m _ _ (k+1) (by omega) (by omega) (by simp[ho])]
    cases Qh s b n (Zab x s b)<;>simp
 have:=key (Yr b).toNat FU a [] 0 (by have:=Wk;omega) (by omega) rfl;rw[show ((0:Nat):Int)=0 from rfl] at this;rw[this];unfold Wt;cases Qh s b (Yr b).toNat a<;>simp
theorem Zss (a s b:Int):Zc5 a s b=some (Wt a s b):=by
 have hb:=Zb9 b;unfold Zc5;have key:∀(n m:Nat) (x:Int) (out:List Int),n < m->(out.length:Int)+n=Yr b->Js a s b m x out=some (match Qh s b n x with|some l=>out++l|none=>[]):=by
  intro n
  induction n with
  | zero=>
   intro m x out hm hk;obtain⟨m,rfl⟩:∃m',m=m'+1:=⟨m - 1,by omega⟩;show Qo a s b _ x out=_;unfold Qo Ke;have h1:¬((out.length:Int) < Yr b):=by omega
   simp[Zca,h1,Qh]
  | succ n ih=>
   intro m x out hm hk;obtain⟨m,rfl⟩:∃m',m=m'+1:=⟨m - 1,by omega⟩;show Qo a s b _ x out=_;unfold Qo Ke;have h1:(out.length:Int) < Yr b:=by omega
   simp only[Zca,Zw3,ZZa,h1,decide_true,if_true,Qh,ZZl];by_cases h2:Zab x s b < 0
   .have h3:¬(Zab x s b≥0):=by omega
    rw[ZZi h3,ZZj h2]
   .have h3:Zab x s b≥0:=by omega
    rw[ZZj h3,ZZi h2,Wz (by simp;omega) (by simp;omega),ZZa,ih m _ _ (by omega) (by simp;omega)];cases Qh s b n (Zab x s b)<;>simp
 have:=key (Yr b).toNat FU a [] (by have:=Wk;omega) (by simp;omega);rw[this];unfold Wt;cases Qh s b (Yr b).toNat a<;>simp
theorem Zol {s b:Int}:∀{n:Nat} {a:Int} {l:List Int},Qh s b n a=some l->l.length=n/\(∀x∈l,Qf x s=true/\x < 512)/\(0 < n->l.head?=some a):=by
 intro n
 induction n with
 | zero=>intro a l h;simp only[Qh,ZZd] at h;subst h;simp
 | succ n ih=>
  intro a l h;simp only[Qh] at h;split at h
  .cases h
  .rename_i h1
   obtain⟨l',h2,rfl⟩:=ZZc.1 h;obtain⟨h3,h4,_⟩:=ih h2;refine⟨by simp[h3],λx hx=>?_,λ_=>rfl⟩;rcases Vap.1 hx with rfl|hx
   .exact Z1i (s:=s) (b:=b) (by omega)
   .exact h4 x hx
theorem Zs6 (a s b:Int):Wt a s b=[]\/((Wt a s b).length:Int)=Yr b:=by
 unfold Wt;have hb:=Zb9 b;cases h:Qh s b (Yr b).toNat a with
 | none=>exact .inl rfl
 | some l=>
  have:=(Zol h).1;exact .inr (by simp only[Va0];omega)
theorem Zmg {a s b x:Int} (h:x∈Wt a s b):Qf x s=true/\0<=x/\x < 512:=by
 unfold Wt at h;cases h2:Qh s b (Yr b).toNat a with
 | none=>rw[h2] at h;simp at h
 | some l=>
  rw[h2] at h;have:=(Zol h2).2.1 x h;exact⟨this.1,(Za8 this.1).2.1,this.2⟩
theorem Zvc (a s b:Int):(Wt a s b).length<=8:=by
 have:=Zb9 b;rcases Zs6 a s b with h|h
 .rw[h];simp
 .omega
def Zdm (a s b:Int):Bool:=(Wt a s b).all (λx=>decide (x / 64=atI (Wt a s b) 0 / 64))&&decide (Wt a s b≠[])
theorem Zpw {x:Int} (h0:0<=x) (h1:x < 512):Zj6 x 64=x / 64:=Z9k h0 (by omega) (by omega)
theorem Zyy (a s b:Int):Zgb a s b=some (Zdm a s b):=by
 unfold Zgb Zdm;rw[Zse,ZZa];generalize hA:Wt a s b=l;have hm:∀x∈l,0<=x/\x < 512:=λx hx=>by rw[<-hA] at hx;exact (Zmg hx).2
 have hl:l.length<=8:=by rw[<-hA];exact Zvc a s b
 have key:∀(m k:Nat),k<=l.length->l.length - k < m->Zbx a s b m l (l.length:Int) k=some ((l.drop k).all (λx=>decide (x / 64=atI l 0 / 64))&&decide (l≠[])):=by
  intro m
  induction m with
  | zero=>intro k _ h;omega
  | succ m ih=>
   intro k hk hm2;show Zd2 a s b _ l (l.length:Int) k=_;unfold Zd2;by_cases hc:k < l.length
   .have h0:=hm _ (Vai hc)
    have h1:=hm _ (Vai (by omega:0 < l.length));rw[ZZj (by simpa using hc),Z1 hc,ZZa,show (0:Int)=((0:Nat):Int) from rfl,Z1 (by omega:0 < l.length),ZZa,Zpw h0.1 h0.2,Zpw h1.1 h1.2,Zsr (by omega:0 < l.length),Vbe hc,Vbc];by_cases hq:(l[k]:Int) / (64:Int)=(l[0]:Int) / (64:Int)
    .rw[ZZi (by simpa using hq),Xr (by omega),ih (k+1) (by omega) (by omega),show (0:Int)=((0:Nat):Int) from rfl,Zsr (by omega:0 < l.length),decide_eq_true hq,Vck]
    .rw[ZZj (by simpa using hq),decide_eq_false hq,Vc2,Vc2]
   .rw[ZZi (by simpa using hc),Vbj (by omega)]
    simp[Vbl]
 have:=key FU 0 (Vbb _) (by have:=Wk;omega);simpa using this
theorem Zx7 (a s b:Int):Zgi a s b=some (Zdm a s b):=by
 unfold Zgi Zdm;rw[Zss,ZZa];generalize hA:Wt a s b=l;have hm:∀x∈l,0<=x/\x < 512:=λx hx=>by rw[<-hA] at hx;exact (Zmg hx).2
 have hl:l.length<=8:=by rw[<-hA];exact Zvc a s b
 have key:∀(m k:Nat),k<=l.length->l.length - k < m->Zbv a s b m l k=some ((l.drop k).all (λx=>decide (x / 64=atI l 0 / 64))&&decide (l≠[])):=by
  intro m
  induction m with
  | zero=>intro k _ h;omega
  | succ m ih=>
   intro k hk hm2;show Zec a s b _ l k=_;unfold Zec;by_cases hc:k < l.length
   .have h0:=hm _ (Vai hc)
    have h1:=hm _ (Vai (by omega:0 < l.length));rw[ZZj (by simpa using hc),Z1 hc,ZZa,show (0:Int)=((0:Nat):Int) from rfl,Z1 (by omega:0 < l.length),ZZa,Zpw h0.1 h0.2,Zpw h1.1 h1.2,Zsr (by omega:0 < l.length),Vbe hc,Vbc];by_cases hq:(l[k]:Int) / (64:Int)=(l[0]:Int) / (64:Int)
    .rw[ZZi (by simpa using hq),Xr (by omega),ih (k+1) (by omega) (by omega),show (0:Int)=((0:Nat):Int) from rfl,Zsr (by omega:0 < l.length),decide_eq_true hq,Vck]
    .rw[ZZj (by simpa using hq),decide_eq_false hq,Vc2,Vc2]
   .rw[ZZi (by simpa using hc),Vbj (by omega)]
    simp[Vbl]
 have:=key FU 0 (Vbb _) (by have:=Wk;omega);simpa using this
def Wq (r:Zj):Bool:=Zdm r.addr r.size r.burst&&(decide ((r.data_.length:Int)=if r.write then Yr r.burst else 0)&&r.data_.all λv=>Ziq v r.size)
def Zj.sm (r:Zj):Prop:=r.data_.length < 1048577
theorem Zs2 (r:Zj) (hs:r.sm):Zeg r=some (Wq r):=by
 unfold Zj.sm at hs;have hf:Xc r.data_ r=some (!r.data_.all λv=>Ziq v r.size):=by
  unfold Xc We;refine Z56 r.data_ (by omega) (λv=>Zf5 v r) (λv=>Ziq v r.size) (λv _=>?_) _ (λm i=>rfl);unfold Zf5;rw[Z3j];rfl
 unfold Zeg Zdy Wq;rw[Zin,ZZa,Zyy,ZZa,hf,ZZa,Bool.not_not];by_cases h1:Zdm r.addr r.size r.burst=true
 .by_cases h2:r.write=true
  .by_cases h3:(r.data_.length:Int)=Yr r.burst<;>simp[h1,h2,h3]
  .by_cases h3:r.data_=[]<;>simp[h1,h2,h3]
 .by_cases h2:r.write=true<;>simp[h1,h2]
theorem Z33 (r:Zj) (hs:r.sm):Zi7 r=some (Wq r):=by
 unfold Zj.sm at hs;unfold Zi7;rw[Zx7,ZZa];have hb:=Zb9 r.burst;have key:∀(m k:Nat),k<=r.data_.length->r.data_.length - k < m->Zd0 r m k=some (decide ((r.data_.length:Int)=if r.write then Yr r.burst else 0)&&(r.data_.drop k).all λv=>Ziq v r.size):=by
  intro m
  induction m with
  | zero=>intro k _ h;omega
  | succ m ih=>
   intro k hk hm;show Zfw r _ k=_;unfold Zfw;by_cases hc:k < r.data_.length
   .rw[ZZj (by simpa using hc),Z1 hc,ZZa,Zoi,ZZa,Z6v,ZZa,Vbe hc,Vbc]
    by_cases hq:Ziq r.data_[k] r.size=true
    .rw[ZZi (by simp[hq]),Xr (by omega),ih (k+1) (by omega) (by omega)]
     simp[hq]
    .rw[ZZj (by simp[hq])]
     simp[hq]
   .rw[ZZi (by simpa using hc),Vbj (by omega),Zca]
    cases h2:r.write<;>simp only[if_true,if_false,ZZf,ZZa,Vdy,Vdq]<;>generalize decide ((r.data_.length:Int)=0)=x<;>generalize decide ((r.data_.length:Int)=Yr r.burst)=y<;>cases x<;>cases y<;>rfl
 have:=key FU 0 (Vbb _) (by have:=Wk;omega);unfold Wq;by_cases h1:Zdm r.addr r.size r.burst=true
 .rw[ZZi (by simp[h1]),show (0:Int)=((0:Nat):Int) from rfl,this]
  simp[h1]
 .rw[ZZj (by simp[h1])]
  simp[h1]
theorem Zjr {r:Zj} (h:Wq r=true):Zdm r.addr r.size r.burst=true/\(r.data_.length:Int)=(if r.write then Yr r.burst else 0)/\∀v∈r.data_,Ziq v r.size=true:=by
 simp only[Wq,ZZg,ZZl,ZZk] at h;exact⟨h.1,h.2.1,h.2.2⟩
theorem Zvh {a s b:Int} (h:Zdm a s b=true):((Wt a s b).length:Int)=Yr b/\1<=Yr b:=by
 simp only[Zdm,ZZg,ZZl] at h;rcases Zs6 a s b with h1|h1
 .exact absurd h1 h.2
 .have:0 < (Wt a s b).length:=Vbl.2 h.2
  omega
theorem Ztf {r:Zj} (h:Wq r=true):r.sm:=by
 have:=(Zjr h).2.1;have hb:=Zb9 r.burst;unfold Zj.sm;split at this<;>omega
theorem Zvw {l:List Int} (hl:l.length < 1048577) (h:∀x∈l,InR x):Zfx l=some (l.map Zt):=by
 unfold Zfx;refine Zeh (σ:=List ByteArray) (n:=l.length) (by omega) (λk=>(l.take k).map Zt) (B:=λκ st j=>Zdz l κ st j) (L:=λm st j=>Zfd l m st j) (λm s i=>rfl) (λk hk κ=>?_) λκ=>?_
 .unfold Zdz
  have h2:(l.take k).length<=k:=by rw[Vct];omega
  rw[ZZj (by simpa using hk),Z1 hk,ZZa,Zmp (h _ (Vai hk)),ZZa,Wz (by simp;omega) (by simp;omega),ZZa,Vbg hk,Vbt];rfl
 .unfold Zdz
  rw[ZZi (by simp),Vb8]
def Yw (l:List Int):List UInt8:=l.flatMap λx=>[32]++Lib.itoa x
theorem Zsc (l:List Int) (x:Int):Yw (l++[x])=Yw l++[32]++Lib.itoa x:=by
 unfold Yw;rw[Vdj];simp
theorem Zd1:∀{l:List Int},(∀x∈l,InR x)->(Yw l).length<=21*l.length:=by
 intro l
 induction l with
 | nil=>intro _;simp[Yw]
 | cons d l ih=>
  intro h;have h1:=Zp3 (h d Vaa);have h2:=ih λx hx=>h x (Vac _ hx);have e:Yw (d::l)=([32]++Lib.itoa d)++Yw l:=rfl;rw[e,Vas,Vas,Vad];simp only[Vad,Va1];omega
theorem Z5t (w:ByteArray) (l:List Int):Lib.join ((w::l.map Zt).map L8) [32]=L8 w++Yw l:=by
 rw[Vau,Lib.join_cons]
 congr 1
 unfold Lib.joinTail Yw;rw[Vca,Vca,Vc7];rfl
theorem Zyw (a:ByteArray) (ws:List ByteArray) (l:List Int):Lib.join (((a::ws)++l.map Zt).map L8) [32]=Lib.join ((a::ws).map L8) [32]++Yw l:=by
 rw[Vbz,Vau,Lib.join_cons,Vau,Lib.join_cons,List.append_assoc]
 congr 1
 unfold Lib.joinTail Yw;rw[Vbt,Vbt,List.flatten_append]
 congr 1
 rw[Vca,Vca,Vc7];rfl
def Zb2 (w:List UInt8) (l:List Int):List UInt8:=if l=[] then [] else w++Yw l++[10]
theorem Zna {w:ByteArray} {l:List Int} (hw:w.size<=100) (hl:l.length < 1048577) (h:∀x∈l,InR x):Zcs w l=some ⟨(Zb2 (L8 w) l).toArray⟩:=by
 unfold Zcs Zb2;cases l with
 | nil=>rw[ZZj (by simp),ZZj rfl];rfl
 | cons x l=>
  rw[ZZi (by simp;omega),ZZi (by simp),Zvw hl h];have hn:=Zd1 h;have ej:Lib.join (((x::l).map Zt).map L8) (L8 (Zd [32]))=Lib.itoa x++Yw l:=by
   rw[Zw,Vau,Z5t,Xa]
  have en:Yw (x::l)=[32]++(Lib.itoa x++Yw l):=by unfold Yw;simp
  rw[en] at hn ⊢;have hb:(Lib.itoa x++Yw l).length<=30000000:=by rw[Vas] at hn;simp only[Vad,Va1] at hn hl;omega
  rw[Qu (by rw[Yk];simp;omega),ZZa,ZZa,Zlf (by simp only[Vcb];omega) (by rw[ej];omega),ZZa,ej];have z:(⟨(Lib.itoa x++Yw l).toArray⟩:ByteArray).size=(Lib.itoa x++Yw l).length:=by rw[Z4,Xt]
  rw[Qu (by simp only[Wi,Yk,z,Vad,Va1];omega),ZZa,Qu (by simp only[Wi,Yk,z,Vad,Va1];omega),ZZa];refine congrArg some (Kh (Vc1 ?_ (Xt _).symm));rw[Wc,Wc,Wc,Zw,Zw,Xt (Lib.itoa x++Yw l)];simp
theorem Zot {w:ByteArray} {l:List Int} (hw:w.size<=100) (hl:l.length < 1048577) (h:∀x∈l,InR x):Zdl w l=some ⟨(Zb2 (L8 w) l).toArray⟩:=by
 have hn:=Zd1 h;unfold Zdl Zb2;cases hc:l with
 | nil=>rw[ZZj (by simp),ZZj rfl];rfl
 | cons x r=>
  rw[<-hc,ZZi (by rw[hc];simp;omega),ZZi (by rw[hc];simp)];clear hc;have e0:w++(⟨(Yw (l.take 0)).toArray⟩:ByteArray)=w:=Kh (by rw[Wc,Xt (Yw (l.take 0))];simp[Yw]);have hs:∀k,(⟨(Yw (l.take k)).toArray⟩:ByteArray).size<=30000000:=λk=>by
   have h1:=Zd1 (l:=l.take k) λx hx=>h x (Vba hx);have h2:(l.take k).length<=l.length:=by rw[Vct];omega
   rw[Z4,Xt];omega
  refine Vc1 (congrArg (λv=>Jx w l FU v 0) e0.symm) (Zeh (σ:=ByteArray) (n:=l.length) (by omega) (λk=>w++(⟨(Yw (l.take k)).toArray⟩:ByteArray)) (B:=λκ st j=>Za3 w l κ st j) (L:=λm st j=>Jx w l m st j) (λm s i=>rfl) (λk hk κ=>?_) (λκ=>?_))
  .have h1:=hs k
   have h2:=K7 (h _ (Vai hk));unfold Za3;rw[ZZj (by simpa using hk),Qu (by simp only[Wi,Yk,Vad,Va1];omega),ZZa,Z1 hk,ZZa,Zh7 (h _ (Vai hk)),ZZa,Qu (by simp only[Wi,Yk,Vad,Va1];omega),ZZa]
   congr 1
   refine Kh ?_;rw[Wc,Wc,Wc,Wc,Zw,Xt (Yw (l.take k)),Xt (Yw (l.take (k+1))),Vbg hk,Zsc,Xa];simp
  .have h1:=hs l.length
   unfold Za3;rw[ZZi (by simp),Qu (by simp only[Wi,Yk,Vad,Va1];omega),ZZa];refine congrArg some (Kh (Vc1 ?_ (Xt _).symm));rw[Wc,Wc,Zw,Xt (Yw (l.take l.length)),Vb8]
def Jj (s:Int):ByteArray:=if s=0 then Zd [98,121,116,101] else if s=1 then Zd [104,97,108,102] else Zd [119,111,114,100]
def Qq (b:Int):ByteArray:=if b=0 then Zd [111,110,101] else if b=1 then Zd [102,111,117,114] else if b=2 then Zd [119,114,97,112] else Zd [101,105,103,104,116]
theorem Zmc (x:Int):(Jj x).size<=5:=by
 unfold Jj
 repeat' split
 all_goals (rw[Yk];simp)
theorem Zkr (x:Int):(Qq x).size<=5:=by
 unfold Qq
 repeat' split
 all_goals (rw[Yk];simp)
theorem Zjf {r:Zj} (h:Wq r=true):idx [Zd [98,121,116,101],Zd [104,97,108,102],Zd [119,111,114,100]] r.size=some (Jj r.size)/\idx [Zd [111,110,101],Zd [102,111,117,114],Zd [119,114,97,112],Zd [101,105,103,104,116]] r.burst=some (Qq r.burst):=by
 have hb:=(Zjr h).1;have hl:=Zvh hb;have h2:r.burst=0\/r.burst=1\/r.burst=2\/r.burst=3:=by
  have:=hl.2;unfold Yr at this
  repeat' split at this
  all_goals omega
 have h1:r.size=0\/r.size=1\/r.size=2:=by
  have Zp:Wt r.addr r.size r.burst≠[]:=λe=>by rw[e] at hl;simp at hl;omega
  have hn:(Yr r.burst).toNat≠0:=by omega
  obtain⟨n,hn'⟩:=Nat.exists_eq_succ_of_ne_zero hn;have hx:¬Zab r.addr r.size r.burst < 0:=λe=>Zp (by
   unfold Wt;rw[hn'];unfold Qh;rw[ZZj e];rfl)
  have ha:Qf r.addr r.size=true:=by
   unfold Zab at hx;by_cases hc:(Qf r.addr r.size=true/\r.addr < 512)/\Yr r.burst≠0
   .exact hc.1.1
   .rw[ZZi hc] at hx;omega
  have:=(Za8 ha).1;unfold Xu at this
  repeat' split at this
  all_goals omega
 constructor
 .rcases h1 with e|e|e<;>rw[e]<;>rfl
 .rcases h2 with e|e|e|e<;>rw[e]<;>rfl
def Zgh (b:Bool):List UInt8:=if b=true then [32,108,111,99,107] else []
def Q3 (b:Bool):List UInt8:=if b=true then [119,114,105,116,101] else [114,101,97,100]
def X0 (r:Zj):List UInt8:=Q3 r.write++[32]++L8 (Jj r.size)++[32]++L8 (Qq r.burst)++[32]++Lib.itoa r.addr++Zgh r.lock++Yw r.data_
def Zj.nums (r:Zj):Prop:=InR r.addr/\∀x∈r.data_,InR x
theorem Zhw {r:Zj} (h:Wq r=true):r.data_.length<=8:=by
 have h1:=(Zjr h).2.1;have h2:=Zb9 r.burst;split at h1<;>omega
theorem Zk1 {r:Zj} (hd:r.data_.length<=8) (hn:∀x∈r.data_,InR x) {v0:ByteArray} (hv:v0.size<=1000):Ko r FU v0 0=some ⟨(L8 v0++Yw r.data_).toArray⟩:=by
 have e0:v0++(⟨(Yw (r.data_.take 0)).toArray⟩:ByteArray)=v0:=Kh (by rw[Wc,Xt (Yw (r.data_.take 0))];simp[Yw]);have hs:∀k,(⟨(Yw (r.data_.take k)).toArray⟩:ByteArray).size<=300:=λk=>by
  have h1:=Zd1 (l:=r.data_.take k) λx hx=>hn x (Vba hx);have h2:(r.data_.take k).length<=r.data_.length:=by rw[Vct];omega
  rw[Z4,Xt];omega
 refine Vc1 (congrArg (λv=>Ko r FU v 0) e0.symm) (Zeh (σ:=ByteArray) (n:=r.data_.length) (by omega) (λk=>v0++(⟨(Yw (r.data_.take k)).toArray⟩:ByteArray)) (B:=λκ st j=>Zax r κ st j) (L:=λm st j=>Ko r m st j) (λm s i=>rfl) (λk hk κ=>?_) (λκ=>?_))
 .have h1:=hs k
  have h2:=K7 (hn _ (Vai hk));unfold Zax;rw[ZZj (by simpa using hk),Qu (by simp only[Wi,Yk,Vad,Va1];omega),ZZa,Z1 hk,ZZa,Zh7 (hn _ (Vai hk)),ZZa,Qu (by simp only[Wi,Yk,Vad,Va1];omega),ZZa]
  congr 1
  refine Kh ?_;rw[Wc,Wc,Wc,Wc,Zw,Xt (Yw (r.data_.take k)),Xt (Yw (r.data_.take (k+1))),Vbg hk,Zsc,Xa];simp
 .unfold Zax
  rw[ZZi (by simp)];refine congrArg some (Kh (Vc1 ?_ (Xt _).symm));rw[Wc,Xt (Yw (r.data_.take r.data_.length)),Vb8]
theorem Zoh {r:Zj} (hs:r.sm) (hn:r.nums):Zbh r=some (if Wq r=true then ⟨(X0 r).toArray⟩ else ByteArray.empty):=by
 unfold Zbh;rw[Z33 r hs,ZZa];by_cases h:Wq r=true
 .rw[ZZi (by simp[h]),ZZj h]
  have z1:=Zmc r.size;have z2:=Zkr r.burst;have z3:=K7 hn.1;have hd:=Zhw h;have key:∀(v0:ByteArray),v0.size<=5->L8 v0=Q3 r.write->Jp r v0=some ⟨(X0 r).toArray⟩:=λv0 hv hw=>by
   unfold Jp;rw[(Zjf h).1,(Zjf h).2,Zh7 hn.1];simp (disch:=(first|omega|(simp only[Wi,Yk,Vad,Va1];omega))) only[Qu,ZZa];unfold Zbw;cases hk:r.lock with
   | true=>
    rw[ZZj rfl,Zk1 hd hn.2 (by simp only[Wi,Yk,Vad,Va1];omega)];refine congrArg some (Kh (Vc1 (Xt _) (Vc1 ?_ (Xt _).symm)));unfold X0 Zgh;rw[hk,ZZj rfl];simp only[Wc,Zw,Xa,hw]
   | false=>
    rw[ZZi (by simp),Zk1 hd hn.2 (by simp only[Wi,Yk,Vad,Va1];omega)];refine congrArg some (Kh (Vc1 (Xt _) (Vc1 ?_ (Xt _).symm)));unfold X0 Zgh;rw[hk,ZZi (by simp),Vb2];simp only[Wc,Zw,Xa,hw]
  cases hw:r.write with
  | true=>rw[ZZj rfl];exact key _ (by rw[Yk];simp) (by rw[hw];rfl)
  | false=>rw[ZZi (by simp)];exact key _ (by rw[Yk];simp) (by rw[hw];rfl)
 .rw[ZZj (by simp[h]),ZZi h]
theorem Znq {r:Zj} (hs:r.sm) (hn:r.nums):Zbi r=some (if Wq r=true then ⟨(X0 r).toArray⟩ else ByteArray.empty):=by
 unfold Zbi;rw[Zs2 r hs,ZZa];by_cases h:Wq r=true
 .rw[ZZi (by simp[h]),ZZj h]
  have z1:=Zmc r.size;have z2:=Zkr r.burst;have z3:=Zp3 hn.1;have hd:=Zhw h;have z4:=Zd1 hn.2;rw[Z4] at z1 z2;have hw:Zdv r.write=some (Zd (Q3 r.write)):=by
   unfold Zdv Q3;cases r.write<;>rfl
  have zw:(Q3 r.write).length<=5:=by unfold Q3;split<;>simp
  rw[hw,ZZa];unfold Jl Jb;rw[ZZa,(Zjf h).1,ZZa,ZZa,(Zjf h).2,ZZa,Zmp hn.1,ZZa,Zvw (by omega) hn.2];cases hk:r.lock with
  | true=>
   have ej:Lib.join (([Zd (Q3 r.write),Jj r.size,Qq r.burst,Zt r.addr,Zd [108,111,99,107]]++r.data_.map Zt).map L8) (L8 (Zd [32]))=X0 r:=by
    rw[Zw,Zyw];unfold X0 Zgh;rw[hk,ZZj rfl]
    congr 1
    simp only[Vau,Vbw,Lib.join,List.intercalate,List.intersperse,Vax,List.flatten_nil,Zw,Xa];simp
   have hl:(X0 r).length<=1000:=by
    unfold X0 Zgh;rw[hk,ZZj rfl];simp only[Vas,Vad,Va1];omega
   rw[ZZj rfl,Wz (by simp) (by simp),ZZa,ZZa,Wz (by simp;omega) (by simp;omega),ZZa];show (Wp ([Zd (Q3 r.write),Jj r.size,Qq r.burst,Zt r.addr,Zd [108,111,99,107]]++r.data_.map Zt) (Zd [32])).bind _=_;rw[Zlf (by simp;omega) (by rw[ej];omega),ej];rfl
  | false=>
   have ej:Lib.join (([Zd (Q3 r.write),Jj r.size,Qq r.burst,Zt r.addr]++r.data_.map Zt).map L8) (L8 (Zd [32]))=X0 r:=by
    rw[Zw,Zyw];unfold X0 Zgh;rw[hk,ZZi (by simp),Vb2]
    congr 1
    simp only[Vau,Vbw,Lib.join,List.intercalate,List.intersperse,Vax,List.flatten_nil,Zw,Xa];simp
   have hl:(X0 r).length<=1000:=by
    unfold X0 Zgh;rw[hk,ZZi (by simp)];simp only[Vas,Vad,Va1];omega
   rw[ZZi (by simp),ZZa,Wz (by simp;omega) (by simp;omega),ZZa,Zlf (by simp;omega) (by rw[ej];omega),ej];rfl
 .rw[ZZj (by simp[h]),ZZi h]
theorem Kw (a b:ByteArray):(a.toList == b.toList)=decide (L8 a=L8 b):=by
 rw[Lib.toList_data,Lib.toList_data];by_cases h:L8 a=L8 b
 .rw[decide_eq_true h];exact beq_iff_eq.2 h
 .rw[decide_eq_false h];exact beq_eq_false_iff_ne.2 h
def Zbu (p:Zf):List UInt8:=[112,111,115,116,32]++Lib.itoa p.at_++[32]++Lib.itoa p.who++[32]++X0 p.req++[10]
def Zf.nums (p:Zf):Prop:=InR p.at_/\InR p.who/\p.req.nums
theorem Z2p (r:Zj):X0 r≠[]:=by
 unfold X0 Q3;split<;>simp
theorem Zp5 {r:Zj} (h:Wq r=true) (hn:r.nums):(X0 r).length<=300:=by
 have z1:=Zmc r.size;have z2:=Zkr r.burst;have z3:=Zp3 hn.1;have hd:=Zhw h;have z4:=Zd1 hn.2;rw[Z4] at z1 z2;have zw:(Q3 r.write).length<=5:=by unfold Q3;split<;>simp
 have zl:(Zgh r.lock).length<=5:=by unfold Zgh;split<;>simp
 unfold X0;simp only[Vas,Vad,Va1];omega
theorem Zx2 {r:Zj}:((⟨(X0 r).toArray⟩:ByteArray).toList == ByteArray.empty.toList)=false:=by
 rw[Kw,Xt,Zay];simp[Z2p]
theorem Zv2:(ByteArray.empty.toList == ByteArray.empty.toList)=true:=by rw[Kw];simp
def Zc9 (v0:ByteArray) (ps:List Zf):ByteArray:=if ps.all (λp=>Wq p.req)=true then ⟨(L8 v0++ps.flatMap Zbu).toArray⟩ else ByteArray.empty
theorem Zvv (v0:ByteArray):Zc9 v0 []=v0:=by
 unfold Zc9;rw[ZZj (by simp)];exact Kh (by rw[Xt (L8 v0++([]:List Zf).flatMap Zbu)];simp)
theorem Zvn {p:Zf} {ps:List Zf} (h:¬Wq p.req=true) (v0:ByteArray):Zc9 v0 (p::ps)=ByteArray.empty:=by
 unfold Zc9;rw[ZZi (by simp[h])]
theorem Ztj {p:Zf} {ps:List Zf} (h:Wq p.req=true) {v0 v1:ByteArray} (hv:L8 v1=L8 v0++Zbu p):Zc9 v0 (p::ps)=Zc9 v1 ps:=by
 unfold Zc9;rw[hv,Vbc,h,Vck,Vbh,List.append_assoc]
theorem Zqh {s:Za} (hp:s.posts.length < 1048600) (Zy:∀p∈s.posts,p.nums/\p.req.sm):∀(m k:Nat) (v0:ByteArray),k<=s.posts.length->s.posts.length - k < m->v0.size<=100000000+1000*k->
  Kb s m v0 (k:Int)=some (Zc9 v0 (s.posts.drop k)):=by
 intro m
 induction m with
 | zero=>intro k v0 _ h;omega
 | succ m ih=>
  intro k v0 hk hm hv;show Zbr s (Kb s m) v0 (k:Int)=_;unfold Zbr;by_cases hc:k < s.posts.length
  .obtain⟨⟨n1,n2,n3⟩,n4⟩:=Zy _ (Vai hc)
   have z1:=K7 n1;have z2:=K7 n2;rw[ZZj (by simpa using hc),Z1 hc,ZZa,Zoh n4 n3,ZZa,Vbe hc];by_cases hr:Wq s.posts[k].req=true
   .have z3:=Zp5 hr n3
    have z4:(⟨(X0 s.posts[k].req).toArray⟩:ByteArray).size<=300:=by rw[Z4,Xt];exact z3
    rw[ZZj hr,ZZi (by rw[Zx2];simp),Zh7 n1,Zh7 n2];simp (disch:=(first|omega|(simp only[Wi,Yk,Vad,Va1];omega))) only[Qu,ZZa];rw[Xr (by omega),ih (k+1) _ (by omega) (by omega) (by simp only[Wi,Yk,Vad,Va1];omega)];refine congrArg some (Ztj hr ?_).symm;simp only[Wc,Zw,Xa,Xt (X0 s.posts[k].req)];unfold Zbu;simp
   .rw[ZZi hr,ZZj (by rw[Zv2]),Zvn hr]
  .rw[ZZi (by simpa using hc),Vbj (by omega),Zvv]
theorem Zqe {s:Za} (hp:s.posts.length < 1048600) (Zy:∀p∈s.posts,p.nums/\p.req.sm):∀(m k:Nat) (v0:ByteArray),k<=s.posts.length->s.posts.length - k < m->v0.size<=100000000+1000*k->
  Kc s m v0 (k:Int)=some (Zc9 v0 (s.posts.drop k)):=by
 intro m
 induction m with
 | zero=>intro k v0 _ h;omega
 | succ m ih=>
  intro k v0 hk hm hv;show Zbl s (Kc s m) v0 (k:Int)=_;unfold Zbl;by_cases hc:k < s.posts.length
  .obtain⟨⟨n1,n2,n3⟩,n4⟩:=Zy _ (Vai hc)
   have z1:=K7 n1;have z2:=K7 n2;rw[ZZj (by simpa using hc),Z1 hc,ZZa,Znq n4 n3,ZZa,Vbe hc];by_cases hr:Wq s.posts[k].req=true
   .have z3:=Zp5 hr n3
    have z4:(⟨(X0 s.posts[k].req).toArray⟩:ByteArray).size<=300:=by rw[Z4,Xt];exact z3
    rw[ZZj hr,ZZi (by rw[Zx2];simp),Zmp n1,Zmp n2];simp (disch:=(first|omega|(simp only[Wi,Yk,Vad,Va1];omega))) only[Qu,ZZa];rw[Xr (by omega),ih (k+1) _ (by omega) (by omega) (by simp only[Wi,Yk,Vad,Va1];omega)];refine congrArg some (Ztj hr ?_).symm;simp only[Wc,Zw,Xa,Xt (X0 s.posts[k].req)];unfold Zbu;simp
   .rw[ZZi hr,ZZj (by rw[Zv2]),Zvn hr]
  .rw[ZZi (by simpa using hc),Vbj (by omega),Zvv]
structure ScrN (s:Za):Prop where
 few:s.posts.length < 1048600
 waits:s.waits.length < 1048577
 says:s.says.length < 1048577
 posts:∀p∈s.posts,p.nums/\p.req.sm
 wn:∀x∈s.waits,InR x
 sn:∀x∈s.says,InR x
def Zfg (s:Za):ByteArray:=⟨(Zb2 [119,97,105,116,115] s.waits).toArray⟩++⟨(Zb2 [115,97,121,115] s.says).toArray⟩
theorem Zy5 {w:List UInt8} (hw:w.length<=10) {l:List Int} (hl:l.length < 1048577) (h:∀x∈l,InR x):(Zb2 w l).length<=30000000:=by
 have:=Zd1 h;unfold Zb2;split
 .simp
 .simp only[Vas,Vad,Va1];omega
theorem Zq1 {s:Za} (h:ScrN s):(⟨(Zb2 [119,97,105,116,115] s.waits).toArray⟩:ByteArray).size<=30000000/\(⟨(Zb2 [115,97,121,115] s.says).toArray⟩:ByteArray).size<=30000000:=by
 rw[Z4,Z4,Xt,Xt];exact⟨Zy5 (by simp) h.waits h.wn,Zy5 (by simp) h.says h.sn⟩
theorem Zjo {s:Za} (h:ScrN s):Zc1 s=some (Zc9 (Zfg s) s.posts):=by
 have ⟨z1,z2⟩:=Zq1 h;unfold Zc1;rw[Zot (by rw[Yk];simp) h.waits h.wn,ZZa,Zot (by rw[Yk];simp) h.says h.sn,ZZa,Zw,Zw,Qu (by omega),ZZa];have:=Zqh h.few h.posts FU 0 (Zfg s) (Vbb _) (by have:=Wk;have:=h.few;omega) (by unfold Zfg;rw[Wi];omega);exact this
theorem Zi9 {s:Za} (h:ScrN s):Zdd s=some (Zc9 (Zfg s) s.posts):=by
 have ⟨z1,z2⟩:=Zq1 h;unfold Zdd;rw[Zna (by rw[Yk];simp) h.waits h.wn,ZZa,Zna (by rw[Yk];simp) h.says h.sn,ZZa,Zw,Zw,Qu (by omega),ZZa];have:=Zqe h.few h.posts FU 0 (Zfg s) (Vbb _) (by have:=Wk;have:=h.few;omega) (by unfold Zfg;rw[Wi];omega);exact this
def Yl (c:UInt8):List UInt8->List (List UInt8)
 | []=>[[]]
 | x::l=>if x=c then []::Yl c l else match Yl c l with
  | []=>[[x]]
  | w::r=>(x::w)::r
theorem Zon (c:UInt8) (l:List UInt8):Yl c l≠[]:=by
 cases l with
 | nil=>simp[Yl]
 | cons x l=>
  unfold Yl;split
  .simp
  .split<;>simp
theorem Zls {c:UInt8}:∀{w:List UInt8},(∀x∈w,x≠c)->∀l,Yl c (w++c::l)=w::Yl c l:=by
 intro w
 induction w with
 | nil=>intro _ l;simp[Yl]
 | cons x w ih=>
  intro h l;rw[Vbz,Yl,ZZi (h x Vaa),ih (λy hy=>h y (Vac _ hy)) l]
theorem Zqx {c:UInt8}:∀{w:List UInt8},(∀x∈w,x≠c)->Yl c w=[w]:=by
 intro w
 induction w with
 | nil=>intro _;rfl
 | cons x w ih=>
  intro h;rw[Yl,ZZi (h x Vaa),ih (λy hy=>h y (Vac _ hy))]
theorem Zkm {c:UInt8}:∀{ws:List (List UInt8)},ws≠[]->(∀w∈ws,∀x∈w,x≠c)->Yl c (Lib.join ws [c])=ws:=by
 intro ws
 induction ws with
 | nil=>intro h;exact absurd rfl h
 | cons w r ih=>
  intro _ h;have hw:=h w Vaa;cases r with
  | nil=>rw[Lib.join_one,Zqx hw]
  | cons v r=>
   have e:Lib.join (w::v::r) [c]=w++c::Lib.join (v::r) [c]:=by
    rw[Lib.join_cons,Lib.join_cons];simp[Lib.joinTail]
   rw[e,Zls hw,ih (by simp) λu hu=>h u (Vac _ hu)]
theorem Z5w (c:UInt8):∀l:List UInt8,(Yl c l).length<=l.length+1:=by
 intro l
 induction l with
 | nil=>simp[Yl]
 | cons x l ih=>
  unfold Yl;split
  .simp;omega
  .split
   .simp
   .rename_i w r h
    rw[h] at ih;simp at ih ⊢;omega
theorem Z3u {c:UInt8}:∀{l w:List UInt8},w∈Yl c l->w.length<=l.length:=by
 intro l
 induction l with
 | nil=>intro w h;simp[Yl] at h;simp[h]
 | cons x l ih=>
  intro w h;unfold Yl at h;split at h
  .rcases Vap.1 h with rfl|h
   .simp
   .have:=ih h;simp;omega
  .split at h
   .rename_i hs;exact absurd hs (Zon c l)
   .rename_i v r hs
    rcases Vap.1 h with rfl|h
    .have:=ih (w:=v) (by rw[hs];exact Vaa);simp;omega
    .have:=ih (w:=w) (by rw[hs];exact Vac _ h);simp;omega
theorem Z30 (c:UInt8):∀s:List UInt8,Lib.splitK [c] 0 (s.count c) s=Yl c s:=by
 intro s
 induction s with
 | nil=>rfl
 | cons b l ih=>
  by_cases hb:b=c
  .subst hb
   rw[List.count_cons_self,Lib.splitK];have hi:Lib.index (b::l) [b]=0:=by
    unfold Lib.index;rw[ZZj (by simp[List.isPrefixOf])]
   rw[hi,ZZi (by decide),Yl,ZZj rfl];show _::Lib.splitK [b] 0 (l.count b) l=_;rw[ih];rfl
  .have hc:(b::l).count c=l.count c:=List.count_cons_of_ne hb
   have hi:Lib.index (b::l) [c]=if (Lib.index l [c] == -1)=true then -1 else Lib.index l [c]+1:=by
    rw[Lib.index,ZZi (by simp[List.isPrefixOf];exactλh=>hb h.symm)]
   rw[hc,Yl,ZZi hb,<-ih];cases hk:l.count c with
   | zero=>rfl
   | succ k=>
    have Zp:¬(Lib.index l [c] == -1)=true:=λh=>by
     have h0:Lib.count l [c]=0:=Lib.count_miss (beq_iff_eq.1 h);rw[Lib.count_one] at h0;omega
    have hg:=Lib.index_ge l [c];have hne2:Lib.index l [c]≠-1:=λh=>Zp (beq_iff_eq.2 h);rw[ZZi Zp] at hi;rw[Lib.splitK,Lib.splitK,hi,ZZi Zp,ZZi (by rw[beq_iff_eq];omega)];have e1:(Lib.index l [c]+1).toNat=(Lib.index l [c]).toNat+1:=by omega
    rw[e1];rfl
theorem Zfr {x:ByteArray} (c:UInt8) (h:x.size < 4294967281):∃ws,Qe x (Zd [c])=some ws/\ws.map L8=Yl c (L8 x):=by
 unfold Qe;rw[ZZj ⟨h,by rw[Yk];simp⟩];refine⟨_,rfl,?_⟩;have:=Lib.splitB_data (Zd [c]) 0 (Lib.countB x (Zd [c])) x;have e:Lib.countB x (Zd [c])=(L8 x).count c:=Lib.count_one c (L8 x);rw[e] at this ⊢;exact this.trans (Z30 c (L8 x))
theorem Zhy {x:ByteArray} {k:Nat} (h:k < (L8 x).length):atS x (k:Int)=some ((L8 x)[k].toNat:Int):=by
 have h2:k < x.size:=by rw[Z4];exact h
 unfold atS;rw[ZZj (by omega),Vdt];have:x[k]?=some (L8 x)[k]:=by
  rw[getElem?_pos x k h2];rfl
 rw[this];rfl
theorem Zfq {x:ByteArray} {a b:Nat} (h1:a<=b) (h2:b<=(L8 x).length):∃y,Zke x (a:Int) (b:Int)=some y/\L8 y=((L8 x).drop a).take (b - a):=by
 unfold Zke;rw[ZZj ⟨by omega,by omega,by rw[Z4,Vdt];exact h2⟩];exact⟨_,rfl,Lib.extract_data x _ _⟩
theorem Zfz {x:ByteArray} (c:UInt8) (h:x.size < 4294967281):∃ws,Ql x (c.toNat:Int)=some ws/\ws.map L8=Yl c (L8 x):=by
 rw[Z4] at h;have key:∀(m i a:Nat) (out:List ByteArray),i<=(L8 x).length->(L8 x).length - i < m->a<=i->out.length<=a->(∀y∈((L8 x).drop a).take (i - a),y≠c)->
   ∃ws,Zba x (c.toNat:Int) m out (a:Int) (i:Int)=some ws/\ws.map L8=out.map L8++Yl c ((L8 x).drop a):=by
  intro m
  induction m with
  | zero=>intro i a out _ hm;omega
  | succ m ih=>
   intro i a out hi hm ha ho hn;show ∃ws,Zf1 x (c.toNat:Int) (Zba x (c.toNat:Int) m) out (a:Int) (i:Int)=some ws/\_;unfold Zf1;by_cases hc:i < (L8 x).length
   .rw[ZZj (by rw[Z4];simpa using hc),Zhy hc,ZZa]
    have Z8z:(L8 x).drop a=((L8 x).drop a).take (i - a)++(L8 x)[i]::(L8 x).drop (i+1):=by
     have e:=(Vc9 (i - a) ((L8 x).drop a)).symm;rw[List.drop_drop,show a+(i - a)=i by omega,Vbe hc] at e;exact e
    by_cases hx:(L8 x)[i]=c
    .obtain⟨y,hy1,hy2⟩:=Zfq (x:=x) ha hi
     rw[ZZj (by rw[hx];simp),hy1,ZZa,Wz (by simp;omega) (by simp;omega),ZZa,Xr (by omega)];obtain⟨ws,h1,h2⟩:=ih (i+1) (i+1) (out++[y]) (by omega) (by omega) (by omega) (by simp;omega) (by simp);refine⟨ws,h1,?_⟩;rw[hx] at Z8z;rw[h2,Z8z,Zls hn,Vbt,List.append_assoc,Vau,Vbw,hy2];rfl
    .rw[ZZi (by
      rw[ZZl];intro he;exact hx (UInt8.toNat_inj.1 (by omega))),Xr (by omega)]
     refine ih (i+1) a out (by omega) (by omega) (by omega) ho λy hy=>?_;rw[show i+1 - a=(i - a)+1 by omega,List.take_add_one] at hy;rcases Vak.1 hy with hy|hy
     .exact hn y hy
     .rw[Vaw,show a+(i - a)=i by omega,Vab hc] at hy
      simp at hy;rw[hy];exact hx
   .have hil:i=(L8 x).length:=by omega
    obtain⟨y,hy1,hy2⟩:=Zfq (x:=x) (a:=a) (b:=(L8 x).length) (by omega) (Vaf _);rw[ZZi (by rw[Z4];simpa using hc),show ((x.size:Nat):Int)=((L8 x).length:Int) by rw[Z4],hy1,ZZa,Wz (by simp;omega) (by simp;omega),ZZa];refine⟨_,rfl,?_⟩;have ht:((L8 x).drop a).take ((L8 x).length - a)=(L8 x).drop a:=by rw[Va7 (by simp)]
    rw[hil,ht] at hn;rw[Vbt,Vau,Vbw,hy2,ht,Zqx hn]
 obtain⟨ws,h1,h2⟩:=key FU 0 0 [] (Vbb _) (by have:=Wk;omega) (Vaf _) (Vaf _) (by simp);exact⟨ws,h1,by simpa using h2⟩
def W7 (c:UInt8):Prop:=48<=c.toNat/\c.toNat<=57
instance (c:UInt8):Decidable (W7 c):=inferInstanceAs (Decidable (_/\_))
theorem Zhl {d:Nat} (h:d < 10):(UInt8.ofNat (48+d)).toNat=48+d:=by
 rw[UInt8.toNat_ofNat'];omega
theorem Zze:∀(k u:Nat),u < 10^(k+1)->∀c∈Lib.decDigits u,W7 c:=by
 intro k
 induction k with
 | zero=>
  intro u hu c hc;rw[Lib.decDigits,dif_pos (by omega)] at hc;rw[List.mem_singleton] at hc;subst hc;have:=Zhl (d:=u) (by omega);unfold W7;omega
 | succ k ih=>
  intro u hu c hc;rw[Lib.decDigits] at hc;split at hc
  .rw[List.mem_singleton] at hc;subst hc
   have:=Zhl (d:=u) (by omega);unfold W7;omega
  .rcases Vak.1 hc with hc|hc
   .exact ih (u / 10) (by rw[Vc0] at hu;omega) c hc
   .rw[List.mem_singleton] at hc;subst hc
    have:=Zhl (d:=u % 10) (by omega);unfold W7;omega
theorem Zx6 (u:Nat):u < 10^(u+1):=by
 have h1:u < 2^u:=Nat.lt_two_pow_self;have h2:2^u<=10^u:=Nat.pow_le_pow_left (by omega) u;have h3:10^u<=10^(u+1):=Vde (by omega) (by omega);omega
theorem Zcr {u:Nat} {c:UInt8} (h:c∈Lib.decDigits u):W7 c:=Zze u u (Zx6 u) c h
theorem Znl (u:Nat):Lib.decDigits u≠[]:=by
 rw[Lib.decDigits];split<;>simp
theorem Z2k {v:Int} {c:UInt8} (h:c∈Lib.itoa v):c=45\/W7 c:=by
 unfold Lib.itoa at h;split at h
 .rcases Vap.1 h with h|h
  .exact .inl h
  .exact .inr (Zcr h)
 .exact .inr (Zcr h)
theorem Zl7 {v:Int} {c b:UInt8} (h:c∈Lib.itoa v) (hb:b.toNat=32\/b.toNat=58\/b.toNat=10):c≠b:=by
 rintro rfl;rcases Z2k h with rfl|h
 .rcases hb with hb|hb|hb<;>cases hb
 .unfold W7 at h;omega
theorem Z9p (v:Int):Lib.itoa v≠[]:=by
 unfold Lib.itoa;split
 .simp
 .exact Znl _
def dgF (a:Nat) (c:UInt8):Nat:=if W7 c then a*10+(c.toNat - 48) else a
theorem Z0k:∀(k u:Nat),u < 10^(k+1)->(Lib.decDigits u).foldl dgF 0=u:=by
 intro k
 induction k with
 | zero=>
  intro u hu;have e:=Zhl (d:=u) (by omega);rw[Lib.decDigits,dif_pos (by omega)];simp only[Vbo,Vdk,dgF];rw[ZZj (by unfold W7;omega)];omega
 | succ k ih=>
  intro u hu;rw[Lib.decDigits];split
  .have e:=Zhl (d:=u) (by omega)
   simp only[Vbo,Vdk,dgF];rw[ZZj (by unfold W7;omega)];omega
  .have e:=Zhl (d:=u % 10) (by omega)
   rw[Vc4,ih (u / 10) (by rw[Vc0] at hu;omega)];simp only[Vbo,Vdk,dgF];rw[ZZj (by unfold W7;omega)];omega
theorem Zdn (u:Nat):(Lib.decDigits u).foldl dgF 0=u:=Z0k u u (Zx6 u)
theorem Zn1 (v:Int):(Lib.itoa v).foldl dgF 0=v.natAbs:=by
 unfold Lib.itoa;split
 .rw[Vbo]
  show (Lib.decDigits v.natAbs).foldl dgF (if W7 45 then _ else 0)=_;rw[ZZi (by unfold W7;decide),Zdn]
 .rw[Zdn];omega
theorem Z4x:∀(l1 l2:List UInt8) (a:Nat),Lib.parseUint10 a (l1++l2)=match Lib.parseUint10 a l1 with|.ok u=>Lib.parseUint10 u l2|Lib.NumEnd.syntax=>Lib.NumEnd.syntax|.range=>.range:=by
 intro l1
 induction l1 with
 | nil=>intro l2 a;rfl
 | cons c r ih=>
  intro l2 a;simp only[Vbz,Lib.parseUint10];split
  .split
   .rfl
   .split
    .rfl
    .exact ih l2 _
  .rfl
theorem Zyf:∀(k u:Nat),u < 10^(k+1)->u < 18446744073709551616->Lib.parseUint10 0 (Lib.decDigits u)=.ok u:=by
 intro k
 induction k with
 | zero=>
  intro u hu hb;have e:=Zhl (d:=u) (by omega);rw[Lib.decDigits,dif_pos (by omega)];simp only[Lib.parseUint10];rw[ZZj (by omega),ZZi (by omega),ZZi (by omega)]
  congr 1;omega
 | succ k ih=>
  intro u hu hb;rw[Lib.decDigits];split
  .have e:=Zhl (d:=u) (by omega)
   simp only[Lib.parseUint10];rw[ZZj (by omega),ZZi (by omega),ZZi (by omega)]
   congr 1;omega
  .have e:=Zhl (d:=u % 10) (by omega)
   rw[Z4x,ih (u / 10) (by rw[Vc0] at hu;omega) (by omega)];simp only[Lib.parseUint10];rw[ZZj (by omega),ZZi (by omega),ZZi (by omega)]
   congr 1;omega
theorem Z5e {v:Int} (h:InR v):Lib.atoiAll (Lib.itoa v)=.ok v:=by
 obtain⟨h1,h2⟩:=h;have hp:∀u:Nat,u < 18446744073709551616->Lib.parseMag (Lib.decDigits u)=.ok u:=λu hu=>by
  unfold Lib.parseMag;rw[ZZi (Znl u),Zyf u u (Zx6 u) hu]
 unfold Lib.itoa;split
 .rename_i hn
  rw[Lib.atoiAll_minus,hp _ (by omega)];unfold Lib.signed;simp only;rw[ZZi (by omega)]
  congr 1;omega
 .rename_i hn
  obtain⟨c,l,hl⟩:∃c l,Lib.decDigits v.toNat=c::l:=by
   cases h:Lib.decDigits v.toNat with
   | nil=>exact absurd h (Znl _)
   | cons c l=>exact⟨c,l,rfl⟩
  have hd:W7 c:=Zcr (u:=v.toNat) (by rw[hl];exact Vaa);unfold W7 at hd;rw[hl,Lib.atoiAll_plain c l (by omega) (by omega),<-hl,hp _ (by omega)];unfold Lib.signless;simp only;rw[ZZi (by omega)]
  congr 1;omega
theorem Zjb {k u:Nat} (h:u < 10^(k+1)):(Lib.decDigits u).length<=k+1:=Ziu k u h
theorem Zsh {v d:Int} (h:-1000000000000000000 < v/\v < 1000000000000000000) (hd:18<=d):Q5 (Zt v) d=some (v,true):=by
 have hr:InR v:=⟨by omega,by omega⟩;have hz:=K7 hr;unfold Q5;have e:(Zt v).data.toList=Lib.itoa v:=rfl;rw[ZZj (by omega),e,Z5e hr];simp only;rw[ZZj];refine⟨trivial,?_⟩;unfold Lib.trimPrefix;by_cases hn:v < 0
 .have e2:Lib.itoa v=45::Lib.decDigits v.natAbs:=by unfold Lib.itoa;rw[ZZj hn]
  have:=Zjb (k:=17) (u:=v.natAbs) (by omega);rw[e2,ZZj (by simp[Lib.hasPrefix,List.isPrefixOf])];simp;omega
 .have e2:Lib.itoa v=Lib.decDigits v.toNat:=by unfold Lib.itoa;rw[ZZi hn]
  have:=Zjb (k:=17) (u:=v.toNat) (by omega);rw[e2];split
  .simp;omega
  .omega
theorem Zy7 {x:ByteArray} {d:Int} (h:x.size<=281474976710656):∃r,Q5 x d=some r/\(r.2=true->L8 x=Lib.itoa r.1/\InR r.1):=by
 unfold Q5;rw[ZZj h]
 match hq:Lib.atoiAll x.data.toList with
 | .ok v=>
  simp only;by_cases hc:Lib.itoa v=x.data.toList/\((Lib.trimPrefix x.data.toList [45]).length:Int)<=d
  .rw[ZZj hc]
   refine⟨_,rfl,λ_=>⟨hc.1.symm,?_⟩⟩;unfold Lib.atoiAll at hq;split at hq
   .cases hq
   .simp only at hq
    split at hq
    .cases hq
    .cases hq
    .split at hq
     .cases hq
     .rename_i h1
      split at hq
      .cases hq
      .rename_i h2
       injection hq with hq;split at hq
       .rename_i h3
        have:=Vcg λhh=>h2 ⟨h3,hh⟩;exact⟨by show _<=v;omega,by show v<=_;omega⟩
       .rename_i h3
        have:=Vdv λhh=>h1 ⟨h3,hh⟩;exact⟨by show _<=v;omega,by show v<=_;omega⟩
  .rw[ZZi hc];exact⟨_,rfl,λh=>by cases h⟩
 | Lib.NumEnd.syntax=>exact⟨_,rfl,λh=>by cases h⟩
 | .range=>exact⟨_,rfl,λh=>by cases h⟩
theorem dgF_lt:∀(l:List UInt8) (a k:Nat),a < 10^k->l.foldl dgF a < 10^(k+l.length):=by
 intro l
 induction l with
 | nil=>intro a k h;exact h
 | cons c l ih=>
  intro a k h;rw[Vbo,Vad,show k+(l.length+1)=(k+1)+l.length by omega];refine ih _ _ ?_;unfold dgF;rw[Vc0];split
  .rename_i hd;unfold W7 at hd;omega
  .omega
theorem Zf7 {l:List Int} (hl:l.length < 1048600) (h:∀v∈l,-1000000000000000000 < v/\v < 1000000000000000000):J6 (l.map Zt)=some (l,true):=by
 unfold J6;refine Zeh (σ:=List Int) (n:=l.length) (by omega) (λk=>l.take k) (B:=λκ st j=>Qv (l.map Zt) κ st j) (L:=λm st j=>Kl (l.map Zt) m st j) (λm s i=>rfl) (λk hk κ=>?_) λκ=>?_
 .unfold Qv
  rw[ZZj (by simpa using hk),Z1 (by simpa using hk),ZZa,Vdz,Zsh (h _ (Vai hk)) (by omega),ZZa,ZZi (by simp),Wz (by simp;omega) (by simp;omega),ZZa,Vbg hk]
 .unfold Qv
  rw[ZZi (by simp),Vb8]
theorem Q4 {x w:ByteArray} {c:UInt8} {ws:List ByteArray} (h:ws.map L8=Yl c (L8 x)) (hw:w∈ws):w.size<=x.size:=by
 rw[Z4,Z4];refine Z3u (c:=c) ?_;rw[<-h];exact List.mem_map_of_mem hw
theorem Zar {x:ByteArray} {c:UInt8} {ws:List ByteArray} (h:ws.map L8=Yl c (L8 x)):ws.length<=x.size+1/\1<=ws.length:=by
 have h1:=congrArg List.length h;rw[Vcb] at h1;have h2:=Z5w c (L8 x);rw[<-Z4] at h2;have h3:0 < (Yl c (L8 x)).length:=Vbl.2 (Zon c (L8 x));omega
theorem X1 {α:Type} {xs:List α} {a b:Nat} (h1:a<=b) (h2:b<=xs.length):Y6 xs (a:Int) (b:Int)=some ((xs.drop a).take (b - a)):=by
 unfold Y6;rw[ZZj ⟨by omega,by omega,by omega⟩];rfl
def Ws (v:Int):Prop:=-1000000000000000000 < v/\v < 1000000000000000000
theorem Ws.r {v:Int} (h:Ws v):InR v:=⟨by have:=h.1;omega,by have:=h.2;omega⟩
theorem Zis {l:List UInt8} (hl:l.length<=18):l.foldl dgF 0 < 1000000000000000000:=by
 have:=dgF_lt l 0 0 (by simp);have h2:10^(0+l.length)<=10^18:=Vde (by omega) (by omega);omega
def Zi3 (l:List UInt8):Bool:=l.all λc=>decide (W7 c)
theorem Zxz {l:List UInt8} (h:∀c∈l,W7 c):Zi3 l=true:=by
 unfold Zi3;rw[ZZk];exactλc hc=>decide_eq_true (h c hc)
theorem dgW2 {c:UInt8} (h:W7 c) {n:Int} (h0:0<=n) (h1:n < 100000000000000000):Zoy (Zq (Zdh n 10) (w64 (c.toNat:Int))) 48=n*10+((c.toNat - 48:Nat):Int):=by
 unfold W7 at h;have e:w64 (c.toNat:Int)=(c.toNat:Int):=Z57 (by omega) (by omega);have h:48<=(c.toNat:Int)/\(c.toNat:Int)<=57:=by omega
 rw[e,Zfs (by omega) (by omega),Zfy (by omega) (by omega),Zk5 (by omega) (by omega)];omega
theorem Zmy (x0 w:ByteArray) (sg:Int) (hw:(L8 w).length<=18):∀(m i n:Nat),i<=(L8 w).length->(L8 w).length - i < m->n < 10^i->
  Qk x0 m w sg (n:Int) (i:Int)=some (if Zi3 ((L8 w).drop i)=true then Zdh sg (((L8 w).drop i).foldl dgF n:Nat) else 0):=by
 have Yx:=Z4 w;intro m
 induction m with
 | zero=>intro i n _ h;omega
 | succ m ih=>
  intro i n hi hm hn;show Zai x0 (Qk x0 m) w sg (n:Int) (i:Int)=_;unfold Zai;by_cases hc:i < (L8 w).length
  .have hb:10^i<=10^17:=Vde (by omega) (by omega)
   rw[ZZj (decide_eq_true (by omega)),Zhy hc,ZZa,Vbe hc];have bad:∀b:Bool,b=true->¬W7 (L8 w)[i]->Qj x0 (Qk x0 m) w sg (n:Int) (i:Int) b=some (if Zi3 ((L8 w)[i]::(L8 w).drop (i+1))=true then Zdh sg (((L8 w)[i]::(L8 w).drop (i+1)).foldl dgF n:Nat) else 0):=λb hb hd=>by
    unfold Qj;rw[ZZj hb,ZZi (by unfold Zi3;rw[Vbc,decide_eq_false hd];simp)]
   by_cases h1:(L8 w)[i].toNat < 48
   .rw[ZZj (decide_eq_true (by omega))]
    exact bad true rfl (by unfold W7;omega)
   .rw[ZZi (by rw[ZZl];omega)]
    by_cases h2:(L8 w)[i].toNat > 57
    .rw[ZZj (decide_eq_true (by omega))]
     exact bad true rfl (by unfold W7;omega)
    .have hd:W7 (L8 w)[i]:=by unfold W7;omega
     rw[ZZi (by rw[ZZl];omega),show decide ((w.size:Int) > 18)=false from decide_eq_false (by omega)];unfold Qj;rw[ZZi (by simp),Zhy hc,ZZa,dgW2 hd (by omega) (by omega),Xr (by omega)];have e:(n:Int)*10+(((L8 w)[i].toNat - 48:Nat):Int)=((dgF n (L8 w)[i]:Nat):Int):=by
      unfold dgF;rw[ZZj hd];omega
     have Zs:dgF n (L8 w)[i] < 10^(i+1):=by
      unfold dgF;rw[ZZj hd,Vc0];unfold W7 at hd;omega
     rw[e,ih (i+1) _ (by omega) (by omega) Zs]
     congr 1
     have e2:Zi3 ((L8 w)[i]::(L8 w).drop (i+1))=Zi3 ((L8 w).drop (i+1)):=by unfold Zi3;rw[Vbc,decide_eq_true hd,Vck]
     rw[e2,Vbo]
  .rw[ZZi (by rw[ZZl];omega),Vbj (by omega)]
   rfl
theorem Zxx (x0 w:ByteArray) (sg:Int) (hs:sg=1\/sg=-1):∃n,Kv x0 w sg=some n/\Ws n:=by
 unfold Kv;by_cases hl:(L8 w).length<=18
 .have:=Zmy x0 w sg hl FU 0 0 (Vbb _) (by have:=Wk;omega) (by simp)
  refine⟨_,this,?_⟩;have hb:=Zis (l:=(L8 w).drop 0) (by simpa using hl);split
  .rcases hs with rfl|rfl
   .rw[Zfs (by omega) (by omega)];constructor<;>omega
   .rw[Zfs (by omega) (by omega)];constructor<;>omega
  .constructor<;>omega
 .refine⟨0,?_,by constructor<;>omega⟩
  have Yx:=Z4 w;show Zai x0 (Qk x0 18446744073709551615) w sg 0 0=some 0;unfold Zai;rw[ZZj (decide_eq_true (by omega)),show (0:Int)=((0:Nat):Int) from rfl,Zhy (by omega),ZZa];have j:Qj x0 (Qk x0 18446744073709551615) w sg ((0:Nat):Int) ((0:Nat):Int) true=some 0:=rfl;split
  .exact j
  .split
   .exact j
   .rw[show decide ((w.size:Int) > 18)=true from decide_eq_true (by omega)]
    exact j
theorem Zj4 (x:ByteArray):∃n,Zas x=some n/\Ws n:=by
 have Yx:=Z4 x;unfold Zas;have pos:∃n,W4 x false=some n/\Ws n:=by
  unfold W4;rw[ZZi (by simp)];exact Zxx x x 1 (.inl rfl)
 by_cases h0:0 < (L8 x).length
 .rw[ZZj (decide_eq_true (by omega)),show (0:Int)=((0:Nat):Int) from rfl,Zhy h0,ZZa]
  cases hb:decide ((((L8 x)[0].toNat:Nat):Int)=45) with
  | false=>exact pos
  | true=>
   unfold W4;obtain⟨y,e,_⟩:=Zfq (x:=x) (a:=1) (b:=(L8 x).length) (by omega) (Vaf _);rw[ZZj rfl,show ((x.size:Nat):Int)=((L8 x).length:Int) by omega,show (1:Int)=((1:Nat):Int) from rfl,e,ZZa];exact Zxx x y (-1) (.inr rfl)
 .rw[ZZi (by rw[ZZl];omega)]
  exact pos
theorem Znz {v:Int} (h:Ws v):Zas (Zt v)=some v:=by
 obtain⟨h1,h2⟩:=h;have Yx:=Z4 (Zt v);rw[Xa] at Yx;have ha:=Zn1 v;have Zp:0 < (Lib.itoa v).length:=Vbl.2 (Z9p v);unfold Zas;rw[ZZj (decide_eq_true (by omega)),show (0:Int)=((0:Nat):Int) from rfl,Zhy (by rw[Xa];exact Zp),ZZa];by_cases hn:v < 0
 .have e2:Lib.itoa v=45::Lib.decDigits v.natAbs:=by unfold Lib.itoa;rw[ZZj hn]
  have h45:(L8 (Zt v))[0]'(by rw[Xa,e2];simp)=45:=by simp[Xa,e2]
  rw[h45];show W4 (Zt v) true=_;unfold W4;obtain⟨y,e,hy⟩:=Zfq (x:=Zt v) (a:=1) (b:=(Lib.itoa v).length) (by omega) (by rw[Xa];exact Vaf _);have hyd:L8 y=Lib.decDigits v.natAbs:=by
   rw[hy,Xa,e2,Vdf,Vcr,Va7 (by simp)]
  have hl:=Zjb (k:=17) (u:=v.natAbs) (by omega);have e:Zke (Zt v) 1 ((Lib.itoa v).length:Int)=some y:=e;rw[ZZj rfl,show (((Zt v).size:Nat):Int)=((Lib.itoa v).length:Int) by omega,e,ZZa];unfold Kv;have:=Zmy (Zt v) y (-1) (by rw[hyd];omega) FU 0 0 (Vbb _) (by rw[hyd];have:=Wk;omega) (by simp);rw[show ((0:Nat):Int)=0 from rfl] at this;rw[this,Vcr,hyd,ZZj (Zxz λc hc=>Zcr hc),Zdn,Zfs (by omega) (by omega)]
  congr 1;omega
 .have e2:Lib.itoa v=Lib.decDigits v.toNat:=by unfold Lib.itoa;rw[ZZi hn]
  have hl:=Zjb (k:=17) (u:=v.toNat) (by omega);have hd:W7 ((L8 (Zt v))[0]'(by rw[Xa];exact Zp)):=by
   refine Zcr (u:=v.toNat) ?_;rw[<-e2];exact Vai Zp
  rw[show decide ((((L8 (Zt v))[0]'(by rw[Xa];exact Zp)).toNat:Int)=45)=false by unfold W7 at hd;exact decide_eq_false (by omega)];unfold W4;rw[ZZi (by simp)];unfold Kv;have:=Zmy (Zt v) (Zt v) 1 (by rw[Xa,e2];omega) FU 0 0 (Vbb _) (by rw[Xa,e2];have:=Wk;omega) (by simp);rw[show ((0:Nat):Int)=0 from rfl] at this;rw[this,Vcr,Xa,ZZj (Zxz λc hc=>Zcr (u:=v.toNat) (by rw[<-e2];exact hc)),Zn1,Zfs (by omega) (by omega)]
  congr 1;omega
theorem Zm5 {ws:List ByteArray} (hl:ws.length < 1048600):∃r,J5 ws=some r/\r.length=ws.length/\∀v∈r,Ws v:=by
 have key:∀(m k:Nat) (out:List Int),k<=ws.length->ws.length - k < m->out.length=k->(∀v∈out,Ws v)->∃r,Km ws m out (k:Int)=some r/\r.length=ws.length/\∀v∈r,Ws v:=by
  intro m
  induction m with
  | zero=>intro k out _ h;omega
  | succ m ih=>
   intro k out hk hm ho hv;show ∃r,Qz ws (Km ws m) out (k:Int)=some r/\_;unfold Qz;by_cases hc:k < ws.length
   .obtain⟨n,h1,h2⟩:=Zj4 ws[k]
    rw[ZZj (by simpa using hc),Z1 hc,ZZa,h1,ZZa,Wz (by simp;omega) (by simp;omega),ZZa,Xr (by omega)];refine ih (k+1) _ (by omega) (by omega) (by simp;omega) λv hv2=>?_;rcases Vak.1 hv2 with hv2|hv2
    .exact hv v hv2
    .rw[List.mem_singleton.1 hv2];exact h2
   .rw[ZZi (by simpa using hc)]
    exact⟨_,rfl,by omega,hv⟩
 exact key FU 0 [] (Vbb _) (by have:=Wk;omega) rfl (by simp)
theorem Zks {l:List Int} (hl:l.length < 1048600) (h:∀v∈l,Ws v):J5 (l.map Zt)=some l:=by
 unfold J5;refine Zeh (σ:=List Int) (n:=l.length) (by omega) (λk=>l.take k) (B:=λκ st j=>Qz (l.map Zt) κ st j) (L:=λm st j=>Km (l.map Zt) m st j) (λm s i=>rfl) (λk hk κ=>?_) λκ=>?_
 .unfold Qz
  rw[ZZj (by simpa using hk),Z1 (by simpa using hk),ZZa,Vdz,Znz (h _ (Vai hk)),ZZa,Wz (by simp;omega) (by simp;omega),ZZa,Vbg hk]
 .unfold Qz
  rw[ZZi (by simp),Vb8]
theorem Zk8 {x:ByteArray} (h:x.size<=281474976710656):∃r,Q5 x 18=some r/\Ws r.1:=by
 obtain⟨r,h1,_⟩:=Zy7 (d:=18) h;refine⟨r,h1,?_⟩;unfold Q5 at h1;rw[ZZj h] at h1;have z:Ws 0:=by constructor<;>omega
 split at h1
 .rename_i v hv
  split at h1
  .rename_i hc
   injection h1 with h1;rw[<-h1];show Ws v;have hf:=Zn1 v;have hl:=hc.2;rw[<-hc.1] at hl;unfold Lib.trimPrefix at hl;by_cases hn:v < 0
   .have e2:Lib.itoa v=45::Lib.decDigits v.natAbs:=by unfold Lib.itoa;rw[ZZj hn]
    rw[e2,ZZj (by simp[Lib.hasPrefix,List.isPrefixOf])] at hl;have hb:=Zis (l:=Lib.decDigits v.natAbs) (by simp at hl;omega);rw[Zdn] at hb;constructor<;>omega
   .have e2:Lib.itoa v=Lib.decDigits v.toNat:=by unfold Lib.itoa;rw[ZZi hn]
    have hnp:Lib.hasPrefix (Lib.itoa v) [45]=false:=by
     rw[e2];cases hd:Lib.decDigits v.toNat with
     | nil=>rfl
     | cons c l=>
      have:=Zcr (u:=v.toNat) (c:=c) (by rw[hd];exact Vaa);unfold W7 at this;have e:(45:UInt8).toNat=45:=rfl;have Zp:¬(45:UInt8)=c:=by rintro rfl;omega
      simp[Lib.hasPrefix,List.isPrefixOf,Zp]
    rw[ZZi (by rw[hnp];simp),e2] at hl;have hb:=Zis (l:=Lib.decDigits v.toNat) (by omega);rw[Zdn] at hb;constructor<;>omega
  .injection h1 with h1;rw[<-h1];exact z
 .injection h1 with h1;rw[<-h1];exact z
theorem Zez {ws:List ByteArray} (hl:ws.length < 1048600) (hz:∀w∈ws,w.size<=281474976710656):∃r,J6 ws=some r/\(∀v∈r.1,Ws v)/\r.1.length<=ws.length/\(r.2=true->r.1.length=ws.length):=by
 have key:∀(m k:Nat) (out:List Int),k<=ws.length->ws.length - k < m->out.length=k->(∀v∈out,Ws v)->∃r,Kl ws m out (k:Int)=some r/\(∀v∈r.1,Ws v)/\r.1.length<=ws.length/\(r.2=true->r.1.length=ws.length):=by
  intro m
  induction m with
  | zero=>intro k out _ h;omega
  | succ m ih=>
   intro k out hk hm ho hv;show ∃r,Qv ws (Kl ws m) out (k:Int)=some r/\_;unfold Qv;by_cases hc:k < ws.length
   .obtain⟨r,h1,h2⟩:=Zk8 (hz _ (Vai hc))
    rw[ZZj (by simpa using hc),Z1 hc,ZZa,h1,ZZa];by_cases hr:r.2=true
    .rw[ZZi (by simp[hr]),Wz (by simp;omega) (by simp;omega),ZZa,Xr (by omega)]
     refine ih (k+1) _ (by omega) (by omega) (by simp;omega) λv hv2=>?_;rcases Vak.1 hv2 with hv2|hv2
     .exact hv v hv2
     .rw[List.mem_singleton.1 hv2];exact h2
    .rw[ZZj (by simp[hr])]
     exact⟨_,rfl,by simp,by simp,λh=>by cases h⟩
   .rw[ZZi (by simpa using hc)]
    exact⟨_,rfl,hv,by show out.length<=_;omega,λ_=>by show out.length=_;omega⟩
 exact key FU 0 [] (Vbb _) (by have:=Wk;omega) rfl (by simp)
theorem Zoq (xs:List ByteArray) (y:ByteArray) (hl:xs.length < 1000):∃n,Jz xs y=some n:=by
 have key:∀(m k:Nat),k<=xs.length->xs.length - k < m->∃n,Ja xs y m (k:Int)=some n:=by
  intro m
  induction m with
  | zero=>intro k _ h;omega
  | succ m ih=>
   intro k hk hm;show ∃n,Kp xs y (Ja xs y m) (k:Int)=some n;unfold Kp;by_cases hc:k < xs.length
   .rw[ZZj (by simpa using hc),Z1 hc,ZZa,Xr (by omega)]
    split
    .exact⟨_,rfl⟩
    .exact ih (k+1) (by omega) (by omega)
   .rw[ZZi (by simpa using hc)];exact⟨_,rfl⟩
 exact key FU 0 (Vbb _) (by have:=Wk;omega)
theorem Zqv (xs:List ByteArray) (y:ByteArray) (hl:xs.length < 1000):∃n,Ym xs y=some n:=by
 have key:∀(m k:Nat),k<=xs.length->xs.length - k < m->∃n,Yz xs y m (k:Int)=some n:=by
  intro m
  induction m with
  | zero=>intro k _ h;omega
  | succ m ih=>
   intro k hk hm;show ∃n,Yv xs y (Yz xs y m) (k:Int)=some n;unfold Yv;by_cases hc:k < xs.length
   .rw[ZZj (by simpa using hc),Z1 hc,ZZa,Xr (by omega)]
    split
    .exact⟨_,rfl⟩
    .exact ih (k+1) (by omega) (by omega)
   .rw[ZZi (by simpa using hc)];exact⟨_,rfl⟩
 exact key FU 0 (Vbb _) (by have:=Wk;omega)
theorem Zau (xs:List ByteArray) (j:Nat) (hj:j < xs.length) (hl:xs.length < 1000) (hn:∀i (hi:i < j),L8 (xs[i]'(by omega))≠L8 xs[j]):Jz xs xs[j]=some (j:Int):=by
 unfold Jz;refine Zly (n:=j) (by omega) (B:=λκ i=>Kp xs xs[j] κ i) (L:=λm i=>Ja xs xs[j] m i) (λm i=>rfl) (λk hk κ=>?_) λκ=>?_
 .unfold Kp
  rw[ZZj (by simp;omega),Z1 (by omega),ZZa,ZZi (by rw[Kw];simpa using hn k hk)]
 .unfold Kp
  rw[ZZj (by simpa using hj),Z1 hj,ZZa,ZZj (beq_self_eq_true _)]
theorem Za2 (xs:List ByteArray) (j:Nat) (hj:j < xs.length) (hl:xs.length < 1000) (hn:∀i (hi:i < j),L8 (xs[i]'(by omega))≠L8 xs[j]):Ym xs xs[j]=some (j:Int):=by
 unfold Ym;refine Zly (n:=j) (by omega) (B:=λκ i=>Yv xs xs[j] κ i) (L:=λm i=>Yz xs xs[j] m i) (λm i=>rfl) (λk hk κ=>?_) λκ=>?_
 .unfold Yv
  rw[ZZj (by simp;omega),Z1 (by omega),ZZa,ZZi (by rw[Kw];simpa using λh=>hn k hk h.symm)]
 .unfold Yv
  rw[ZZj (by simpa using hj),Z1 hj,ZZa,ZZj (beq_self_eq_true _)]
abbrev W3:List ByteArray:=[Zd [98,121,116,101],Zd [104,97,108,102],Zd [119,111,114,100]]
abbrev Xj:List ByteArray:=[Zd [111,110,101],Zd [102,111,117,114],Zd [119,114,97,112],Zd [101,105,103,104,116]]
theorem Zii {r:Zj} (h:Wq r=true):(r.size=0\/r.size=1\/r.size=2)/\(r.burst=0\/r.burst=1\/r.burst=2\/r.burst=3)/\(0<=r.addr/\r.addr < 512)/\∀v∈r.data_,0<=v/\v < 4294967296:=by
 obtain⟨hb,_,hd⟩:=Zjr h;have hl:=Zvh hb;have h2:r.burst=0\/r.burst=1\/r.burst=2\/r.burst=3:=by
  have:=hl.2;unfold Yr at this
  repeat' split at this
  all_goals omega
 have ha:r.addr∈Wt r.addr r.size r.burst:=by
  have Zp:Wt r.addr r.size r.burst≠[]:=λe=>by rw[e] at hl;simp at hl;omega
  unfold Wt at Zp ⊢;cases hq:Qh r.size r.burst (Yr r.burst).toNat r.addr with
  | none=>rw[hq] at Zp;simp at Zp
  | some l=>
   have:=(Zol hq).2.2 (by omega);simp only[Va0];cases l with
   | nil=>simp at this
   | cons a l=>simp at this;subst this;exact Vaa
 obtain⟨h3,h4⟩:=Zmg ha;have h1:r.size=0\/r.size=1\/r.size=2:=by
  have:=(Za8 h3).1;unfold Xu at this
  repeat' split at this
  all_goals omega
 refine⟨h1,h2,h4,λv hv=>?_⟩;have:=hd v hv;simp only[Ziq,ZZl] at this;have:=Znm r.size;omega
theorem Zvs {r:Zj} (h:Wq r=true):Jz W3 (Jj r.size)=some r.size/\Ym W3 (Jj r.size)=some r.size:=by
 rcases (Zii h).1 with e|e|e<;>rw[e]
 .exact⟨Zau W3 0 (by decide) (by decide) (λi hi=>by omega),Za2 W3 0 (by decide) (by decide) (λi hi=>by omega)⟩
 .have hn:∀i (hi:i < 1),L8 (W3[i]'(by show i < 3;omega))≠L8 (W3[1]'(by decide)):=λi hi=>by
   obtain rfl:i=0:=by omega
   simp[Zw]
  exact⟨Zau W3 1 (by decide) (by decide) hn,Za2 W3 1 (by decide) (by decide) hn⟩
 .have hn:∀i (hi:i < 2),L8 (W3[i]'(by show i < 3;omega))≠L8 (W3[2]'(by decide)):=λi hi=>by
   obtain rfl|rfl:i=0\/i=1:=by omega
   .simp[Zw]
   .simp[Zw]
  exact⟨Zau W3 2 (by decide) (by decide) hn,Za2 W3 2 (by decide) (by decide) hn⟩
theorem Ztw {r:Zj} (h:Wq r=true):Jz Xj (Qq r.burst)=some r.burst/\Ym Xj (Qq r.burst)=some r.burst:=by
 rcases (Zii h).2.1 with e|e|e|e<;>rw[e]
 .exact⟨Zau Xj 0 (by decide) (by decide) (λi hi=>by omega),Za2 Xj 0 (by decide) (by decide) (λi hi=>by omega)⟩
 .have hn:∀i (hi:i < 1),L8 (Xj[i]'(by show i < 4;omega))≠L8 (Xj[1]'(by decide)):=λi hi=>by
   obtain rfl:i=0:=by omega
   simp[Zw]
  exact⟨Zau Xj 1 (by decide) (by decide) hn,Za2 Xj 1 (by decide) (by decide) hn⟩
 .have hn:∀i (hi:i < 2),L8 (Xj[i]'(by show i < 4;omega))≠L8 (Xj[2]'(by decide)):=λi hi=>by
   obtain rfl|rfl:i=0\/i=1:=by omega
   .simp[Zw]
   .simp[Zw]
  exact⟨Zau Xj 2 (by decide) (by decide) hn,Za2 Xj 2 (by decide) (by decide) hn⟩
 .have hn:∀i (hi:i < 3),L8 (Xj[i]'(by show i < 4;omega))≠L8 (Xj[3]'(by decide)):=λi hi=>by
   obtain rfl|rfl|rfl:i=0\/i=1\/i=2:=by omega
   .simp[Zw]
   .simp[Zw]
   .simp[Zw]
  exact⟨Zau Xj 3 (by decide) (by decide) hn,Za2 Xj 3 (by decide) (by decide) hn⟩
def Zdx (r:Zj):List (List UInt8):=[Q3 r.write,L8 (Jj r.size),L8 (Qq r.burst),Lib.itoa r.addr]++((if r.lock=true then [[108,111,99,107]] else [])++r.data_.map Lib.itoa)
theorem Zo1 (r:Zj):X0 r=Lib.join (Zdx r) [32]:=by
 unfold X0 Zdx Zgh Yw;simp only[Vbz,Vcx];rw[Lib.join_cons];unfold Lib.joinTail;cases r.lock<;>simp[Vc7,Vca,Vb4]
theorem Zxp (l:ByteArray) (h:l∈W3\/l∈Xj):∀y∈L8 l,y≠32/\y≠10:=by
 have h:l∈W3++Xj:=Vak.2 h;simp only[W3,Xj,Vbz,Vcx,Vap,Vc8,or_false] at h;rcases h with rfl|rfl|rfl|rfl|rfl|rfl|rfl<;>decide
theorem Z52 (s:Int):Jj s∈W3:=by
                           unfold Jj;repeat' split
                           all_goals simp[W3]
theorem Z29 (s:Int):Qq s∈Xj:=by
                            unfold Qq;repeat' split
                            all_goals simp[Xj]
theorem Z6d (b:Bool):∀y∈Q3 b,y≠32/\y≠10:=by cases b<;>decide
theorem Zv3 {r:Zj}:∀w∈Zdx r,∀y∈w,y≠32/\y≠10:=by
 intro w hw y hy;have hi:∀v:Int,y∈Lib.itoa v->y≠32/\y≠10:=λv h=>⟨Zl7 h (.inl rfl),Zl7 h (.inr (.inr rfl))⟩;unfold Zdx at hw;rcases Vak.1 hw with hw|hw
 .simp only[Vap,Vc8,or_false] at hw
  rcases hw with rfl|rfl|rfl|rfl
  .exact Z6d _ y hy
  .exact Zxp _ (.inl (Z52 _)) y hy
  .exact Zxp _ (.inr (Z29 _)) y hy
  .exact hi _ hy
 .rcases Vak.1 hw with hw|hw
  .split at hw
   .rw[List.mem_singleton.1 hw] at hy
    have:∀y∈([108,111,99,107]:List UInt8),y≠32/\y≠10:=by decide
    exact this y hy
   .simp at hw
  .obtain⟨v,_,rfl⟩:=Va4.1 hw
   exact hi _ hy
theorem Zvk {x:ByteArray} {r:Zj} (h:L8 x=X0 r):Yl 32 (L8 x)=Zdx r:=by
 rw[h,Zo1,Zkm (by simp[Zdx]) λw hw y hy=>(Zv3 w hw y hy).1]
def Ztx (x:ByteArray) (r:Zj):Prop:=Wq r=true/\L8 x=X0 r
def Ze6 (x:ByteArray) (q:Zj×Bool):Prop:=q=(Zj.z0,false)\/(q.2=true/\Ztx x q.1)
theorem Zm1 {x:ByteArray} {r:Zj} (hx:L8 x≠[]) (hs:r.sm) (hn:r.nums):∃q,((Zbh r).bind λr1=>if (!(r1.toList == x.toList))=true then some (Zj.z0,false) else some (r,true))=some q/\Ze6 x q/\(Ztx x r->q=(r,true)):=by
 rw[Zoh hs hn,ZZa];by_cases h:Wq r=true
 .rw[ZZj h,Kw,Xt (X0 r)]
  by_cases he:X0 r=L8 x
  .rw[ZZi (by simp[he])]
   exact⟨_,rfl,.inr ⟨rfl,h,he.symm⟩,λ_=>rfl⟩
  .rw[ZZj (by simp[he])]
   exact⟨_,rfl,.inl rfl,λhh=>absurd hh.2.symm he⟩
 .rw[ZZi h,Kw,Zay,decide_eq_false (λe=>hx e.symm),ZZj (by simp)]
  exact⟨_,rfl,.inl rfl,λhh=>absurd hh.1 h⟩
theorem Znc {x:ByteArray} {r:Zj} (hs:r.sm) (hn:r.nums):∃q,((Zeg r).bind λr2=>if (!r2)=true then some (Zj.z0,false) else ((Zbi r).bind λr3=>if (!(r3.toList == x.toList))=true then some (Zj.z0,false) else some (r,true)))=some q/\Ze6 x q/\(Ztx x r->q=(r,true)):=by
 rw[Zs2 r hs,Znq hs hn,ZZa,ZZa];by_cases h:Wq r=true
 .rw[ZZi (by simp[h]),ZZj h,Kw,Xt (X0 r)]
  by_cases he:X0 r=L8 x
  .rw[ZZi (by simp[he])]
   exact⟨_,rfl,.inr ⟨rfl,h,he.symm⟩,λ_=>rfl⟩
  .rw[ZZj (by simp[he])]
   exact⟨_,rfl,.inl rfl,λhh=>absurd hh.2.symm he⟩
 .rw[ZZj (by simp[h])]
  exact⟨_,rfl,.inl rfl,λhh=>absurd hh.1 h⟩
theorem Zlg {x:ByteArray} (hx:L8 x≠[]) {ws:List ByteArray} (hw:ws.length < 1048577) {r:Zj} (hr:InR r.addr) (hd:r.data_=[]):∃q,Xx x FU r ws 0=some q/\Ze6 x q:=by
 have key:∀(m k:Nat) (d:List Int),k<=ws.length->ws.length - k < m->d.length=k->(∀v∈d,InR v)->∃q,Xx x m {r with data_:=d} ws (k:Int)=some q/\Ze6 x q:=by
  intro m
  induction m with
  | zero=>intro k d _ h;omega
  | succ m ih=>
   intro k d hk hm ho hv;show ∃q,X3 x (Xx x m) {r with data_:=d} ws (k:Int)=some q/\_;unfold X3;by_cases hc:k < ws.length
   .obtain⟨n,h1,h2⟩:=Zj4 ws[k]
    rw[ZZj (by simpa using hc),Z1 hc,ZZa,h1,ZZa,Wz (by simp;omega) (by simp;omega),ZZa,Xr (by omega)];refine ih (k+1) _ (by omega) (by omega) (by simp;omega) λv hv2=>?_;rcases Vak.1 hv2 with hv2|hv2
    .exact hv v hv2
    .rw[List.mem_singleton.1 hv2];exact h2.r
   .rw[ZZi (by simpa using hc)]
    obtain⟨q,e1,e2,_⟩:=Zm1 (x:=x) (r:={r with data_:=d}) hx (by unfold Zj.sm;show d.length < _;omega) ⟨hr,hv⟩;exact⟨q,e1,e2⟩
 have:=key FU 0 [] (Vbb _) (by have:=Wk;omega) rfl (by simp);have e:({r with data_:=[]}:Zj)=r:=by cases r;simp at hd;simp[hd]
 rw[e] at this;exact this
theorem Zlc {x:ByteArray} {c:UInt8} {ws:List ByteArray} (h:ws.map L8=Yl c (L8 x)) (h2:2<=ws.length):L8 x≠[]:=λe=>by
 rw[e] at h;have:=congrArg List.length h;simp[Yl] at this;omega
theorem Zsq {x:ByteArray} (hx:x.size<=1048576):∃q,Zbf x=some q/\Ze6 x q:=by
 obtain⟨ws,h1,h2⟩:=Zfz (x:=x) 32 (by omega);have h1:Ql x 32=some ws:=h1;have Z3:=Zar h2;unfold Zbf;rw[h1,ZZa];by_cases hl:ws.length < 4
 .rw[ZZj (by simp;omega)]
  exact⟨_,rfl,.inl rfl⟩
 .have Zp:=Zlc h2 (by omega)
  obtain⟨q3,e3⟩:=Zoq W3 ws[1] (by decide);obtain⟨q4,e4⟩:=Zoq Xj ws[2] (by decide);obtain⟨q5,e5,b5⟩:=Zj4 ws[3];have i0:idx ws 0=some ws[0]:=Z1 (k:=0) (by omega);have i1:idx ws 1=some ws[1]:=Z1 (k:=1) (by omega);have i2:idx ws 2=some ws[2]:=Z1 (k:=2) (by omega);have i3:idx ws 3=some ws[3]:=Z1 (k:=3) (by omega);have s4:Y6 ws 4 (ws.length:Int)=some ((ws.drop 4).take (ws.length - 4)):=X1 (a:=4) (by omega) (Vaf _);rw[ZZi (by simp;omega),i0,ZZa,i1,ZZa,e3,ZZa,i2,ZZa,e4,ZZa,i3,ZZa,e5,ZZa,s4,ZZa];generalize hv:(ws.drop 4).take (ws.length - 4)=vs;have hvl:vs.length < 1048577:=by rw[<-hv];simp;omega
  have j2:∀(b:Bool),(b=true->1<=vs.length)->∃q,Wy x (Zj.mk (ws[0].toList == (Zd [119,114,105,116,101]).toList) q5 q3 q4 false []) vs b=some q/\Ze6 x q:=λb hb=>by
   unfold Wy Kr;split
   .rename_i hbt
    have s1:Y6 vs 1 (vs.length:Int)=some ((vs.drop 1).take (vs.length - 1)):=X1 (a:=1) (hb hbt) (Vaf _);rw[s1,ZZa];exact Zlg Zp (by simp;omega) (by exact b5.r) rfl
   .exact Zlg Zp hvl (by exact b5.r) rfl
  by_cases h0:0 < vs.length
  .have i0:idx vs 0=some vs[0]:=Z1 (k:=0) h0
   rw[ZZj (by simpa using h0),i0,ZZa];exact j2 _ λ_=>h0
  .rw[ZZi (by simpa using h0)]
   exact j2 false λh=>by cases h
theorem Zs5 {x:ByteArray} (hx:x.size<=1048576):∃q,Zbe x=some q/\Ze6 x q:=by
 obtain⟨ws,h1,h2⟩:=Zfr (x:=x) 32 (by omega);have Z3:=Zar h2;have hz:∀w∈ws,w.size<=281474976710656:=λw hw=>by have:=Q4 h2 hw;omega
 unfold Zbe;rw[h1,ZZa];by_cases hl:ws.length < 4
 .rw[ZZj (by simp;omega)]
  exact⟨_,rfl,.inl rfl⟩
 .obtain⟨q3,e3⟩:=Zqv W3 ws[1] (by decide)
  obtain⟨q4,e4⟩:=Zqv Xj ws[2] (by decide);have i0:idx ws 0=some ws[0]:=Z1 (k:=0) (by omega);have i1:idx ws 1=some ws[1]:=Z1 (k:=1) (by omega);have i2:idx ws 2=some ws[2]:=Z1 (k:=2) (by omega);have i3:idx ws 3=some ws[3]:=Z1 (k:=3) (by omega);have s4:Y6 ws 4 (ws.length:Int)=some ((ws.drop 4).take (ws.length - 4)):=X1 (a:=4) (by omega) (Vaf _);have f1:Jl=some W3:=rfl;have f2:Jb=some Xj:=rfl;rw[ZZi (by simp;omega),i0,ZZa,f1,ZZa,i1,ZZa,e3,ZZa,f2,ZZa,i2,ZZa,e4,ZZa,s4,ZZa];generalize hv:(ws.drop 4).take (ws.length - 4)=vs;have hvl:vs.length < 1048577:=by rw[<-hv];simp;omega
  have hvz:∀w∈vs,w.size<=281474976710656:=λw hw=>hz w (by rw[<-hv] at hw;exact Va9 (Vba hw));have j2:∀(r:Zj) (us:List ByteArray),us.length < 1048577->(∀w∈us,w.size<=281474976710656)->∃q,Qg x r ws us=some q/\Ze6 x q:=λr us hu huz=>by
   unfold Qg;obtain⟨n,n1,n2⟩:=Zk8 (hz ws[3] (Vai (by omega)));obtain⟨d,d1,d2,d3,d4⟩:=Zez (ws:=us) (by omega) huz;rw[i3,ZZa,n1,ZZa,d1,ZZa];split
   .exact⟨_,rfl,.inl rfl⟩
   .split
    .exact⟨_,rfl,.inl rfl⟩
    .obtain⟨q,e1,e2,_⟩:=Znc (x:=x) (r:={r with addr:=n.1,data_:=d.1}) (by unfold Zj.sm;show d.1.length < _;omega) ⟨n2.r,λv hv=>(d2 v hv).r⟩
     exact⟨q,e1,e2⟩
  have j1:∀(b:Bool) (r:Zj),(b=true->1<=vs.length)->∃q,Wx x r ws vs b=some q/\Ze6 x q:=λb r hb=>by
   unfold Wx;split
   .rename_i hbt
    have s1:Y6 vs 1 (vs.length:Int)=some ((vs.drop 1).take (vs.length - 1)):=X1 (a:=1) (hb hbt) (Vaf _);rw[s1,ZZa];exact j2 _ _ (by simp;omega) λw hw=>hvz w (Va9 (Vba hw))
   .exact j2 _ _ hvl hvz
  by_cases h0:0 < vs.length
  .have i0:idx vs 0=some vs[0]:=Z1 (k:=0) h0
   rw[ZZj (by simpa using h0),i0,ZZa];exact j1 _ _ λ_=>h0
  .rw[ZZi (by simpa using h0)]
   exact j1 false _ λh=>by cases h
theorem Zop {ws:List ByteArray} {r:Zj} (h:ws.map L8=Zdx r):ws=[Zd (Q3 r.write),Jj r.size,Qq r.burst,Zt r.addr]++((if r.lock=true then [Zd [108,111,99,107]] else [])++r.data_.map Zt):=by
 have inj:∀{a b:List ByteArray},a.map L8=b.map L8->a=b:=by
  intro a
  induction a with
  | nil=>intro b h;cases b with
   | nil=>rfl
   | cons y b=>simp at h
  | cons x a ih=>intro b h;cases b with
   | nil=>simp at h
   | cons y b=>
    simp only[Vau,Vcd] at h ⊢;exact⟨Kh h.1,ih h.2⟩
 refine inj (h.trans ?_);unfold Zdx;cases r.lock<;>simp[Zw,Xa,Vca,Vb4]
theorem Ztg {d:List Int} (h:d≠[]):∃a l,d.map Zt=Zt a::l/\L8 (Zt a)≠[108,111,99,107]:=by
 cases d with
 | nil=>exact absurd rfl h
 | cons a l=>
  refine⟨a,l.map Zt,rfl,λe=>?_⟩;rw[Xa] at e;have:=Z2k (v:=a) (c:=108) (by rw[e];exact Vaa);rcases this with h|h
  .cases h
  .unfold W7 at h
   have e:(108:UInt8).toNat=108:=rfl;omega
theorem Zyz (b:Bool):((Zd (Q3 b)).toList == (Zd [119,114,105,116,101]).toList)=b:=by
 rw[Kw,Zw,Zw];cases b<;>rfl
theorem Zsn {x:ByteArray} {r:Zj} (h:Ztx x r) (hx:x.size<=1048576):Zbf x=some (r,true):=by
 obtain⟨hg,ht⟩:=h;obtain⟨ws,h1,h2⟩:=Zfz (x:=x) 32 (by omega);have h1:Ql x 32=some ws:=h1;rw[Zvk ht] at h2;have hws:=Zop h2;obtain⟨v1,v2,v3,v4⟩:=Zii hg;have Zvb:=Zhw hg;have Zp:L8 x≠[]:=by rw[ht];exact Z2p r
 have Z4u:r.nums:=⟨⟨by omega,by omega⟩,λv hv=>by have:=v4 v hv;exact⟨by omega,by omega⟩⟩;have loop:∀us:List ByteArray,us=r.data_.map Zt->Xx x FU {r with data_:=[]} us 0=some (r,true):=λus hu=>by
  subst hu;refine Zeh (σ:=Zj) (n:=r.data_.length) (by omega) (λk=>({r with data_:=r.data_.take k}:Zj)) (B:=λκ st j=>X3 x (λa _ c=>κ a c) st (r.data_.map Zt) j) (L:=λm st j=>Xx x m st (r.data_.map Zt) j) (λm s i=>?_) (λk hk κ=>?_) λκ=>?_
  .show X3 x (Xx x m) s (r.data_.map Zt) i=X3 x (λa _ c=>Xx x m a (r.data_.map Zt) c) s (r.data_.map Zt) i
   unfold X3;rfl
  .unfold X3
   have hb:=v4 _ (Vai hk);rw[ZZj (by simpa using hk),Z1 (by simpa using hk),ZZa,Vdz,Znz ⟨by omega,by omega⟩,ZZa,Wz (by simp;omega) (by simp;omega),ZZa,Vbg hk]
  .unfold X3
   have e:({r with data_:=r.data_.take r.data_.length}:Zj)=r:=by rw[Vb8]
   rw[ZZi (by simp),e];obtain⟨q,e1,_,e3⟩:=Zm1 (x:=x) (r:=r) Zp (Ztf hg) Z4u;rw[e1,e3 ⟨hg,ht⟩]
 have s4:Y6 ws 4 (ws.length:Int)=some ((ws.drop 4).take (ws.length - 4)):=X1 (a:=4) (by rw[hws];simp) (Vaf _);have hd:(ws.drop 4).take (ws.length - 4)=(if r.lock=true then [Zd [108,111,99,107]] else [])++r.data_.map Zt:=by
  rw[Va7 (by simp),hws];rfl
 rw[hd] at s4;have i0:idx ws 0=some (Zd (Q3 r.write)):=by rw[hws];rfl
 have i1:idx ws 1=some (Jj r.size):=by rw[hws];rfl
 have i2:idx ws 2=some (Qq r.burst):=by rw[hws];rfl
 have i3:idx ws 3=some (Zt r.addr):=by rw[hws];rfl
 have f1:=(Zvs hg).1;have f2:=(Ztw hg).1;unfold Zbf;rw[h1,ZZa,ZZi (by rw[hws];simp;omega),i0,ZZa,i1,ZZa,f1,ZZa,i2,ZZa,f2,ZZa,i3,ZZa,Znz ⟨by omega,by omega⟩,ZZa,s4,ZZa,Zyz];cases hk:r.lock with
 | true=>
  have e:({Zj.mk r.write r.addr r.size r.burst false [] with lock:=true}:Zj)={r with data_:=[]}:=by cases r;simp at hk;simp[hk]
  have j0:idx ((if true=true then [Zd [108,111,99,107]] else [])++r.data_.map Zt) 0=some (Zd [108,111,99,107]):=rfl;have js:Y6 ((if true=true then [Zd [108,111,99,107]] else [])++r.data_.map Zt) 1 (((if true=true then [Zd [108,111,99,107]] else [])++r.data_.map Zt).length:Int)=some (r.data_.map Zt):=by
   have:=X1 (xs:=(if true=true then [Zd [108,111,99,107]] else [])++r.data_.map Zt) (a:=1) (b:=((if true=true then [Zd [108,111,99,107]] else [])++r.data_.map Zt).length) (by simp) (Vaf _);refine this.trans (congrArg some ?_);rw[Va7 (by simp)];rfl
  rw[ZZj (by simp),j0,ZZa,show ((Zd [108,111,99,107]).toList == (Zd [108,111,99,107]).toList)=true from beq_self_eq_true _];unfold Wy Kr;rw[ZZj rfl,js,ZZa,e];exact loop _ rfl
 | false=>
  have e:(Zj.mk r.write r.addr r.size r.burst false []:Zj)={r with data_:=[]}:=by cases r;simp at hk;simp[hk]
  rw[ZZi (show ¬false=true by simp),Vcx,e];have fin:Wy x {r with data_:=[]} (r.data_.map Zt) false=some (r,true):=by
   unfold Wy Kr;rw[ZZi (by simp)];exact loop _ rfl
  by_cases h0:r.data_=[]
  .rw[ZZi (by rw[h0];simp)]
   exact fin
  .obtain⟨a,l,e1,e2⟩:=Ztg h0
   have j0:idx (r.data_.map Zt) 0=some (Zt a):=by rw[e1];rfl
   rw[ZZj (by have:=Vbl.2 h0;simp;omega),j0,ZZa,show ((Zt a).toList == (Zd [108,111,99,107]).toList)=false by rw[Kw,Zw];exact decide_eq_false e2];exact fin
theorem Ztq {x:ByteArray} {r:Zj} (h:Ztx x r) (hx:x.size<=1048576):Zbe x=some (r,true):=by
 obtain⟨hg,ht⟩:=h;obtain⟨ws,h1,h2⟩:=Zfr (x:=x) 32 (by omega);rw[Zvk ht] at h2;have hws:=Zop h2;obtain⟨v1,v2,v3,v4⟩:=Zii hg;have Zvb:=Zhw hg;have Z4u:r.nums:=⟨⟨by omega,by omega⟩,λv hv=>by have:=v4 v hv;exact⟨by omega,by omega⟩⟩;have i3:idx ws 3=some (Zt r.addr):=by rw[hws];rfl
 have j2:∀r0:Zj,r0.write=r.write->r0.size=r.size->r0.burst=r.burst->r0.lock=r.lock->Qg x r0 ws (r.data_.map Zt)=some (r,true):=λr0 e1 e2 e3 e4=>by
  unfold Qg;have e:({r0 with addr:=r.addr,data_:=r.data_}:Zj)=r:=by cases r0;cases r;simp at e1 e2 e3 e4;simp[e1,e2,e3,e4]
  rw[i3,ZZa,Zsh ⟨by omega,by omega⟩ (by omega),ZZa,Zf7 (by omega) (λv hv=>by have:=v4 v hv;omega),ZZa,ZZi (by simp),ZZi (by simp),e];obtain⟨q,q1,_,q3⟩:=Znc (x:=x) (r:=r) (Ztf hg) Z4u;rw[q1,q3 ⟨hg,ht⟩]
 have s4:Y6 ws 4 (ws.length:Int)=some ((ws.drop 4).take (ws.length - 4)):=X1 (a:=4) (by rw[hws];simp) (Vaf _);have hd:(ws.drop 4).take (ws.length - 4)=(if r.lock=true then [Zd [108,111,99,107]] else [])++r.data_.map Zt:=by
  rw[Va7 (by simp),hws];rfl
 rw[hd] at s4;have i0:idx ws 0=some (Zd (Q3 r.write)):=by rw[hws];rfl
 have i1:idx ws 1=some (Jj r.size):=by rw[hws];rfl
 have i2:idx ws 2=some (Qq r.burst):=by rw[hws];rfl
 have f1:=(Zvs hg).2;have f2:=(Ztw hg).2;have g1:Jl=some W3:=rfl;have g2:Jb=some Xj:=rfl;unfold Zbe;rw[h1,ZZa,ZZi (by rw[hws];simp;omega),i0,ZZa,g1,ZZa,i1,ZZa,f1,ZZa,g2,ZZa,i2,ZZa,f2,ZZa,s4,ZZa,Zyz];cases hk:r.lock with
 | true=>
  have j0:idx ((if true=true then [Zd [108,111,99,107]] else [])++r.data_.map Zt) 0=some (Zd [108,111,99,107]):=rfl;have js:Y6 ((if true=true then [Zd [108,111,99,107]] else [])++r.data_.map Zt) 1 (((if true=true then [Zd [108,111,99,107]] else [])++r.data_.map Zt).length:Int)=some (r.data_.map Zt):=by
   have:=X1 (xs:=(if true=true then [Zd [108,111,99,107]] else [])++r.data_.map Zt) (a:=1) (b:=((if true=true then [Zd [108,111,99,107]] else [])++r.data_.map Zt).length) (by simp) (Vaf _);refine this.trans (congrArg some ?_);rw[Va7 (by simp)];rfl
  rw[ZZj (by simp),j0,ZZa,show ((Zd [108,111,99,107]).toList == (Zd [108,111,99,107]).toList)=true from beq_self_eq_true _];unfold Wx;rw[ZZj rfl,js,ZZa];exact j2 _ rfl rfl rfl hk.symm
 | false=>
  rw[ZZi (show ¬false=true by simp),Vcx];have fin:Wx x (Zj.mk r.write 0 r.size r.burst false []) ws (r.data_.map Zt) false=some (r,true):=by
   unfold Wx;rw[ZZi (by simp)];exact j2 _ rfl rfl rfl hk.symm
  by_cases h0:r.data_=[]
  .rw[ZZi (by rw[h0];simp)]
   exact fin
  .obtain⟨a,l,e1,e2⟩:=Ztg h0
   have j0:idx (r.data_.map Zt) 0=some (Zt a):=by rw[e1];rfl
   rw[ZZj (by have:=Vbl.2 h0;simp;omega),j0,ZZa,show ((Zt a).toList == (Zd [108,111,99,107]).toList)=false by rw[Kw,Zw];exact decide_eq_false e2];exact fin
inductive Yb where
 | w (l:List Int)
 | s (l:List Int)
 | p (q:Zf)
 | e
def Yb.words:Yb->List (List UInt8)
 | .w l=>[119,97,105,116,115]::l.map Lib.itoa
 | .s l=>[115,97,121,115]::l.map Lib.itoa
 | .p q=>[112,111,115,116]::Lib.itoa q.at_::Lib.itoa q.who::Zdx q.req
 | .e=>[[]]
def Yb.line (i:Yb):List UInt8:=Lib.join i.words [32]
def Yb.ok:Yb->Prop
 | .w l=>l.length < 1048577/\∀v∈l,Ws v
 | .s l=>l.length < 1048577/\∀v∈l,Ws v
 | .p q=>Ws q.at_/\Ws q.who/\Wq q.req=true
 | .e=>True
def Yb.app (z:Za):Yb->Za
 | .w l=>{z with waits:=l}
 | .s l=>{z with says:=l}
 | .p q=>{z with posts:=z.posts++[q]}
 | .e=>z
theorem Zvq (i:Yb):∀w∈i.words,∀y∈w,y≠32/\y≠10:=by
 have hi:∀(v:Int) (y:UInt8),y∈Lib.itoa v->y≠32/\y≠10:=λv y h=>⟨Zl7 h (.inl rfl),Zl7 h (.inr (.inr rfl))⟩;have h1:∀y∈([119,97,105,116,115]:List UInt8),y≠32/\y≠10:=by decide
 have h2:∀y∈([115,97,121,115]:List UInt8),y≠32/\y≠10:=by decide
 have h3:∀y∈([112,111,115,116]:List UInt8),y≠32/\y≠10:=by decide
 intro w hw y hy;cases i with
 | w l=>
  rcases Vap.1 hw with rfl|hw
  .exact h1 y hy
  .obtain⟨v,_,rfl⟩:=Va4.1 hw;exact hi v y hy
 | s l=>
  rcases Vap.1 hw with rfl|hw
  .exact h2 y hy
  .obtain⟨v,_,rfl⟩:=Va4.1 hw;exact hi v y hy
 | p q=>
  rcases Vap.1 hw with rfl|hw
  .exact h3 y hy
  .rcases Vap.1 hw with rfl|hw
   .exact hi _ y hy
   .rcases Vap.1 hw with rfl|hw
    .exact hi _ y hy
    .exact Zv3 w hw y hy
 | e=>simp[Yb.words] at hw;subst hw;simp at hy
theorem Z7f (i:Yb):i.words≠[]:=by cases i<;>simp[Yb.words]
theorem Ztb (i:Yb):Yl 32 i.line=i.words:=Zkm (Z7f i) λw hw y hy=>(Zvq i w hw y hy).1
theorem Z7s {c:UInt8}:∀{ws:List (List UInt8)},(∀w∈ws,∀y∈w,y≠c)->c≠32->∀y∈Lib.join ws [32],y≠c:=by
 intro ws
 induction ws with
 | nil=>intro _ _ y hy;simp[Lib.join_nil] at hy
 | cons w r ih=>
  intro h hc y hy;rw[Lib.join_cons] at hy;rcases Vak.1 hy with hy|hy
  .exact h w Vaa y hy
  .unfold Lib.joinTail at hy
   obtain⟨u,hu,hy⟩:=Vbs.1 hy;obtain⟨v,hv,rfl⟩:=Va4.1 hu;rcases Vak.1 hy with hy|hy
   .rw[List.mem_singleton.1 hy];exactλe=>hc e.symm
   .exact h v (Vac _ hv) y hy
theorem Z61 (i:Yb):∀y∈i.line,y≠10:=Z7s (λw hw y hy=>(Zvq i w hw y hy).2) (by decide)
theorem Zv4 (w:List UInt8) (l:List Int):Lib.join (w::l.map Lib.itoa) [32]=w++Yw l:=by
 rw[Lib.join_cons];unfold Lib.joinTail Yw;rw[Vca,Vc7];rfl
theorem w_line (l:List Int):(Yb.w l).line=[119,97,105,116,115]++Yw l:=Zv4 _ l
theorem s_line (l:List Int):(Yb.s l).line=[115,97,121,115]++Yw l:=Zv4 _ l
theorem Z41 (q:Zf):(Yb.p q).line=[112,111,115,116,32]++Lib.itoa q.at_++[32]++Lib.itoa q.who++[32]++X0 q.req:=by
 have e:X0 q.req=Lib.join (Zdx q.req) [32]:=Zo1 _;unfold Yb.line Yb.words;rw[e];obtain⟨a,l,h⟩:∃a l,Zdx q.req=a::l:=⟨_,_,rfl⟩;rw[h,Lib.join_cons,Lib.join_cons];simp[Lib.joinTail,h]
def Zrr (z:Za):List UInt8:=L8 (Zfg z)++z.posts.flatMap Zbu
def Zgm (z:Za):List Yb:=(if z.waits=[] then [] else [.w z.waits])++((if z.says=[] then [] else [.s z.says])++z.posts.map .p)
theorem Ztc (z:Za):Zrr z=((Zgm z).map Yb.line).flatMap (·++[10]):=by
 have h1:∀(w:List UInt8) (l:List Int) (i:Yb),i.line=w++Yw l->Zb2 w l=(((if l=[] then [] else [i]):List Yb).map Yb.line).flatMap (·++[10]):=λw l i hi=>by
  unfold Zb2;split
  .rfl
  .simp[hi]
 have h2:∀ps:List Zf,ps.flatMap Zbu=((ps.map Yb.p).map Yb.line).flatMap (·++[10]):=λps=>by
  induction ps with
  | nil=>rfl
  | cons p ps ih=>
   rw[Vbh,ih,Vau,Vau,Vbh,Z41];unfold Zbu;simp
 unfold Zrr Zgm Zfg;rw[Wc,Xt (Zb2 _ z.waits),Xt (Zb2 _ z.says),Vbt,Vbt,Vdj,Vdj,<-h1 _ _ _ (w_line z.waits),<-h1 _ _ _ (s_line z.says),<-h2,List.append_assoc]
theorem Z3h:∀(ps:List Zf) (z:Za),(ps.map Yb.p).foldl Yb.app z={z with posts:=z.posts++ps}:=by
 intro ps
 induction ps with
 | nil=>intro z;simp
 | cons p ps ih=>
  intro z;rw[Vau,Vbo,ih];show ({z with posts:=(z.posts++[p])++ps}:Za)=_;rw[List.append_assoc];rfl
theorem Zmw (z:Za):(Zgm z).foldl Yb.app Za.z0=z:=by
 unfold Zgm;rw[Vc4,Vc4,Z3h];obtain⟨ps,w,s⟩:=z;by_cases hw:w=[]
 .by_cases hs:s=[]
  .simp[hw,hs]
  .simp[hw,hs,Yb.app]
 .by_cases hs:s=[]
  .simp[hw,hs,Yb.app]
  .simp[hw,hs,Yb.app]
structure Zho (x:ByteArray) (z:Za):Prop where
 reqs:∀p∈z.posts,Ws p.at_/\Ws p.who/\Wq p.req=true
 few:z.posts.length < 1048600
 w:z.waits.length < 1048577/\∀v∈z.waits,Ws v
 s:z.says.length < 1048577/\∀v∈z.says,Ws v
 text:L8 x=Zrr z
def Zfc (x:ByteArray) (r:Za×Bool):Prop:=r=(Za.z0,false)\/(r.2=true/\Zho x r.1)
theorem Zxu {x:ByteArray} {z:Za} (h:Zho x z):∀i∈Zgm z,i.ok:=by
 intro i hi;unfold Zgm at hi;rcases Vak.1 hi with hi|hi
 .split at hi
  .simp at hi
  .rw[List.mem_singleton.1 hi];exact h.w
 .rcases Vak.1 hi with hi|hi
  .split at hi
   .simp at hi
   .rw[List.mem_singleton.1 hi];exact h.s
  .obtain⟨p,hp,rfl⟩:=Va4.1 hi;exact h.reqs p hp
theorem Zzg {c:UInt8}:∀{ls:List (List UInt8)},(∀w∈ls,∀y∈w,y≠c)->Yl c (ls.flatMap (·++[c]))=ls++[[]]:=by
 intro ls
 induction ls with
 | nil=>intro _;rfl
 | cons w r ih=>
  intro h;rw[Vbh,List.append_assoc,List.singleton_append,Zls (h w Vaa),ih λu hu=>h u (Vac _ hu)];rfl
theorem Z31 {c:UInt8}:∀{ls:List (List UInt8)},ls≠[]->ls.flatMap (·++[c])=Lib.join ls [c]++[c]:=by
 intro ls
 induction ls with
 | nil=>intro h;exact absurd rfl h
 | cons w r ih=>
  intro _;cases r with
  | nil=>simp[Lib.join_one]
  | cons v r=>
   rw[Vbh,ih (by simp),Lib.join_cons,Lib.join_cons];simp[Lib.joinTail]
theorem Z64 (a:List UInt8) (c:UInt8):Lib.trimSuffix (a++[c]) [c]=a:=by
 unfold Lib.trimSuffix;rw[ZZj (by simp[Lib.hasSuffix,List.isSuffixOf,List.isPrefixOf])];simp
theorem W0 (a:ByteArray) (l:List UInt8) (w:List UInt8) (h:L8 a=l):(a.toList == (Zd w).toList)=decide (l=w):=by rw[Kw,Zw,h]
def Y1:Yb->List ByteArray
 | .w l=>Zd [119,97,105,116,115]::l.map Zt
 | .s l=>Zd [115,97,121,115]::l.map Zt
 | .p q=>Zd [112,111,115,116]::Zt q.at_::Zt q.who::([Zd (Q3 q.req.write),Jj q.req.size,Qq q.req.burst,Zt q.req.addr]++((if q.req.lock=true then [Zd [108,111,99,107]] else [])++q.req.data_.map Zt))
 | .e=>[ByteArray.empty]
theorem Zyh:∀{a b:List ByteArray},a.map L8=b.map L8->a=b:=by
 intro a
 induction a with
 | nil=>intro b h;cases b with
  | nil=>rfl
  | cons y b=>simp at h
 | cons x a ih=>intro b h;cases b with
  | nil=>simp at h
  | cons y b=>
   simp only[Vau,Vcd] at h ⊢;exact⟨Kh h.1,ih h.2⟩
theorem Zyj (l:List Int):(l.map Zt).map L8=l.map Lib.itoa:=by rw[Vca];rfl
theorem Zsu {ws:List ByteArray} {i:Yb} (h:ws.map L8=i.words):ws=Y1 i:=by
 cases i with
 | w l=>exact Zyh (h.trans (by unfold Y1 Yb.words;rw[Vau,Zyj,Zw]))
 | s l=>exact Zyh (h.trans (by unfold Y1 Yb.words;rw[Vau,Zyj,Zw]))
 | p q=>
  unfold Yb.words at h;cases ws with
  | nil=>simp at h
  | cons a ws=>cases ws with
   | nil=>simp at h
   | cons b ws=>cases ws with
    | nil=>simp at h
    | cons c ws=>
     simp only[Vau,Vcd] at h;obtain⟨h1,h2,h3,h4⟩:=h;unfold Y1;rw[Zop h4,Kh (a:=a) (b:=Zd [112,111,115,116]) h1,Kh (a:=b) (b:=Zt q.at_) h2,Kh (a:=c) (b:=Zt q.who) h3]
 | e=>exact Zyh (h.trans rfl)
theorem Z7v (r:Zj):Lib.join (([Zd (Q3 r.write),Jj r.size,Qq r.burst,Zt r.addr]++((if r.lock=true then [Zd [108,111,99,107]] else [])++r.data_.map Zt)).map L8) [32]=X0 r:=by
 rw[Zo1]
 congr 1
 unfold Zdx;cases r.lock<;>simp[Zw,Xa,Vca,Vb4]
theorem Ztv {α:Type} (a:α) (l:List α):Y6 (a::l) 1 ((a::l).length:Int)=some l:=by
 have:=X1 (xs:=a::l) (a:=1) (b:=(a::l).length) (by simp) (Vaf _);refine this.trans (congrArg some ?_);simp
theorem Zni {q:Zf} (h:Ws q.at_/\Ws q.who/\Wq q.req=true):q.nums/\q.req.sm:=by
 obtain⟨_,_,v3,v4⟩:=Zii h.2.2;exact⟨⟨h.1.r,h.2.1.r,⟨⟨by omega,by omega⟩,λv hv=>by have:=v4 v hv;exact⟨by omega,by omega⟩⟩⟩,Ztf h.2.2⟩
theorem i_step {x:ByteArray} {κ:Za->List ByteArray->Int->Int->Option (Za×Bool)} {z:Za} {vs:List ByteArray} {n:Nat} {j:Nat} (hj:j < vs.length) (hn:n=vs.length) {i:Yb} (hi:L8 vs[j]=i.line) (hz:vs[j].size<=1048576) (ok:i.ok) (hp:z.posts.length<=1048600):
  Wa x κ z vs (n:Int) (j:Int)=κ (Yb.app z i) vs (n:Int) (Zq (j:Int) 1):=by
 subst hn;obtain⟨ws,h1,h2⟩:=Zfr (x:=vs[j]) 32 (by omega);rw[hi,Ztb] at h2;have hb:=Zsu h2;unfold Wa;rw[ZZj (by simpa using hj),Z1 hj,ZZa,h1,ZZa,hb];cases i with
 | w l=>
  have e0:idx (Y1 (.w l)) 0=some (Zd [119,97,105,116,115]):=rfl;rw[e0,ZZa,W0 _ _ _ (Zw _),ZZi (by decide)];unfold Xl;rw[ZZi (by simp),e0,ZZa,W0 _ _ _ (Zw _),ZZj (by decide)];unfold Wg Y1;rw[ZZj rfl,Ztv,ZZa,Zf7 (by have:=ok.1;omega) ok.2,ZZa,ZZi (by simp)];show (idx (Y1 (.w l)) 0).bind _=_;rw[e0,ZZa,W0 _ _ _ (Zw _),ZZj (by decide)];rfl
 | s l=>
  have e0:idx (Y1 (.s l)) 0=some (Zd [115,97,121,115]):=rfl;rw[e0,ZZa,W0 _ _ _ (Zw _),ZZi (by decide)];unfold Xl;rw[ZZi (by simp),e0,ZZa,W0 _ _ _ (Zw _),ZZi (by decide),W0 _ _ _ (Zw _),show decide (([115,97,121,115]:List UInt8)=[115,97,121,115])=true by decide];unfold Wg Y1;rw[ZZj rfl,Ztv,ZZa,Zf7 (by have:=ok.1;omega) ok.2,ZZa,ZZi (by simp)];show (idx (Y1 (.s l)) 0).bind _=_;rw[e0,ZZa,W0 _ _ _ (Zw _),ZZi (by decide)];rfl
 | p q=>
  obtain⟨o1,o2,o3⟩:=ok;have e0:idx (Y1 (.p q)) 0=some (Zd [112,111,115,116]):=rfl;rw[e0,ZZa,W0 _ _ _ (Zw _),ZZj (by decide)];have Z3:7<=(Y1 (.p q)).length:=by unfold Y1;simp
  rw[show decide (((Y1 (.p q)).length:Int) > 3)=true from decide_eq_true (by omega)];have s13:Y6 (Y1 (.p q)) 1 3=some ([q.at_,q.who].map Zt):=by
   have:=X1 (xs:=Y1 (.p q)) (a:=1) (b:=3) (by omega) (by omega);exact this
  have s3:Y6 (Y1 (.p q)) 3 ((Y1 (.p q)).length:Int)=some ((Y1 (.p q)).drop 3):=by
   have:=X1 (xs:=Y1 (.p q)) (a:=3) (b:=(Y1 (.p q)).length) (by omega) (Vaf _);refine this.trans (congrArg some ?_);rw[Va7 (by simp)]
  have Zvb:=Zhw o3;have hT:=Zp5 o3 (Zni ⟨o1,o2,o3⟩).1.2.2;have hjn:Lib.join (((Y1 (.p q)).drop 3).map L8) (L8 (Zd [32]))=X0 q.req:=by
   rw[Zw];exact Z7v q.req
  have hjl:((Y1 (.p q)).drop 3).length<=1000000000:=by
   show (([Zd (Q3 q.req.write),Jj q.req.size,Qq q.req.burst,Zt q.req.addr]++((if q.req.lock=true then [Zd [108,111,99,107]] else [])++q.req.data_.map Zt))).length<=_;cases q.req.lock<;>simp<;>omega
  unfold Xl;rw[ZZj rfl,s13,ZZa,Zf7 (by simp) (by
   intro v hv;simp only[Vap,Vc8,or_false] at hv;rcases hv with rfl|rfl
   .exact o1
   .exact o2),ZZa,s3,ZZa,Zlf hjl (by rw[hjn];omega),ZZa,hjn,Ztq (x:=⟨(X0 q.req).toArray⟩) ⟨o3,rfl⟩ (by rw[Z4,Xt (X0 q.req)];omega),ZZa,ZZi (by simp)]
  unfold Ki;have j0:idx [q.at_,q.who] 0=some q.at_:=rfl;have j1:idx [q.at_,q.who] 1=some q.who:=rfl;simp only[Bool.not_true,ZZf,if_false,j0,j1,ZZa];rw[Wz (by simp;omega) (by simp;omega),ZZa];rfl
 | e=>
  have e0:idx (Y1 .e) 0=some ByteArray.empty:=rfl;rw[e0,ZZa,W0 _ [] _ Zay,ZZi (by decide)];unfold Xl;rw[ZZi (by simp),e0,ZZa,W0 _ [] _ Zay,ZZi (by decide),W0 _ [] _ Zay,show decide (([]:List UInt8)=[115,97,121,115])=false by decide];rfl
theorem add3 {a b c:Nat} (h:a+b+c < 1000000000000000000):Zq (Zq (Zq (a:Int) (b:Int)) (c:Int)) 3=((a+b+c+3:Nat):Int):=by
 have e1:Zq (a:Int) (b:Int)=((a+b:Nat):Int):=by rw[Zfy (by omega) (by omega)];omega
 have e2:Zq ((a+b:Nat):Int) (c:Int)=((a+b+c:Nat):Int):=by rw[Zfy (by omega) (by omega)];omega
 rw[e1,e2,Zfy (by omega) (by omega)];omega
theorem s_step {x:ByteArray} {κ:Za->List ByteArray->Int->Option (Za×Bool)} {z:Za} {vs:List ByteArray} {j:Nat} (hj:j < vs.length) {i:Yb} (hi:L8 vs[j]=i.line) (hz:vs[j].size<=1048576) (ok:i.ok) (hp:z.posts.length<=1048600):
  X8 x κ z vs (j:Int)=κ (Yb.app z i) vs (Zq (j:Int) 1):=by
 obtain⟨ws,h1,h2⟩:=Zfz (x:=vs[j]) 32 (by omega);have h1:Ql vs[j] 32=some ws:=h1;rw[hi,Ztb] at h2;have hb:=Zsu h2;unfold X8;rw[ZZj (by simpa using hj),Z1 hj,ZZa,h1,ZZa,hb];cases i with
 | w l=>
  have e0:idx (Y1 (.w l)) 0=some (Zd [119,97,105,116,115]):=rfl;rw[e0,ZZa,W0 _ _ _ (Zw _),ZZj (by decide)];unfold Y1;rw[Ztv,ZZa,Zks (by have:=ok.1;omega) ok.2,ZZa];rfl
 | s l=>
  have e0:idx (Y1 (.s l)) 0=some (Zd [115,97,121,115]):=rfl;rw[e0,ZZa,W0 _ _ _ (Zw _),ZZi (by decide),W0 _ _ _ (Zw _),ZZj (by decide)];unfold Y1;rw[Ztv,ZZa,Zks (by have:=ok.1;omega) ok.2,ZZa];rfl
 | p q=>
  obtain⟨o1,o2,o3⟩:=ok;have e0:idx (Y1 (.p q)) 0=some (Zd [112,111,115,116]):=rfl;have e1:idx (Y1 (.p q)) 1=some (Zt q.at_):=rfl;have e2:idx (Y1 (.p q)) 2=some (Zt q.who):=rfl;have Z3:7<=(Y1 (.p q)).length:=by unfold Y1;simp
  have s13:Y6 (Y1 (.p q)) 1 3=some ([q.at_,q.who].map Zt):=by
   have:=X1 (xs:=Y1 (.p q)) (a:=1) (b:=3) (by omega) (by omega);exact this
  have hT:=Zp5 o3 (Zni ⟨o1,o2,o3⟩).1.2.2;have z1:=K7 o1.r;have z2:=K7 o2.r;rw[e0,ZZa,W0 _ _ _ (Zw _),ZZi (by decide),W0 _ _ _ (Zw _),ZZi (by decide),ZZj (decide_eq_true (by omega)),s13,ZZa,Zks (by simp) (by
   intro v hv;simp only[Vap,Vc8,or_false] at hv;rcases hv with rfl|rfl
   .exact o1
   .exact o2),ZZa,e1,ZZa,e2,ZZa]
  have z0:(Zd [112,111,115,116]).size=4:=Yk _;have hcut:Zq (Zq (Zq ((Zd [112,111,115,116]).size:Int) ((Zt q.at_).size:Int)) ((Zt q.who).size:Int)) 3=((7+(Zt q.at_).size+(Zt q.who).size:Nat):Int):=by
   rw[add3 (by omega)];omega
  have hl8:L8 vs[j]=([112,111,115,116,32]++Lib.itoa q.at_++[32]++Lib.itoa q.who++[32])++X0 q.req:=by rw[hi,Z41]
  have Zee:([112,111,115,116,32]++Lib.itoa q.at_++[32]++Lib.itoa q.who++[32]:List UInt8).length=7+(Zt q.at_).size+(Zt q.who).size:=by
   rw[Z4,Z4,Xa,Xa];simp only[Vas,Vad,Va1];omega
  have Yx:vs[j].size=7+(Zt q.at_).size+(Zt q.who).size+(X0 q.req).length:=by rw[Z4,hl8,Vas,Zee]
  have hmin:minI ((vs[j].size:Nat):Int) (Zq (Zq (Zq ((Zd [112,111,115,116]).size:Int) ((Zt q.at_).size:Int)) ((Zt q.who).size:Int)) 3)=((7+(Zt q.at_).size+(Zt q.who).size:Nat):Int):=by
   rw[hcut];unfold minI;split<;>omega
  obtain⟨y,y1,y2⟩:=Zfq (x:=vs[j]) (a:=7+(Zt q.at_).size+(Zt q.who).size) (b:=vs[j].size) (by omega) (by rw[Z4];exact Vaf _);have hy:L8 y=X0 q.req:=by
   rw[y2,hl8,<-Zee,List.drop_left,Yx,Zee,Va7 (by omega)]
  have j0:idx [q.at_,q.who] 0=some q.at_:=rfl;have j1:idx [q.at_,q.who] 1=some q.who:=rfl;rw[hmin,y1,ZZa,Zsn (x:=y) ⟨o3,hy⟩ (by rw[Z4,hy];omega),ZZa,j0,ZZa,j1,ZZa,Wz (by simp;omega) (by simp;omega),ZZa];rfl
 | e=>
  have e0:idx (Y1 .e) 0=some ByteArray.empty:=rfl;rw[e0,ZZa,W0 _ [] _ Zay,ZZi (by decide),W0 _ [] _ Zay,ZZi (by decide),ZZi (by decide)];rfl
structure Zbs (x:ByteArray) (z:Za) (j:Nat):Prop where
 few:z.posts.length<=j
 posts:∀p∈z.posts,Ws p.at_/\Ws p.who/\(Wq p.req=true\/p.req=Zj.z0)
 w:z.waits.length < 1048577/\∀v∈z.waits,Ws v
 s:z.says.length < 1048577/\∀v∈z.says,Ws v
 ne:z.posts≠[]->L8 x≠[]
theorem Zbs.n {x:ByteArray} {z:Za} {j:Nat} (h:Zbs x z j) (hj:j<=1048577):ScrN z:=by
 refine⟨by have:=h.few;omega,h.w.1,h.s.1,λp hp=>?_,λv hv=>(h.w.2 v hv).r,λv hv=>(h.s.2 v hv).r⟩;obtain⟨a,b,c⟩:=h.posts p hp;rcases c with c|c
 .exact Zni ⟨a,b,c⟩
 .refine⟨⟨a.r,b.r,?_⟩,?_⟩
  .rw[c];exact⟨⟨by decide,by decide⟩,λv hv=>by simp at hv⟩
  .rw[c];show ([]:List Int).length < _;simp
theorem Zp4 {x:ByteArray} {z:Za} {j:Nat} (h:Zbs x z j) (hj:j<=1048577):∃r,(if (!((Zc9 (Zfg z) z.posts).toList == x.toList))=true then some (Za.z0,false) else some (z,true))=some r/\Zfc x r/\(Zho x z->r=(z,true)):=by
 rw[Kw];unfold Zc9;by_cases Xp:z.posts.all (λp=>Wq p.req)=true
 .rw[ZZj Xp,Xt (L8 (Zfg z)++z.posts.flatMap Zbu),show L8 (Zfg z)++z.posts.flatMap Zbu=Zrr z from rfl]
  have hall':∀p∈z.posts,Wq p.req=true:=by simpa using Xp
  by_cases he:Zrr z=L8 x
  .rw[decide_eq_true he,ZZi (by simp)]
   exact⟨_,rfl,.inr ⟨rfl,⟨λp hp=>⟨(h.posts p hp).1,(h.posts p hp).2.1,hall' p hp⟩,by have:=h.few;show z.posts.length < _;omega,h.w,h.s,he.symm⟩⟩,λ_=>rfl⟩
  .rw[decide_eq_false he,ZZj (by simp)]
   exact⟨_,rfl,.inl rfl,λhh=>absurd hh.text.symm he⟩
 .have Zp:z.posts≠[]:=λe=>Xp (by rw[e];rfl)
  have hx:=h.ne Zp;rw[ZZi Xp,Zay,decide_eq_false (λe=>hx e.symm),ZZj (by simp)];exact⟨_,rfl,.inl rfl,λhh=>absurd (by rw[ZZk];exactλp hp=>(hh.reqs p hp).2.2) Xp⟩
theorem Z2b {x:ByteArray} {z:Za} (h:Zho x z):Zbs x z z.posts.length:=by
 refine⟨Vaf _,λp hp=>⟨(h.reqs p hp).1,(h.reqs p hp).2.1,.inl (h.reqs p hp).2.2⟩,h.w,h.s,λZp he=>?_⟩;have:=h.text;rw[he] at this;unfold Zrr at this;cases hp:z.posts with
 | nil=>exact Zp hp
 | cons p ps=>
  rw[hp,Vbh] at this;have:=congrArg List.length this;unfold Zbu at this;simp at this
theorem Zv0 (z:Za) (i:Yb):(Yb.app z i).posts.length<=z.posts.length+1:=by cases i<;>simp[Yb.app]
theorem Zox {vs:List ByteArray} {its:List Yb} (h:vs.map L8=its.map Yb.line) {j:Nat} (hj:j < vs.length):∃hi:j < its.length,L8 vs[j]=its[j].line:=by
 have hl:vs.length=its.length:=by simpa using congrArg List.length h
 refine⟨by omega,?_⟩;have h1:(vs.map L8)[j]?=(its.map Yb.line)[j]?:=by rw[h]
 rw[Vay,Vay,Vab hj,Vab (by omega)] at h1;simpa using h1
theorem Zhc {x:ByteArray} {z:Za} (hz:Zho x z) (hzl:z.posts.length<=1048577) {vs:List ByteArray} {its:List Yb} (h:vs.map L8=its.map Yb.line) (hs:∀v∈vs,v.size<=1048576) (ok:∀i∈its,i.ok) (hl:vs.length<=1048577):∀(m j:Nat) (y:Za),j<=vs.length->vs.length - j < m->y.posts.length<=j->(its.drop j).foldl Yb.app y=z->
  Xk x m y vs (vs.length:Int) (j:Int)=some (z,true):=by
 have hil:vs.length=its.length:=by simpa using congrArg List.length h
 intro m
 induction m with
 | zero=>intro j y _ h;omega
 | succ m ih=>
  intro j y hj hm hy hf;show Wa x (Xk x m) y vs (vs.length:Int) (j:Int)=some (z,true);by_cases hc:j < vs.length
  .obtain⟨hi,hv⟩:=Zox h hc
   rw[i_step hc rfl hv (hs _ (Vai hc)) (ok _ (Vai hi)) (by omega),Xr (by omega)];refine ih (j+1) _ (by omega) (by omega) (by have:=Zv0 y its[j];omega) ?_;rw[Vbe hi,Vbo] at hf;exact hf
  .rw[Vbj (by omega)] at hf
   have hf:y=z:=hf;subst hf;unfold Wa;have Z0j:=Z2b hz;rw[ZZi (by simpa using hc),Zi9 (Z0j.n hzl),ZZa];obtain⟨r,e1,_,e3⟩:=Zp4 Z0j hzl;rw[e1,e3 hz]
theorem Zqg {x:ByteArray} {z:Za} (hz:Zho x z) (hzl:z.posts.length<=1048577) {vs:List ByteArray} {its:List Yb} (h:vs.map L8=its.map Yb.line) (hs:∀v∈vs,v.size<=1048576) (ok:∀i∈its,i.ok) (hl:vs.length<=1048577):∀(m j:Nat) (y:Za),j<=vs.length->vs.length - j < m->y.posts.length<=j->(its.drop j).foldl Yb.app y=z->
  Wf x m y vs (j:Int)=some (z,true):=by
 have hil:vs.length=its.length:=by simpa using congrArg List.length h
 intro m
 induction m with
 | zero=>intro j y _ h;omega
 | succ m ih=>
  intro j y hj hm hy hf;show X8 x (Wf x m) y vs (j:Int)=some (z,true);by_cases hc:j < vs.length
  .obtain⟨hi,hv⟩:=Zox h hc
   rw[s_step hc hv (hs _ (Vai hc)) (ok _ (Vai hi)) (by omega),Xr (by omega)];refine ih (j+1) _ (by omega) (by omega) (by have:=Zv0 y its[j];omega) ?_;rw[Vbe hi,Vbo] at hf;exact hf
  .rw[Vbj (by omega)] at hf
   have hf:y=z:=hf;subst hf;unfold X8;have Z0j:=Z2b hz;rw[ZZi (by simpa using hc),Zjo (Z0j.n hzl),ZZa];obtain⟨r,e1,_,e3⟩:=Zp4 Z0j hzl;rw[e1,e3 hz]
theorem Zup {x:ByteArray} {z:Za} (h:Zho x z) (hx:x.size<=1048576):z.posts.length<=1048576:=by
 have hf:∀ps:List Zf,ps.length<=(ps.flatMap Zbu).length:=λps=>by
  induction ps with
  | nil=>simp
  | cons p ps ih=>
   rw[Vbh,Vas,Vad];have:1<=(Zbu p).length:=by unfold Zbu;simp
   omega
 have h1:=congrArg List.length h.text;rw[<-Z4] at h1;unfold Zrr at h1;rw[Vas] at h1;have:=hf z.posts;omega
theorem Zvd {z:Za}:∀w∈(Zgm z).map Yb.line,∀y∈w,y≠10:=by
 intro w hw y hy;obtain⟨i,_,rfl⟩:=Va4.1 hw;exact Z61 i y hy
theorem Znn {x:ByteArray} {z:Za} (h:Zho x z) (hx:x.size<=1048576):Q0 x=some (z,true):=by
 have Zvb:=Zup h hx;obtain⟨vs,h1,h2⟩:=Zfz (x:=x) 10 (by omega);have h1:Ql x 10=some vs:=h1;have Z3:=Zar h2;have hz:∀v∈vs,v.size<=1048576:=λv hv=>by have:=Q4 h2 hv;omega
 have hm:vs.map L8=(Zgm z++[Yb.e]).map Yb.line:=by
  rw[h2,h.text,Ztc,Zzg Zvd,Vbt];rfl
 unfold Q0;rw[h1,ZZa];refine Zqg h (by omega) hm hz (λi hi=>?_) (by omega) FU 0 Za.z0 (Vbb _) (by have:=Wk;omega) (by simp) ?_
 .rcases Vak.1 hi with hi|hi
  .exact Zxu h i hi
  .rw[List.mem_singleton.1 hi];trivial
 .rw[Vcr,Vc4,Zmw];rfl
theorem Znh {x:ByteArray} {z:Za} (h:Zho x z) (hx:x.size<=1048576):Qy x=some (z,true):=by
 have Zvb:=Zup h hx;have ht:∃y,X4 x (Zd [10])=some y/\L8 y=Lib.trimSuffix (L8 x) [10]:=by
  unfold X4;rw[ZZj (by omega)];exact⟨_,rfl,rfl⟩
 obtain⟨y,t1,t2⟩:=ht;have hy:y.size<=x.size:=by rw[Z4,t2,Z4];exact Lib.trimSuffix_le _ _
 obtain⟨vs,h1,h2⟩:=Zfr (x:=y) 10 (by omega);have Z3:=Zar h2;have hz:∀v∈vs,v.size<=1048576:=λv hv=>by have:=Q4 h2 hv;omega
 unfold Qy;rw[t1,ZZa,h1,ZZa];rw[h.text,Ztc] at t2;by_cases he:Zgm z=[]
 .have hm:vs.map L8=[Yb.e].map Yb.line:=by
   rw[h2,t2,he];rfl
  refine Zhc h (by omega) hm hz (λi hi=>by rw[List.mem_singleton.1 hi];trivial) (by omega) FU 0 Za.z0 (Vbb _) (by have:=Wk;omega) (by simp) ?_;have:=Zmw z;rw[he] at this;exact this
 .have hm:vs.map L8=(Zgm z).map Yb.line:=by
   rw[h2,t2,Z31 (by simpa using he),Z64,Zkm (by simpa using he) Zvd]
  refine Zhc h (by omega) hm hz (Zxu h) (by omega) FU 0 Za.z0 (Vbb _) (by have:=Wk;omega) (by simp) ?_;rw[Vcr,Zmw]
theorem Zjq (a:List UInt8) (l:List (List UInt8)):Lib.lens (a::l)=a.length+Lib.lens l:=by simp[Lib.lens]
theorem Z1k (c:UInt8):∀l:List UInt8,Lib.lens (Yl c l)+(Yl c l).length=l.length+1:=by
 intro l
 induction l with
 | nil=>rfl
 | cons x l ih=>
  unfold Yl;split
  .rw[Zjq,Vad,Vad];simp;omega
  .split
   .rename_i h;exact absurd h (Zon c l)
   .rename_i w r h
    rw[h,Zjq,Vad] at ih;rw[Zjq,Vad,Vad,Vad];omega
theorem Z5r:∀(k:Nat) (l:List (List UInt8)),Lib.lens (l.drop k)<=Lib.lens l:=by
 intro k
 induction k with
 | zero=>intro l;simp
 | succ k ih=>
  intro l;cases l with
  | nil=>simp
  | cons a l=>rw[Vdf,Zjq];have:=ih l;omega
theorem Z43 {c:UInt8} {l:List UInt8} {k:Nat} (h:k < (Yl c l).length):(Lib.join ((Yl c l).drop k) [32]).length<=l.length:=by
 have h1:=Z1k c l;have h2:=Z5r k (Yl c l);cases hd:(Yl c l).drop k with
 | nil=>
  have:=congrArg List.length hd;simp at this;omega
 | cons a r=>
  have hr:r.length+1=(Yl c l).length - k:=by
   have:=congrArg List.length hd;simp at this;omega
  rw[Lib.join_length];rw[hd] at h2;simp;omega
theorem Zyc {x:ByteArray} {z:Za} {j:Nat} (h:Zbs x z j) {p:Zf} (hp:Ws p.at_/\Ws p.who/\(Wq p.req=true\/p.req=Zj.z0)) (hx:L8 x≠[]):Zbs x {z with posts:=z.posts++[p]} (j+1):=by
 refine⟨by have:=h.few;simp;omega,λq hq=>?_,h.w,h.s,λ_=>hx⟩;rcases Vak.1 hq with hq|hq
 .exact h.posts q hq
 .rw[List.mem_singleton.1 hq];exact hp
theorem Zbs.next {x:ByteArray} {z:Za} {j:Nat} (h:Zbs x z j):Zbs x z (j+1):={h with few:=by have:=h.few;omega}
theorem Zbs.waits {x:ByteArray} {z:Za} {j:Nat} (h:Zbs x z j) {l:List Int} (hl:l.length < 1048577/\∀v∈l,Ws v):Zbs x {z with waits:=l} (j+1):={h with few:=by have:=h.few;show z.posts.length<=_;omega,w:=hl}
theorem Zbs.says {x:ByteArray} {z:Za} {j:Nat} (h:Zbs x z j) {l:List Int} (hl:l.length < 1048577/\∀v∈l,Ws v):Zbs x {z with says:=l} (j+1):={h with few:=by have:=h.few;show z.posts.length<=_;omega,s:=hl}
theorem Zzj (x:ByteArray):Zbs x Za.z0 0:=⟨by simp,λp hp=>by simp at hp,⟨by simp,λv hv=>by simp at hv⟩,⟨by simp,λv hv=>by simp at hv⟩,λh=>absurd rfl h⟩
theorem Zve {x a:ByteArray} {c:UInt8} {vs ws:List ByteArray} (h:vs.map L8=Yl c (L8 x)) (ha:a∈vs) (h2:ws.map L8=Yl 32 (L8 a)) (hw:2<=ws.length):L8 x≠[]:=λe=>by
 have h1:=Q4 h ha;have h3:x.size=0:=by rw[Z4,e];rfl
 have h4:L8 a=[]:=by
  have:(L8 a).length=0:=by rw[<-Z4];omega
  exact Var this
 exact Zlc h2 hw h4
theorem Zok {x:ByteArray} (hx:x.size<=1048576):∃r,Q0 x=some r/\Zfc x r:=by
 obtain⟨vs,h1,h2⟩:=Zfz (x:=x) 10 (by omega);have h1:Ql x 10=some vs:=h1;have Z3:=Zar h2;have key:∀(m j:Nat) (z:Za),j<=vs.length->vs.length - j < m->Zbs x z j->∃r,Wf x m z vs (j:Int)=some r/\Zfc x r:=by
  intro m
  induction m with
  | zero=>intro j z _ h;omega
  | succ m ih=>
   intro j z hj hm hz;show ∃r,X8 x (Wf x m) z vs (j:Int)=some r/\_;unfold X8;by_cases hc:j < vs.length
   .have Za5:=Vai hc
    have Yx:=Q4 h2 Za5;obtain⟨ws,w1,w2⟩:=Zfz (x:=vs[j]) 32 (by omega);have w1:Ql vs[j] 32=some ws:=w1;have hw:=Zar w2;have i0:idx ws 0=some ws[0]:=Z1 (k:=0) (by omega);have s1:Y6 ws 1 (ws.length:Int)=some ((ws.drop 1).take (ws.length - 1)):=X1 (a:=1) (by omega) (Vaf _);rw[ZZj (by simpa using hc),Z1 hc,ZZa,w1,ZZa,i0,ZZa,Xr (by omega)];obtain⟨l,l1,l2,l3⟩:=Zm5 (ws:=(ws.drop 1).take (ws.length - 1)) (by simp;omega);have hl:l.length < 1048577:=by rw[l2];simp;omega
    split
    .rw[s1,ZZa,l1,ZZa]
     exact ih (j+1) _ (by omega) (by omega) (hz.waits ⟨hl,l3⟩)
    .split
     .rw[s1,ZZa,l1,ZZa]
      exact ih (j+1) _ (by omega) (by omega) (hz.says ⟨hl,l3⟩)
     .split
      .rename_i h3
       have h3:ws.length > 3:=by have:=of_decide_eq_true h3;omega
       have s13:Y6 ws 1 3=some ((ws.drop 1).take (3 - 1)):=X1 (a:=1) (b:=3) (by omega) (by omega);obtain⟨d,d1,d2,d3⟩:=Zm5 (ws:=(ws.drop 1).take (3 - 1)) (by simp;omega);have hd:d.length=2:=by rw[d2];simp;omega
       have i1:idx ws 1=some ws[1]:=Z1 (k:=1) (by omega);have i2:idx ws 2=some ws[2]:=Z1 (k:=2) (by omega);have z0:=Q4 w2 (Vai (l:=ws) (n:=0) (by omega));have z1:=Q4 w2 (Vai (l:=ws) (n:=1) (by omega));have z2:=Q4 w2 (Vai (l:=ws) (n:=2) (by omega));have hmn:∃k:Nat,k<=vs[j].size/\minI ((vs[j].size:Nat):Int) (Zq (Zq (Zq ((ws[0]'(by omega)).size:Int) ((ws[1]'(by omega)).size:Int)) ((ws[2]'(by omega)).size:Int)) 3)=(k:Int):=by
        rw[add3 (by omega)];unfold minI;split
        .exact⟨(ws[0]'(by omega)).size+(ws[1]'(by omega)).size+(ws[2]'(by omega)).size+3,by omega,by omega⟩
        .exact⟨vs[j].size,Vaf _,rfl⟩
       obtain⟨k,k1,k2⟩:=hmn;obtain⟨y,y1,y2⟩:=Zfq (x:=vs[j]) (a:=k) (b:=vs[j].size) k1 (by rw[Z4];exact Vaf _);have hy:y.size<=1048576:=by
        rw[Z4,y2,Vct,Vc6,<-Z4];omega
       obtain⟨q,q1,q2⟩:=Zsq hy;have j0:idx d 0=some d[0]:=Z1 (k:=0) (by omega);have j1:idx d 1=some d[1]:=Z1 (k:=1) (by omega);have Zvb:=hz.few;rw[s13,ZZa,d1,ZZa,i1,ZZa,i2,ZZa,k2,y1,ZZa,q1,ZZa,j0,ZZa,j1,ZZa,Wz (by simp;omega) (by simp;omega),ZZa];refine ih (j+1) _ (by omega) (by omega) (Zyc hz (p:=⟨d[0],d[1],q.1⟩) ⟨d3 _ (Vai _),d3 _ (Vai _),?_⟩ (Zve h2 Za5 w2 (by omega)));rcases q2 with rfl|⟨_,q3⟩
       .exact .inr rfl
       .exact .inl q3.1
      .exact ih (j+1) _ (by omega) (by omega) hz.next
   .rw[ZZi (by simpa using hc),Zjo (hz.n (by omega)),ZZa]
    obtain⟨r,e1,e2,_⟩:=Zp4 hz (by omega);exact⟨r,e1,e2⟩
 unfold Q0;rw[h1,ZZa];exact key FU 0 _ (Vbb _) (by have:=Wk;omega) (Zzj x)
theorem Znv {x:ByteArray} (hx:x.size<=1048576):∃r,Qy x=some r/\Zfc x r:=by
 have ht:∃y,X4 x (Zd [10])=some y/\L8 y=Lib.trimSuffix (L8 x) [10]:=by
  unfold X4;rw[ZZj (by omega)];exact⟨_,rfl,rfl⟩
 obtain⟨y,t1,t2⟩:=ht;have hy:y.size<=x.size:=by rw[Z4,t2,Z4];exact Lib.trimSuffix_le _ _
 obtain⟨vs,h1,h2⟩:=Zfr (x:=y) 10 (by omega);have Z3:=Zar h2;have hxy:L8 y≠[]->L8 x≠[]:=λh e=>by
  have:x.size=0:=by rw[Z4,e];rfl
  have:(L8 y).length=0:=by rw[<-Z4];omega
  exact h (Var this)
 have key:∀(m j:Nat) (z:Za),j<=vs.length->vs.length - j < m->Zbs x z j->∃r,Xk x m z vs (vs.length:Int) (j:Int)=some r/\Zfc x r:=by
  intro m
  induction m with
  | zero=>intro j z _ h;omega
  | succ m ih=>
   intro j z hj hm hz;show ∃r,Wa x (Xk x m) z vs (vs.length:Int) (j:Int)=some r/\_;unfold Wa;by_cases hc:j < vs.length
   .have Za5:=Vai hc
    have Yx:=Q4 h2 Za5;obtain⟨ws,w1,w2⟩:=Zfr (x:=vs[j]) 32 (by omega);have hw:=Zar w2;have hwz:∀w∈ws,w.size<=281474976710656:=λw hw'=>by have:=Q4 w2 hw';omega
    have i0:idx ws 0=some ws[0]:=Z1 (k:=0) (by omega);have s1:Y6 ws 1 (ws.length:Int)=some ((ws.drop 1).take (ws.length - 1)):=X1 (a:=1) (by omega) (Vaf _);rw[ZZj (by simpa using hc),Z1 hc,ZZa,w1,ZZa,i0,ZZa];have j4:∀b:Bool,∃r,Wg x (Xk x m) z ws vs (vs.length:Int) (j:Int) b=some r/\Zfc x r:=λb=>by
     unfold Wg;rw[Xr (by omega)];split
     .obtain⟨l,l1,l2,l3,_⟩:=Zez (ws:=(ws.drop 1).take (ws.length - 1)) (by simp;omega) λw hw'=>hwz w (Va9 (Vba hw'))
      have hl:l.1.length < 1048577:=by simp at l3;omega
      rw[s1,ZZa,l1,ZZa];split
      .exact⟨_,rfl,.inl rfl⟩
      .rw[i0,ZZa]
       split
       .exact ih (j+1) _ (by omega) (by omega) (hz.waits ⟨hl,l2⟩)
       .exact ih (j+1) _ (by omega) (by omega) (hz.says ⟨hl,l2⟩)
     .exact ih (j+1) _ (by omega) (by omega) hz.next
    have j2:∀b:Bool,(b=true->3 < ws.length)->∃r,Xl x (Xk x m) z ws vs (vs.length:Int) (j:Int) b=some r/\Zfc x r:=λb hb=>by
     unfold Xl;split
     .rename_i hbt
      have h3:=hb hbt;have s13:Y6 ws 1 3=some ((ws.drop 1).take (3 - 1)):=X1 (a:=1) (b:=3) (by omega) (by omega);have s3:Y6 ws 3 (ws.length:Int)=some ((ws.drop 3).take (ws.length - 3)):=X1 (a:=3) (by omega) (Vaf _);have ht3:(ws.drop 3).take (ws.length - 3)=ws.drop 3:=Va7 (by simp);obtain⟨d,d1,d2,_,d4⟩:=Zez (ws:=(ws.drop 1).take (3 - 1)) (by simp;omega) λw hw'=>hwz w (Va9 (Vba hw'));have hjn:(Lib.join ((ws.drop 3).map L8) (L8 (Zd [32]))).length<=1048576:=by
       rw[Zw,List.map_drop,w2];have:=Z43 (c:=32) (l:=L8 vs[j]) (k:=3) (by rw[<-w2];simpa using h3);rw[<-Z4] at this;omega
      obtain⟨q,q1,q2⟩:=Zs5 (x:=⟨(Lib.join ((ws.drop 3).map L8) (L8 (Zd [32]))).toArray⟩) (by rw[Z4,Xt (Lib.join _ _)];exact hjn);rw[s13,ZZa,d1,ZZa,s3,ZZa,ht3,Zlf (by simp;omega) (by omega),ZZa,q1,ZZa];unfold Ki;rw[Xr (by omega)];by_cases hd:d.2=true
      .rw[ZZi (by simp[hd])]
       by_cases hq:q.2=true
       .have hdl:d.1.length=2:=by rw[d4 hd];simp;omega
        have j0:idx d.1 0=some d.1[0]:=Z1 (k:=0) (by omega);have j1:idx d.1 1=some d.1[1]:=Z1 (k:=1) (by omega);have Zvb:=hz.few;rw[ZZi (by simp[hq]),j0,ZZa,j1,ZZa,Wz (by simp;omega) (by simp;omega),ZZa];refine ih (j+1) _ (by omega) (by omega) (Zyc hz (p:=⟨d.1[0],d.1[1],q.1⟩) ⟨d2 _ (Vai _),d2 _ (Vai _),?_⟩ (hxy (Zve h2 Za5 w2 (by omega))));rcases q2 with rfl|⟨_,q3⟩
        .exact .inr rfl
        .exact .inl q3.1
       .rw[ZZj (by simp[hq])]
        exact⟨_,rfl,.inl rfl⟩
      .rw[ZZj (by simp[hd]),ZZj rfl]
       exact⟨_,rfl,.inl rfl⟩
     .rw[i0,ZZa]
      split
      .exact j4 true
      .exact j4 _
    split
    .exact j2 _ λh=>by have:=of_decide_eq_true h;omega
    .exact j2 false λh=>by cases h
   .rw[ZZi (by simpa using hc),Zi9 (hz.n (by omega)),ZZa]
    obtain⟨r,e1,e2,_⟩:=Zp4 hz (by omega);exact⟨r,e1,e2⟩
 unfold Qy;rw[t1,ZZa,h1,ZZa];exact key FU 0 _ (Vbb _) (by have:=Wk;omega) (Zzj x)
theorem Zta {x:ByteArray} (hx:x.size<=1048576):∃r,Q0 x=some r/\Qy x=some r/\Zfc x r:=by
 obtain⟨r,h1,h2⟩:=Zok hx;obtain⟨q,h3,h4⟩:=Znv hx;refine⟨r,h1,?_,h2⟩;rcases h2 with rfl|⟨hr,hc⟩
 .rcases h4 with rfl|⟨hq,hd⟩
  .exact h3
  .rw[Znn hd hx] at h1
   injection h1 with h1;injection h1 with _ h1;cases h1
 .rw[Znh hc hx]
  obtain⟨r1,r2⟩:=r;simp only at hr;rw[hr]
theorem Z32 {k:Int} (h0:0<=k) (h1:k < 1152921504606846976):w1 k=k+1:=by
 simp[w1,IntKind.wrap,IntKind.bits,IntKind.signed];omega
theorem Z15 {k:Int}:Zq k 1=w1 k:=rfl
theorem b3_rem {k:Int}:decide (Zfv k 3=0)=b3 k:=rfl
def Inc {α:Type} (f:α->Int->α×Int) (w:α->Nat):Prop:=∀x k,0<=k->k+(w x:Int)<=1152921504606846976->(f x k).2=k+(w x:Int)
def J4 {α:Type} (w:α->Nat) (l:List α):Nat:=(l.map w).sum
section
variable {α:Type} {f:α->Int->α×Int} {w:α->Nat}
theorem Zck {x:α} {l:List α}:J4 w (x::l)=w x+J4 w l:=by simp[J4]
theorem Z16 (hf:Inc f w):∀{j:Nat} {l:List α} {k:Int},0<=k->k+(J4 w l:Int)<=1152921504606846976->(mkN f j l k).2=k+(J4 w (l.take j):Int):=by
 intro j
 induction j with
 | zero=>intro l k _ _;simp[mkN,J4]
 | succ j ih=>
  intro l k h0 h1;cases l with
  | nil=>simp[mkN,J4]
  | cons x l=>
   rw[Zck] at h1;have e:=hf x k h0 (by omega);simp only[mkN,Vdg,Zck];rw[ih (by rw[e];omega) (by rw[e];omega),e];omega
theorem Z2q (hf:Inc f w) {l:List α} {k:Int} (h0:0<=k) (h1:k+(J4 w l:Int)<=1152921504606846976):(mkL f l k).2=k+(J4 w l:Int):=by
 rw[<-Zp9,Z16 hf h0 h1,Vb8]
theorem Z81 {l:List α} {k:Int}:(mkL f l k).1.length=l.length:=by rw[<-Zp9,Z18]
theorem Yai:∀{j:Nat} {l:List α} {k:Int} {x:α},l[j]?=some x->(mkL f l k).1[j]?=some (f x (mkN f j l k).2).1/\(mkN f (j+1) l k).2=(f x (mkN f j l k).2).2:=by
 intro j
 induction j with
 | zero=>
  intro l k x h;cases l with
  | nil=>simp at h
  | cons y l=>
   have e:y=x:=by simpa using h
   subst e;exact⟨rfl,rfl⟩
 | succ j ih=>
  intro l k x h;cases l with
  | nil=>simp at h
  | cons y l=>
   obtain⟨h1,h2⟩:=ih (l:=l) (k:=(f y k).2) (x:=x) (by simpa using h);exact⟨by simpa [mkL,mkN] using h1,by simpa [mkN] using h2⟩
theorem Z92 {l:List α} {j:Nat} {x:α} (h:l[j]?=some x):J4 w (l.take j)+w x<=J4 w l:=by
 induction l generalizing j with
 | nil=>simp at h
 | cons y l ih=>
  cases j with
  | zero=>
   have e:y=x:=by simpa using h
   subst e;rw[Zck];simp[J4]
  | succ j=>
   have:=ih (j:=j) (by simpa using h);rw[Vdg,Zck,Zck];omega
theorem Zvr (hf:Inc f w) (l:List α) (k:Int) (hl:l.length < 1048577) (h0:0<=k) (h1:k+(J4 w l:Int)<=1152921504606846976) {B:(Int->Int->Option Int)->Int->Int->Option Int} {L:Nat->Int->Int->Option Int} (hL:∀m s i,L (m+1) s i=B (L m) s i)
  (step:∀(κ:Int->Int->Option Int) (j:Nat) (x:α) (c:Int),(hj:j < (mkL f l k).1.length)->x∈l->0<=c->c+(w x:Int)<=1152921504606846976->(mkL f l k).1[j]=(f x c).1->B κ c (j:Int)=κ (f x c).2 (Zq (j:Int) 1))
  (fin:∀(κ:Int->Int->Option Int) (c:Int),B κ c ((mkL f l k).1.length:Int)=some c):L FU k 0=some (mkL f l k).2:=by
 have hn:(mkL f l k).1.length=l.length:=Z81;refine Zeh (n:=(mkL f l k).1.length) (by omega) (λj=>(mkN f j l k).2) hL (λj hj κ=>?_) (λκ=>?_)
 .have hx:l[j]?=some (l[j]'(by omega)):=Vab (by omega)
  obtain⟨e1,e2⟩:=Yai (f:=f) (k:=k) hx;have e3:(mkL f l k).1[j]=(f (l[j]'(by omega)) (mkN f j l k).2).1:=by
   rw[Vab hj] at e1;injection e1
  have e4:=Z16 hf (j:=j) h0 h1;have e5:=Z92 (w:=w) hx;rw[e2];exact step κ j _ _ hj (Vai _) (by rw[e4];omega) (by rw[e4];omega) e3
 .rw[hn,Zp9,<-hn];exact fin κ _
end
theorem Zyv {α:Type} (n:Nat) (l:List α):J4 (λ_=>n) l=n*l.length:=by
 induction l with
 | nil=>rfl
 | cons x l ih=>rw[Zck,ih,Vad,Nat.mul_succ];omega
theorem Z11:Inc Xb (λ_=>1):=λx k h0 h1=>by
 have h2:k+1<=1152921504606846976:=h1;simp only[Xb];simp (discharger:=omega) only[Z32];rfl
theorem Zjh {l:List Int} {k:Int} (h0:0<=k) (h1:k+(l.length:Int)<=1152921504606846976):(mkL Xb l k).2=k+(l.length:Int):=by
 have e:=Zyv (α:=Int) 1 l;have:=Z2q Z11 (l:=l) h0 (by rw[e];omega);rw[this,e];omega
theorem Zlx (l:List Int) (k:Int) (hl:l.length < 1048577) (h0:0<=k) (h1:k+(l.length:Int)<=1152921504606846976):Zan (mkL Xb l k).1 k=some (mkL Xb l k).2:=by
 unfold Zan;refine Zvr Z11 l k hl h0 (by rw[Zyv];omega) (B:=λκ st j=>Zad (mkL Xb l k).1 k κ st j) (λm s i=>rfl) (λκ j x c hj hx hc hm e=>?_) (λκ c=>?_)
 .unfold Zad
  rw[ZZj (by simpa using hj),Z1 hj,ZZa,e];simp[Xb,Z15]
 .unfold Zad
  rw[ZZi (by simp)]
def Zj.tot (r:Zj):Nat:=r.data_.length
theorem Z82 {α:Type} (xs:List α) (hl:xs.length < 4611686018427387904) (e:α->α->Option Bool) (L:Nat->Int->Option Bool)
  (hL:∀m i,L (m+1) i=if decide (i < (xs.length:Int))=true then (idx xs i).bind λa=>(idx xs i).bind λb=>(e a b).bind λr=>if (!r)=true then some false else L m (Zq i 1) else some true)
  (he:∀a∈xs,e a a=some true):(if decide ((xs.length:Int)≠(xs.length:Int))=true then some false else L FU 0)=some true:=by
 rw[ZZi (by simp)];refine Zly (n:=xs.length) hl (B:=λκ i=>if decide (i < (xs.length:Int))=true then (idx xs i).bind λa=>(idx xs i).bind λb=>(e a b).bind λr=>if (!r)=true then some false else κ (Zq i 1) else some true) (L:=L) hL (λk hk κ=>?_) λκ=>?_
 .rw[ZZj (by simpa using hk),Z1 hk,ZZa,ZZa,he _ (Vai hk)]
  rfl
 .rw[ZZi (by simp)]
theorem Zkl (xs:List Int) (hl:xs.length < 1048577):Zc8 xs xs=some true:=by
 unfold Zc8;rw[ZZi (by simp)];refine Zly (n:=xs.length) (by omega) (B:=Zb0 xs xs) (L:=Zc6 xs xs) (λm i=>rfl) (λk hk κ=>?_) λκ=>?_
 .unfold Zb0
  rw[ZZj (by simpa using hk),Z1 hk];simp
 .unfold Zb0
  rw[ZZi (by simp)]
theorem Z3g (r:Zj) (h:r.data_.length < 1048577):Zjc r r=some true:=by
 unfold Zjc;rw[Zkl _ h];simp
def Zf.tot (p:Zf):Nat:=p.req.tot
theorem Z0r (p:Zf) (h:p.tot < 1048577):Zeq p p=some true:=by
 unfold Zeq;rw[Z3g _ h];simp
theorem Z7p {r:Zj} (h:Wq r=true):r.data_.length < 1000:=by
 have:=Ztf h;unfold Wq at h;simp only[ZZg,ZZl] at h;have h1:=h.2.1;have:Yr r.burst<=16:=by unfold Yr;repeat (first|omega|split)
 split at h1<;>omega
def Zhf (p:Zf):Nat:=7+p.req.data_.length
theorem Zyg:Inc Xh Zhf:=λx k h0 h1=>by
 have h3:k+((7+x.req.data_.length:Nat):Int)<=1152921504606846976:=h1;show _=k+((7+x.req.data_.length:Nat):Int);have h2:k+7+(x.req.data_.length:Int)<=1152921504606846976:=by omega
 simp only[Xh];simp (discharger:=omega) only[Z32];rw[Zjh (by omega) (by omega)];omega
theorem Z1r (l:List Zf) (k:Int) (hl:l.length < 1048577) (hd:∀p∈l,p.req.data_.length < 1048577) (h0:0<=k) (h1:k+(J4 Zhf l:Int)<=1152921504606846976):Zdw (mkL Xh l k).1 k=some (mkL Xh l k).2:=by
 unfold Zdw;refine Zvr Zyg l k hl h0 h1 (B:=λκ st j=>Jt (mkL Xh l k).1 k κ st j) (λm s i=>rfl) (λκ j x c hj hx hc hm e=>?_) (λκ c=>?_)
 .have h2:c+7+(x.req.data_.length:Int)<=1152921504606846976:=by unfold Zhf at hm;omega
  have e5:w1 (w1 (w1 (w1 (w1 (w1 (w1 c))))))=c+7:=by
   simp (discharger:=omega) only[Z32];omega
  have e6:=Zjh (l:=x.req.data_) (k:=c+7) (by omega) (by omega);have e7:=Zlx x.req.data_ (c+7) (hd x hx) (by omega) (by omega);unfold Jt;rw[ZZj (by simpa using hj),Z1 hj,ZZa,e];have e8:Zq (Zq (Zq (Zq (Zq (Zq (Zq c 1) 1) 1) 1) 1) 1) 1=c+7:=e5
  try simp only[b3_rem]
  simp only[Xh,e8,e5,e7,ZZa,e6];rw[ZZi (show ¬decide (c+7+(x.req.data_.length:Int) < 0)=true by simp;omega)];simp[Z15]
 .unfold Jt
  rw[ZZi (by simp)]
structure Zrw (z:Za):Prop where
 posts:z.posts.length < 1048577
 reqs:∀p∈z.posts,p.req.data_.length < 1000
 waits:z.waits.length < 1048577
 says:z.says.length < 1048577
theorem ans_b {x:ByteArray} (hx:x.size<=1048576) {r:Za×Bool} (h:Zfc x r):Zrw r.1:=by
 rcases h with rfl|⟨_,h⟩
 .exact⟨by simp[Za.z0],λp hp=>by simp[Za.z0] at hp,by simp[Za.z0],by simp[Za.z0]⟩
 .exact⟨by have:=Zup h hx;omega,λp hp=>Z7p (h.reqs p hp).2.2,h.w.1,h.s.1⟩
theorem Z34 {l:List Zf} (h:∀p∈l,p.req.data_.length < 1000):J4 Zhf l<=1007*l.length:=by
 induction l with
 | nil=>simp[J4]
 | cons p l ih=>
  have h1:=h p Vaa;have:=ih λq hq=>h q (Vac _ hq);rw[Zck,Vad];unfold Zhf at*;omega
theorem Z39 {a:Int} (h:0<=a):¬decide (a < 0)=true:=by simp;omega
theorem Zrw.held {z:Za} (h:Zrw z):Zc2 (Yc z 1).1 1=some (Yc z 1).2/\0<=(Yc z 1).2:=by
 have hp:=h.posts;have hw:=h.waits;have hs:=h.says;have ht:=Z34 h.reqs;have a1:=Z2q Zyg (l:=z.posts) (k:=1) (by omega) (by omega);have b1:=Z1r z.posts 1 hp (λp hp=>by have:=h.reqs p hp;omega) (by omega) (by omega);rw[a1] at b1;have a2:=Zjh (l:=z.waits) (k:=1+(J4 Zhf z.posts:Int)) (by omega) (by omega);have b2:=Zlx z.waits (1+(J4 Zhf z.posts:Int)) hw (by omega) (by omega);rw[a2] at b2;have a3:=Zjh (l:=z.says) (k:=1+(J4 Zhf z.posts:Int)+(z.waits.length:Int)) (by omega) (by omega);have b3':=Zlx z.says (1+(J4 Zhf z.posts:Int)+(z.waits.length:Int)) hs (by omega) (by omega);rw[a3] at b3';constructor
 .unfold Zc2
  simp only[Yc,a1,a2,a3];rw[b1,ZZa,ZZi (Z39 (by omega)),b2,ZZa,ZZi (Z39 (by omega)),b3',ZZa,ZZi (Z39 (by omega))]
 .simp only[Yc,a1,a2,a3]
  omega
theorem Zrw.eq {z:Za} (h:Zrw z):Ze0 z z=some true:=by
 have hp:=h.posts;have e2:Zgc z.posts z.posts=some true:=by
  unfold Zgc;exact Z82 z.posts (by omega) Zeq (Zb3 z.posts z.posts) (λm i=>rfl) (λa ha=>Z0r a (by have:=h.reqs a ha;unfold Zf.tot Zj.tot;omega))
 unfold Ze0;rw[e2,ZZa,ZZi (by simp),Zkl _ h.waits,ZZa,ZZi (by simp),Zkl _ h.says];simp
theorem Zrw.mok {z:Za} (h:Zrw z):z.mok:=by
 have hp:=h.posts;have hw:=h.waits;have hs:=h.says;refine⟨⟨by omega,λp hp=>?_⟩,by omega,by omega⟩;have:=h.reqs p hp;omega
theorem Zi1 (x:ByteArray) (h:x.size<=maxLen):x=x:=rfl
theorem Zk4 [Anchor] [ExtOk] {x:ByteArray} (h:x=x):Z5 Tryz.prog Mo (3,[.lit (.string x)],.lit (.bool true),[.undef]):=by
 by_cases hb:x.size<=1048576
 .obtain⟨r,h1,h2,h3⟩:=Zta hb
  have hz:=ans_b hb h3;have hh:=hz.held;exact Zk0 x r.1 r.2 (by simp;omega) h1 h2 hz.eq hz.mok hh.1 hh.2
 .exact Zhj x (by simp;omega)
end Go.Proofs.YthdljdelfgofdaaGreatDoor.Ev
