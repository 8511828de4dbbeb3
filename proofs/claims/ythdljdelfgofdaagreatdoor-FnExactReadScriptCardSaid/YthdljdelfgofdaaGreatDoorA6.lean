/- A part of the proof of FnExactReadScript: see the text YthdljdelfgofdaaGreatDoorLawFnExactReadScript for what is proved and its conditions. Conditions here: those in each line. -/
import Derived.Test.YthdljdelfgofdaaGreatDoorA5
import Derived.KernelRfl
import Derived.Lib.AtoiAllCases
import Derived.Lib.SplitLaws
set_option linter.unusedSimpArgs false
set_option linter.unusedVariables false
set_option linter.unusedSectionVars false
namespace Go.Proofs.YthdljdelfgofdaaGreatDoor.Ev
open Go Go.Proofs Go.RowKit KM
abbrev w1 (k:Int):Int:=IntKind.i64.wrap (k+1)
abbrev b3 (k:Int):Bool:=decide (k.tmod 3=0)
def sqL:Code->Code
 | .seq a _=>a
 | c=>c
def sqR:Code->Code
 | .seq _ b=>b
 | c=>c
def blC:Code->Code
 | .block _ c=>c
 | c=>c
def lpC:Code->Code
 | .loop c=>c
 | c=>c
theorem Z5i {i:Nat} (h:i < 1152921504606846976):w1 (i:Int)=((i+1:Nat):Int):=by
 unfold w1;simp[IntKind.wrap,IntKind.bits,IntKind.signed];omega
abbrev rs {α:Type} (e:α->List V) (l:List α) (i:Nat) (r:List V):List (List V):=(l.map e).set i r
abbrev nn (i:Nat):Prop:=Y3 (toV (.lit (.int .i64 (i:Int))))=some i
theorem Z6f {α:Type} {e:α->List V} {l:List α} {i:Nat} {a:α} (h:l[i]?=some a):decide ((i:Int) < ((l.map e).length:Int))=true:=by
 have:=(ZZh.1 h).1;simp;omega
theorem Zoy {α:Type} {e:α->List V} {l:List α} {i:Nat} {a:α} (h:l[i]?=some a):(l.map e)[i]?=some (e a):=by
 rw[Vay,h];rfl
section
variable [Anchor]
theorem Qu {α:Type} {e:α->List V} {l:List α} {i:Nat} {a:α} (h:l[i]?=some a) (r:List V):((l.map e).set i r)[i]?=some r:=set_at (Zoy h)
def Xc (_:Int) (k:Int):Int×Int:=(k,w1 k)
def rInt1 (a:Int) (k:Int):List V:=(Ze a).set 0 (.lit (.int .i64 (k)))
theorem Zut {rows:List (List V)} {i:Nat} {r r':List V}:(rows.set i r).set i r'=rows.set i r':=by rw[List.set_set]
theorem set3 {α:Type} {e:α->List V} {l:List α} {i:Nat} {a:α} {r r':List V} (h:e a=r'):((l.map e).set i r).set i r'=(l.set i a).map e:=by rw[List.set_set,Z13,h]
theorem Zj7 (l:List Int) (k:Int) (hl:l.length<=1152921504606846976):Zcs Tryz.prog 36 false [.tr (l.map Ze)] [.tr ((mkL Xc l k).1.map Ze)] k (mkL Xc l k).2:=by
 refine Zzk (M:=Mo) fOk (fn:=Tryz.f36) (r0:=sqL (Jq Tryz.f36)) (r1:=sqL (sqL (sqR (Jq Tryz.f36)))) (body:=lpC (blC (sqR (sqL (sqR (Jq Tryz.f36)))))) (post:=sqR (sqR (Jq Tryz.f36))) (f:=Xc) (by kernel_rfl) (by kernel_rfl) (by kernel_rfl) l k (Qp:=λ_=>True) (λ_ _=>trivial) hl (λts=>by kernel_rfl) (λl k z e ob bk bx u=>by kernel_rfl) (λl k z e ob bk bx u=>by kernel_rfl) (λl k z e i ob bk bx u=>by kernel_rfl) λl i a k z e ob bk bx u h hi hq=>
  Zer (M:=Mo) fOk 100 [.t true,.row i (Ze a),.put (Ze a) ((l.set i (Xc a k).1).map Ze)]
   (p:=(decide ((i:Int) < ((l.map Ze).length:Int))=true)/\(nn i)/\((l.map Ze)[i]?=some (Ze a))/\((l.map Ze)[i]?=some (Ze a))/\((l.map Ze).set i (rInt1 a k)=((l.set i (Xc a k).1).map Ze))/\True)
   ⟨Z6f h,Zdc,Zoy h,Zoy h,Z13.symm,trivial⟩ (ts:=[0,1,5]) (ks:=[0]) (e:=.normal) (vs:=[.ob 0,.lit (.int .i64 (w1 k)),.lit (.int .i64 (w1 (i:Int)))]) (bs:=[some ⟨true,z,e,((l.set i (Xc a k).1).map Ze)⟩]) (by kernel_rfl) (λs h1 h2=>⟨rfl,.of (by rw[h1,Z5i hi];rfl) h2⟩)
def Xh (x:Zf) (k:Int):Zf×Int:=({x with at_:=k,who:=w1 k,req:={x.req with write:=b3 (w1 (w1 k)),addr:=w1 (w1 (w1 k)),size:=w1 (w1 (w1 (w1 k))),burst:=w1 (w1 (w1 (w1 (w1 k)))),lock:=b3 (w1 (w1 (w1 (w1 (w1 (w1 k)))))),data_:=(mkL Xc x.req.data_ (w1 (w1 (w1 (w1 (w1 (w1 (w1 k)))))))).1}},(mkL Xc x.req.data_ (w1 (w1 (w1 (w1 (w1 (w1 (w1 k)))))))).2)
def Zcb (a:Zf) (k:Int):List V:=(Zf.enc a).set 0 (.lit (.int .i64 (k)))
def Zca (a:Zf) (k:Int):List V:=(Zcb a k).set 1 (.lit (.int .i64 (w1 k)))
def Zcr (a:Zf) (k:Int):List V:=(Zca a k).set 2 (.lit (.bool (b3 (w1 (w1 k)))))
def Zcc (a:Zf) (k:Int):List V:=(Zcr a k).set 3 (.lit (.int .i64 (w1 (w1 (w1 k)))))
def Zcd (a:Zf) (k:Int):List V:=(Zcc a k).set 4 (.lit (.int .i64 (w1 (w1 (w1 (w1 k))))))
def Zch (a:Zf) (k:Int):List V:=(Zcd a k).set 5 (.lit (.int .i64 (w1 (w1 (w1 (w1 (w1 k)))))))
def Jy (a:Zf) (k:Int):List V:=(Zch a k).set 6 (.lit (.bool (b3 (w1 (w1 (w1 (w1 (w1 (w1 k)))))))))
def rPost8 (a:Zf) (k:Int):List V:=(Jy a k).set 7 (.tr ((mkL Xc a.req.data_ (w1 (w1 (w1 (w1 (w1 (w1 (w1 k)))))))).1.map Ze))
theorem Zzr (l:List Zf) (k:Int) (hl:l.length<=1152921504606846976) (hq:∀x∈l,x.req.data_.length<=1152921504606846976):Zcs Tryz.prog 35 false [.tr (l.map Zf.enc)] [.tr ((mkL Xh l k).1.map Zf.enc)] k (mkL Xh l k).2:=by
 refine Zzk (M:=Mo) fOk (fn:=Tryz.f35) (r0:=sqL (Jq Tryz.f35)) (r1:=sqL (sqL (sqR (Jq Tryz.f35)))) (body:=lpC (blC (sqR (sqL (sqR (Jq Tryz.f35)))))) (post:=sqR (sqR (Jq Tryz.f35))) (f:=Xh) (by kernel_rfl) (by kernel_rfl) (by kernel_rfl) l k (Qp:=λx=>x.req.data_.length<=1152921504606846976) hq hl (λts=>by kernel_rfl) (λl k z e ob bk bx u=>by kernel_rfl) (λl k z e ob bk bx u=>by kernel_rfl) (λl k z e i ob bk bx u=>by kernel_rfl) λl i a k z e ob bk bx u h hi hq=>
  Zer (M:=Mo) fOk 100 [.t true,.row i (Zf.enc a),.put (Zf.enc a) (rs Zf.enc l i (Zcb a k)),.row i (Zcb a k),.put (Zcb a k) (rs Zf.enc l i (Zca a k)),.k,.row i (Zca a k),.put (Zca a k) (rs Zf.enc l i (Zcr a k)),.row i (Zcr a k),.put (Zcr a k) (rs Zf.enc l i (Zcc a k)),.row i (Zcc a k),.put (Zcc a k) (rs Zf.enc l i (Zcd a k)),.row i (Zcd a k),.put (Zcd a k) (rs Zf.enc l i (Zch a k)),.k,.row i (Zch a k),.put (Zch a k) (rs Zf.enc l i (Jy a k)),.row i (Jy a k),.cell (Jy a k),.put (Jy a k) ((l.set i (Xh a k).1).map Zf.enc),.res (.lit (.int .i64 (mkL Xc a.req.data_ (w1 (w1 (w1 (w1 (w1 (w1 (w1 k)))))))).2)) [.tr ((mkL Xc a.req.data_ (w1 (w1 (w1 (w1 (w1 (w1 (w1 k)))))))).1.map Ze)]]
   (p:=(decide ((i:Int) < ((l.map Zf.enc).length:Int))=true)/\(nn i)/\((l.map Zf.enc)[i]?=some (Zf.enc a))/\((l.map Zf.enc)[i]?=some (Zf.enc a))/\((l.map Zf.enc).set i (Zcb a k)=(rs Zf.enc l i (Zcb a k)))/\(nn i)/\((rs Zf.enc l i (Zcb a k))[i]?=some (Zcb a k))/\((rs Zf.enc l i (Zcb a k))[i]?=some (Zcb a k))/\((rs Zf.enc l i (Zcb a k)).set i (Zca a k)=(rs Zf.enc l i (Zca a k)))/\(nn i)/\((rs Zf.enc l i (Zca a k))[i]?=some (Zca a k))/\((rs Zf.enc l i (Zca a k))[i]?=some (Zca a k))/\((rs Zf.enc l i (Zca a k)).set i (Zcr a k)=(rs Zf.enc l i (Zcr a k)))/\(nn i)/\((rs Zf.enc l i (Zcr a k))[i]?=some (Zcr a k))/\((rs Zf.enc l i (Zcr a k))[i]?=some (Zcr a k))/\((rs Zf.enc l i (Zcr a k)).set i (Zcc a k)=(rs Zf.enc l i (Zcc a k)))/\(nn i)/\((rs Zf.enc l i (Zcc a k))[i]?=some (Zcc a k))/\((rs Zf.enc l i (Zcc a k))[i]?=some (Zcc a k))/\((rs Zf.enc l i (Zcc a k)).set i (Zcd a k)=(rs Zf.enc l i (Zcd a k)))/\(nn i)/\((rs Zf.enc l i (Zcd a k))[i]?=some (Zcd a k))/\((rs Zf.enc l i (Zcd a k))[i]?=some (Zcd a k))/\((rs Zf.enc l i (Zcd a k)).set i (Zch a k)=(rs Zf.enc l i (Zch a k)))/\(nn i)/\((rs Zf.enc l i (Zch a k))[i]?=some (Zch a k))/\((rs Zf.enc l i (Zch a k))[i]?=some (Zch a k))/\((rs Zf.enc l i (Zch a k)).set i (Jy a k)=(rs Zf.enc l i (Jy a k)))/\(nn i)/\((rs Zf.enc l i (Jy a k))[i]?=some (Jy a k))/\((rs Zf.enc l i (Jy a k))[i]?=some (Jy a k))/\((rs Zf.enc l i (Jy a k))[i]?=some (Jy a k))/\(Zcs Tryz.prog 36 false [.tr (a.req.data_.map Ze)] [.tr ((mkL Xc a.req.data_ (w1 (w1 (w1 (w1 (w1 (w1 (w1 k)))))))).1.map Ze)] (w1 (w1 (w1 (w1 (w1 (w1 (w1 k))))))) (mkL Xc a.req.data_ (w1 (w1 (w1 (w1 (w1 (w1 (w1 k)))))))).2)/\((rs Zf.enc l i (Jy a k)).set i (rPost8 a k)=((l.set i (Xh a k).1).map Zf.enc))/\True)
   ⟨Z6f h,Zdc,Zoy h,Zoy h,rfl,Zdc,Qu h _,Qu h _,Zut,Zdc,Qu h _,Qu h _,Zut,Zdc,Qu h _,Qu h _,Zut,Zdc,Qu h _,Qu h _,Zut,Zdc,Qu h _,Qu h _,Zut,Zdc,Qu h _,Qu h _,Zut,Zdc,Qu h _,Qu h _,Qu h _,Zj7 _ _ hq,set3 rfl,trivial⟩ (ts:=[0,1,5]) (ks:=[0]) (e:=.normal) (vs:=[.ob 0,.lit (.int .i64 ((mkL Xc a.req.data_ (w1 (w1 (w1 (w1 (w1 (w1 (w1 k)))))))).2)),.lit (.int .i64 (w1 (i:Int)))]) (bs:=[some ⟨true,z,e,((l.set i (Xh a k).1).map Zf.enc)⟩]) (by kernel_rfl) (λs h1 h2=>⟨rfl,.of (by rw[h1,Z5i hi];rfl) h2⟩)
def Za.mok (x:Za):Prop:=(x.posts.length<=1152921504606846976/\∀y∈x.posts,y.req.data_.length<=1152921504606846976)/\(x.waits.length<=1152921504606846976)/\(x.says.length<=1152921504606846976)
def Yc (x:Za) (k:Int):Za×Int:=({x with posts:=(mkL Xh x.posts (k)).1,waits:=(mkL Xc x.waits ((mkL Xh x.posts (k)).2)).1,says:=(mkL Xc x.says ((mkL Xc x.waits ((mkL Xh x.posts (k)).2)).2)).1},(mkL Xc x.says ((mkL Xc x.waits ((mkL Xh x.posts (k)).2)).2)).2)
theorem Zwk (x:Za) (k:Int) (h:x.mok):Zcs Tryz.prog 10 true (Za.enc x) (Za.enc (Yc x k).1) k (Yc x k).2:=by
 refine mk_ok fOk (fn:=Tryz.f10) (c:=Jq Tryz.f10) (rt:=4) (by kernel_rfl) (by kernel_rfl) (by kernel_rfl) (by show 3<=1000;decide) (.inl rfl) λts=>?_;exact Zer (M:=Mo) fOk 100 [.res (.lit (.int .i64 (mkL Xh x.posts (k)).2)) [.tr ((mkL Xh x.posts (k)).1.map Zf.enc)],.res (.lit (.int .i64 (mkL Xc x.waits ((mkL Xh x.posts (k)).2)).2)) [.tr ((mkL Xc x.waits ((mkL Xh x.posts (k)).2)).1.map Ze)],.res (.lit (.int .i64 (mkL Xc x.says ((mkL Xc x.waits ((mkL Xh x.posts (k)).2)).2)).2)) [.tr ((mkL Xc x.says ((mkL Xc x.waits ((mkL Xh x.posts (k)).2)).2)).1.map Ze)]]
  (p:=(Zcs Tryz.prog 35 false [.tr (x.posts.map Zf.enc)] [.tr ((mkL Xh x.posts (k)).1.map Zf.enc)] (k) (mkL Xh x.posts (k)).2)/\(Zcs Tryz.prog 36 false [.tr (x.waits.map Ze)] [.tr ((mkL Xc x.waits ((mkL Xh x.posts (k)).2)).1.map Ze)] ((mkL Xh x.posts (k)).2) (mkL Xc x.waits ((mkL Xh x.posts (k)).2)).2)/\(Zcs Tryz.prog 36 false [.tr (x.says.map Ze)] [.tr ((mkL Xc x.says ((mkL Xc x.waits ((mkL Xh x.posts (k)).2)).2)).1.map Ze)] ((mkL Xc x.waits ((mkL Xh x.posts (k)).2)).2) (mkL Xc x.says ((mkL Xc x.waits ((mkL Xh x.posts (k)).2)).2)).2)/\True)
  ⟨Zzr _ _ h.1.1 h.1.2,Zj7 _ _ h.2.1,Zj7 _ _ h.2.2,trivial⟩ (ts:=[4]) (ks:=[0,1,2]) (e:=.ret) (vs:=[.lit (.int .i64 (Yc x k).2)]) (bs:=[some ⟨true,(ts 0).1,(ts 0).2,((Yc x k).1.posts.map Zf.enc)⟩,some ⟨true,(ts 1).1,(ts 1).2,((Yc x k).1.waits.map Ze)⟩,some ⟨true,(ts 2).1,(ts 2).2,((Yc x k).1.says.map Ze)⟩]) (by kernel_rfl)
  (λs h1 h2=>⟨rfl,by simpa using h1,by
   simp only[Vau,Vbw,Vcd,and_true] at h2;exact⟨h2.1,h2.2.1,h2.2.2,trivial⟩⟩)
end
end Go.Proofs.YthdljdelfgofdaaGreatDoor.Ev
namespace Go.Proofs.YthdljdelfgofdaaGreatDoor.Ev
open Go Go.Proofs
theorem Ztg {n:Int} (h1:-9223372036854775808<=n) (h2:n < 9223372036854775808):IntKind.i64.wrap n=n:=Z49 h1 h2
theorem Zfu {a b:Int} (h1:-9223372036854775808<=a+b) (h2:a+b < 9223372036854775808):Zq a b=a+b:=Ztg h1 h2
theorem Zk6 {a b:Int} (h1:-9223372036854775808<=a - b) (h2:a - b < 9223372036854775808):Zot a b=a - b:=Ztg h1 h2
theorem Zfv {a b:Int} (h1:-9223372036854775808<=a*b) (h2:a*b < 9223372036854775808):Zdh a b=a*b:=Ztg h1 h2
theorem Xr {k:Nat} (h:k < 4611686018427387904):Zq (k:Int) 1=((k+1:Nat):Int):=by rw[Zfu (by omega) (by omega)];rfl
section
variable {α β σ ρ:Type}
theorem Z1 {xs:List α} {k:Nat} (h:k < xs.length):idx xs (k:Int)=some xs[k]:=by
 simp[idx,h]
theorem Wj:4611686018427387904 < FU:=by decide
theorem W0 {sz:Nat} {xs ys:List α} (h1:(xs.length+ys.length)*sz<=140737488355328) (h2:xs.length+ys.length<=9223372036854775807):Zah sz xs ys=some (xs++ys):=by
 unfold Zah;rw[ZZj ⟨h1,h2⟩]
end
section
variable {α:Type}
def atI [Inhabited α] (xs:List α) (i:Int):α:=xs.getD i.toNat default
theorem Zte [Inhabited α] {xs:List α} {k:Nat} (h:k < xs.length):atI xs (k:Int)=xs[k]:=by
 simp[atI,h]
theorem Zsr {n:Int} (h:n≠0):nzI n=some ():=by unfold nzI;rw[ZZi h]
theorem Zp2 {a n:Int} (h0:0<=a):Zf1 a n=a % n:=by unfold Zf1;rw[Int.tmod_eq_emod_of_nonneg h0]
theorem Yaf {a n:Int} (h0:0<=a) (h1:a < 9223372036854775808) (hn:1<=n):Zkt a n=a / n:=by
 unfold Zkt;rw[Int.tdiv_eq_ediv_of_nonneg h0];have h2:0<=a / n:=Int.ediv_nonneg h0 (by omega);have h3:a / n<=a:=Int.ediv_le_self n h0;exact Ztg (by omega) (by omega)
theorem Z36 (xs:List α) (hl:xs.length < 4611686018427387904) (f:α->Option Bool) (q:α->Bool) (hf:∀a∈xs,f a=some (!q a)) (L:Nat->Int->Option Int)
  (hL:∀m i,L (m+1) i=if decide (i < (xs.length:Int))=true then (idx xs i).bind λa=>(f a).bind λr=>if r=true then some i else L m (Zq i 1) else some (-1)):
  (xs.all q=true/\L FU 0=some (-1))\/∃k:Nat,∃h:k < xs.length,L FU 0=some (k:Int)/\q xs[k]=false/\(xs.take k).all q=true:=by
 have key:∀(m k:Nat),k<=xs.length->xs.length - k < m->(xs.take k).all q=true->(xs.all q=true/\L m k=some (-1))\/∃j:Nat,∃h:j < xs.length,L m k=some (j:Int)/\q xs[j]=false/\(xs.take j).all q=true:=by
  intro m
  induction m with
  | zero=>intro k _ h;omega
  | succ m ih=>
   intro k hk hm ht;rw[hL];by_cases hc:k < xs.length
   .have h1:decide ((k:Int) < (xs.length:Int))=true:=by simpa using hc
    rw[ZZj h1,Z1 hc,ZZa,hf _ (Vai hc),ZZa];by_cases hq:q xs[k]=true
    .have h2:¬(!q xs[k])=true:=by simp[hq]
     rw[ZZi h2,Xr (by omega)];refine ih (k+1) (by omega) (by omega) ?_;rw[Vbg hc,List.all_append,ht];simp[hq]
    .have h2:(!q xs[k])=true:=by simpa using hq
     rw[ZZj h2];exact .inr ⟨k,hc,rfl,by simpa using hq,ht⟩
   .have h1:¬decide ((k:Int) < (xs.length:Int))=true:=by simpa using hc
    rw[ZZi h1];rw[Va7 (by omega)] at ht;exact .inl ⟨ht,rfl⟩
 exact key FU 0 (Vbb _) (by have:=Wj;omega) (by simp)
theorem Z4z (xs:List α) (hl:xs.length < 4611686018427387904) (f:α->Option Bool) (q:α->Bool) (hf:∀a∈xs,f a=some (!q a)) (L:Nat->Int->Option Int)
  (hL:∀m i,L (m+1) i=if decide (i < (xs.length:Int))=true then (idx xs i).bind λa=>(f a).bind λr=>if r=true then some i else L m (Zq i 1) else some (-1)):
  ((L FU 0).bind λr=>some (decide (r≥0)))=some (!xs.all q):=by
 rcases Z36 xs hl f q hf L hL with⟨h1,h2⟩|⟨k,hk,h1,h2,h3⟩
 .rw[h2,h1];rfl
 .rw[h1,ZZa]
  have:xs.all q=false:=by
   rw[List.all_eq_false];exact⟨xs[k],Vai hk,by simp[h2]⟩
  rw[this];have h4:((k:Nat):Int)≥0:=by omega
  simp[h4]
end
theorem Zeh {σ ρ:Type} {n:Nat} (hn:n < 4611686018427387904) (st:Nat->σ) {B:(σ->Int->ρ)->σ->Int->ρ} {L:Nat->σ->Int->ρ} (hL:∀m s i,L (m+1) s i=B (L m) s i)
  (hs:∀k,k < n->∀κ,B κ (st k) (k:Int)=κ (st (k+1)) (Zq (k:Int) 1)) {r:ρ} (hf:∀κ,B κ (st n) (n:Int)=r):L FU (st 0) 0=r:=by
 have key:∀(m k:Nat),k<=n->n - k < m->L m (st k) (k:Int)=r:=by
  intro m
  induction m with
  | zero=>intro k _ h;omega
  | succ m ih=>
   intro k hk hm;rw[hL];by_cases hc:k < n
   .rw[hs k hc,Xr (by omega)]
    exact ih (k+1) (by omega) (by omega)
   .have:k=n:=by omega
    subst this;exact hf _
 have:=key FU 0 (Vbb _) (by have:=Wj;omega);simpa using this
theorem Zmj {ρ:Type} {n:Nat} (hn:n < 4611686018427387904) {B:(Int->ρ)->Int->ρ} {L:Nat->Int->ρ} (hL:∀m i,L (m+1) i=B (L m) i)
  (hs:∀k,k < n->∀κ,B κ (k:Int)=κ (Zq (k:Int) 1)) {r:ρ} (hf:∀κ,B κ (n:Int)=r):L FU 0=r:=
 Zeh (σ:=Unit) hn (λ_=>()) (B:=λκ _ i=>B (κ ()) i) (L:=λm _ i=>L m i) (λm _ i=>hL m i) (λk hk κ=>hs k hk _) λκ=>hf _
end Go.Proofs.YthdljdelfgofdaaGreatDoor.Ev
namespace Go.Proofs.YthdljdelfgofdaaGreatDoor.Ev
open Go Go.Proofs Go.RowKit KM
theorem dlt_f {a:Int} (h:0<=a):decide (a < 0)=false:=by simp;omega
theorem dne_f {a:Int}:decide (a≠a)=false:=by simp
theorem bne_f {a:Bool}:(a != a)=false:=by simp
section
variable [Anchor] [ExtOk]
theorem Zhl (x0:ByteArray)   (hb0:decide ((x0.size:Int) > 1048576)=true):Z4 Tryz.prog Mo (3,[.lit (.string x0)],.lit (.bool true),[.undef]):=by
 refine Z47 fOk (fn:=Tryz.f3) (c:=Jq Tryz.f3) (rt:=2) (b:=true) (xs:=[.lit (.string x0)]) (by kernel_rfl) (by kernel_rfl) (by kernel_rfl) (by kernel_rfl) (by rfl) (of_decide_eq_true (by kernel_rfl)) ?_;exact Zer (M:=Mo) fOk 300 [.t true]
  (p:=((decide ((x0.size:Int) > 1048576))=true)/\(True))
  ⟨hb0,trivial⟩ (ts:=[2]) (ks:=[]) (e:=.ret) (vs:=[.lit (.bool true)]) (bs:=[]) (by kernel_rfl) (λs h1 _=>⟨rfl,by simpa using h1⟩)
theorem Zk8 (x0:ByteArray)  (v0:Za) (v1:Bool) (hb0:decide ((x0.size:Int) > 1048576)=false) (hc1:Q1 x0=some (v0,v1)) (hc2:Qz x0=some (v0,v1)) (hc3:Zep v0 v0=some true) (hm4:v0.mok) (hc5:Zc4 ((Yc v0 1).1) 1=some ((Yc v0 1).2)) (hz6:0<=(Yc v0 1).2):Z4 Tryz.prog Mo (3,[.lit (.string x0)],.lit (.bool true),[.undef]):=by
 refine Z47 fOk (fn:=Tryz.f3) (c:=Jq Tryz.f3) (rt:=2) (b:=true) (xs:=[.lit (.string x0)]) (by kernel_rfl) (by kernel_rfl) (by kernel_rfl) (by kernel_rfl) (by rfl) (of_decide_eq_true (by kernel_rfl)) ?_;exact Zer (M:=Mo) fOk 300 [.t false,.res (Zaj x0 ((v0,v1))).2.2.1 (Zaj x0 ((v0,v1))).2.2.2,.res (Y7 x0 ((v0,v1))).2.2.1 (Y7 x0 ((v0,v1))).2.2.2,.res (Jd v0 v0 true).2.2.1 (Jd v0 v0 true).2.2.2,.k,.k,.k,.k,.t false,.res (.lit (.int .i64 (Yc v0 1).2)) (Za.enc (Yc v0 1).1),.res (Q0 ((Yc v0 1).1) 1 ((Yc v0 1).2)).2.2.1 (Q0 ((Yc v0 1).1) 1 ((Yc v0 1).2)).2.2.2,.t false,.t false,.res (Y7 x0 ((v0,v1))).2.2.1 (Y7 x0 ((v0,v1))).2.2.2,.res (Jd v0 v0 true).2.2.1 (Jd v0 v0 true).2.2.2,.k,.k,.k,.k,.t false,.res (Q0 ((Yc v0 1).1) 1 ((Yc v0 1).2)).2.2.1 (Q0 ((Yc v0 1).1) 1 ((Yc v0 1).2)).2.2.2,.t false,.t false]
  (p:=((decide ((x0.size:Int) > 1048576))=false)/\(Z4 Tryz.prog Mo (Zaj x0 ((v0,v1))))/\(Z4 Tryz.prog Mo (Y7 x0 ((v0,v1))))/\(Z4 Tryz.prog Mo (Jd v0 v0 true))/\((v1 != v1)=false)/\(Zcs Tryz.prog 10 true (Za.enc v0) (Za.enc (Yc v0 1).1) 1 (Yc v0 1).2)/\(Z4 Tryz.prog Mo (Q0 ((Yc v0 1).1) 1 ((Yc v0 1).2)))/\((decide ((Yc v0 1).2 < 0))=false)/\((decide ((Yc v0 1).2≠(Yc v0 1).2))=false)/\(Z4 Tryz.prog Mo (Y7 x0 ((v0,v1))))/\(Z4 Tryz.prog Mo (Jd v0 v0 true))/\((v1 != v1)=false)/\(Z4 Tryz.prog Mo (Q0 ((Yc v0 1).1) 1 ((Yc v0 1).2)))/\((decide ((Yc v0 1).2 < 0))=false)/\((decide ((Yc v0 1).2≠(Yc v0 1).2))=false)/\(True))
  ⟨hb0,Zu3 hc1,Zlb hc2,Zno hc3,(bne_f),Zwk _ _ hm4,Zlh hc5,(dlt_f hz6),(dne_f),Zlb hc2,Zno hc3,(bne_f),Zlh hc5,(dlt_f hz6),(dne_f),trivial⟩ (ts:=[2]) (ks:=[]) (e:=.ret) (vs:=[.lit (.bool true)]) (bs:=[]) (by kernel_rfl) (λs h1 _=>⟨rfl,by simpa using h1⟩)
end
end Go.Proofs.YthdljdelfgofdaaGreatDoor.Ev
namespace Go.Proofs.YthdljdelfgofdaaGreatDoor.Ev
open Go Go.Proofs
def L8 (b:ByteArray):List UInt8:=b.data.toList
theorem Wb (a b:ByteArray):L8 (a++b)=L8 a++L8 b:=by simp[L8]
theorem Kh {a b:ByteArray} (h:L8 a=L8 b):a=b:=by
 cases a;cases b;simp only[L8] at h;rw[Array.toList_inj.1 h]
theorem Z5 (a:ByteArray):a.size=(L8 a).length:=by show a.data.size=a.data.toList.length;rw[Array.length_toList]
theorem Xt (l:List UInt8):L8 ⟨l.toArray⟩=l:=rfl
theorem Zw (l:List UInt8):L8 (Zd l)=l:=rfl
theorem Zau:L8 ByteArray.empty=[]:=rfl
theorem Qw {a b:ByteArray} (h:a.size+b.size < 9223372036854775808):Wa a b=some ():=by
 unfold Wa;rw[ZZi (by simp[IntKind.max,IntKind.signed,IntKind.bits];omega)]
theorem Wg (a b:ByteArray):(a++b).size=a.size+b.size:=by rw[Z5,Wb,Vas,Z5,Z5]
theorem Yk (l:List UInt8):(Zd l).size=l.length:=by rw[Z5,Zw]
theorem Zia:∀(k u:Nat),u < 10^(k+1)->(Lib.decDigits u).length<=k+1:=by
 intro k
 induction k with
 | zero=>
  intro u hu;rw[Lib.decDigits,dif_pos (by omega)];simp
 | succ k ih=>
  intro u hu;rw[Lib.decDigits];split
  .simp
  .rw[Vas]
   have:=ih (u / 10) (by rw[Vc0] at hu;omega);simp;omega
def dgL (u:Nat):List UInt8:=if u=0 then [] else Lib.decDigits u
theorem Z66 {u:Nat} (h:u≠0):dgL u=dgL (u / 10)++[UInt8.ofNat (48+u % 10)]:=by
 unfold dgL;rw[ZZi h,Lib.decDigits];split
 .rename_i h1
  rw[ZZj (by omega),Nat.mod_eq_of_lt h1];rfl
 .rw[ZZi (by omega)]
def InR (x:Int):Prop:=-9223372036854775808<=x/\x<=9223372036854775807
def Zt (x:Int):ByteArray:=⟨(Lib.itoa x).toArray⟩
theorem Xa (x:Int):L8 (Zt x)=Lib.itoa x:=rfl
theorem Zp7 {x:Int} (h:InR x):(Lib.itoa x).length<=20:=by
 obtain⟨h1,h2⟩:=h;unfold Lib.itoa;split
 .have:=Zia 18 x.natAbs (by omega)
  simp;omega
 .have:=Zia 18 x.toNat (by omega)
  omega
theorem K6 {x:Int} (h:InR x):(Zt x).size<=20:=by rw[Z5,Xa];exact Zp7 h
theorem Z90 {x:Int} (h:x≠0):Lib.itoa x=(if x < 0 then [45] else [])++dgL x.natAbs:=by
 unfold Lib.itoa dgL;have hn:¬x.natAbs=0:=by omega
 by_cases hx:x < 0
 .rw[ZZj hx,ZZj hx,ZZi hn];rfl
 .have:x.toNat=x.natAbs:=by omega
  rw[ZZi hx,ZZi hx,ZZi hn,this];rfl
theorem Z5y:Lib.itoa 0=[48]:=by
 unfold Lib.itoa;rw[ZZi (by omega),show (0:Int).toNat=0 from rfl,Lib.decDigits,dif_pos (by omega)];rfl
theorem digB {d:Int} (h0:0<=d) (h1:d < 10):strB [w8 (Zq 48 d)]=Zd [UInt8.ofNat (48+d.toNat)]:=by
 have:w8 (Zq 48 d)=((48+d.toNat:Nat):Int):=by
  simp[w8,Zq,IntKind.wrap,IntKind.bits,IntKind.signed];omega
 rw[this];rfl
theorem Z3h (x0:Int):∀(m:Nat) (v0:Int) (v1:ByteArray),v0.natAbs < m->InR v0->(v1.size+v0.natAbs < 9223372036854775807\/v1.size=0)->
  ∃r,Zbh x0 m v0 v1=some r/\L8 r=(if x0 < 0 then [45] else [])++dgL v0.natAbs++L8 v1:=by
 intro m
 induction m with
 | zero=>intro v0 v1 h;omega
 | succ m ih=>
  intro v0 v1 hm hr hs;show ∃r,Ziq x0 (Zbh x0 m) v0 v1=some r/\_;unfold Ziq;obtain⟨X6,Xq⟩:=hr;by_cases h0:v0=0
  .subst h0
   rw[ZZi (by simp)];by_cases hx:x0 < 0
   .rw[ZZj (by simpa using hx),Qw (by
     have hz:(0:Int).natAbs=0:=rfl;rw[hz] at hs;rw[Yk];show 1+v1.size < _;omega),ZZa]
    exact⟨_,rfl,by rw[ZZj hx,Wb];rfl⟩
   .rw[ZZi (by simpa using hx)]
    exact⟨_,rfl,by rw[ZZi hx];rfl⟩
  .rw[ZZj (by simpa using h0)]
   have hq:Zkt v0 10=v0.tdiv 10:=by
    unfold Zkt;have:(v0.tdiv 10).natAbs=v0.natAbs / 10:=by rw[Int.natAbs_tdiv];rfl
    simp[IntKind.wrap,IntKind.bits,IntKind.signed];omega
   have hqa:(v0.tdiv 10).natAbs=v0.natAbs / 10:=by rw[Int.natAbs_tdiv];rfl
   have hra:(v0.tmod 10).natAbs=v0.natAbs % 10:=by rw[Int.natAbs_tmod];rfl
   have step:∀d:Int,0<=d->d.toNat=v0.natAbs % 10->∃r,Zdp x0 (Zbh x0 m) v0 v1 d=some r/\L8 r=(if x0 < 0 then [45] else [])++dgL v0.natAbs++L8 v1:=λd hd0 hd=>by
    unfold Zdp;rw[digB hd0 (by omega),Qw (by rw[Yk];simp;omega),ZZa,hq];obtain⟨r,h1,h2⟩:=ih (v0.tdiv 10) (Zd [UInt8.ofNat (48+d.toNat)]++v1) (by omega) (by constructor<;>omega) (.inl (by rw[Wg,Yk,hqa];simp;omega));refine⟨r,h1,?_⟩;rw[h2,hqa,Wb,Zw,Z66 (u:=v0.natAbs) (by omega),hd];simp
   unfold Zf1 at*;by_cases hn:v0.tmod 10 < 0
   .rw[ZZj (by simpa using hn)]
    have hneg:negW (v0.tmod 10)=-(v0.tmod 10):=by
     simp[negW,IntKind.wrap,IntKind.bits,IntKind.signed];omega
    rw[hneg];exact step _ (by omega) (by omega)
   .rw[ZZi (by simpa using hn)]
    exact step _ (by omega) (by omega)
theorem Zh5 {x:Int} (h:InR x):Zef x=some (Zt x):=by
 unfold Zef;by_cases h0:x=0
 .subst h0
  rw[ZZj (by simp)];exact congrArg some (Kh (by rw[Xa,Z5y,Zw]))
 .rw[ZZi (by simpa using h0)]
  obtain⟨r,h1,h2⟩:=Z3h x FU x ByteArray.empty (by obtain⟨h1,h2⟩:=h;unfold FU;omega) h (.inr rfl);rw[h1];exact congrArg some (Kh (by rw[h2,Xa,Z90 h0,Zau,Vb2]))
theorem Zl5 {x:Int} (h:InR x):Zfy x=some (Zt x):=by
 unfold Zfy Zc0;rw[ZZj (show _/\_ from h)];rfl
theorem Zla {ws:List ByteArray} {sep:ByteArray} (h1:ws.length<=1000000000) (h2:(Lib.join (ws.map L8) (L8 sep)).length<=140737488355328):Wp ws sep=some ⟨(Lib.join (ws.map L8) (L8 sep)).toArray⟩:=by
 unfold Wp;rw[ZZj ⟨by omega,h2⟩];rfl
theorem Zi5 (x a b:Int):Zaw x a b=some (decide (a<=x/\x<=b)):=by
 unfold Zaw;by_cases h:a<=x<;>simp[h]
theorem Zhy (x a b:Int):Zcu x a b=some (decide (a<=x/\x<=b)):=by
 unfold Zcu;by_cases h:a<=x<;>simp[h]
def Xu (s:Int):Int:=if s=0 then 1 else if s=1 then 2 else if s=2 then 4 else 0
def Zeu (s:Int):Int:=if s=0 then 256 else if s=1 then 65536 else if s=2 then 4294967296 else 0
def Yr (b:Int):Int:=if b=0 then 1 else if b=1 then 4 else if b=2 then 4 else if b=3 then 8 else 0
theorem Zvu (s:Int):0<=Xu s/\Xu s<=4:=by unfold Xu;repeat' split<;>omega
theorem Zof (s:Int):0<=Zeu s/\Zeu s<=4294967296:=by unfold Zeu;repeat' split<;>omega
theorem Zcw (b:Int):0<=Yr b/\Yr b<=8:=by unfold Yr;repeat' split<;>omega
theorem Zck (s:Int):Q9 s=some (Xu s):=by
 unfold Q9;rw[Zhy,ZZa];by_cases h:0<=s/\s<=2
 .have:s=0\/s=1\/s=2:=by omega
  rcases this with rfl|rfl|rfl<;>rfl
 .have:Xu s=0:=by unfold Xu;repeat' split<;>omega
  simp[h,this]
theorem Zh2 (s:Int):K7 s=some (Xu s):=by
 rw[<-Zck];unfold K7 Q9;rw[Zi5,Zhy]
theorem Zco (b:Int):Q8 b=some (Yr b):=by
 unfold Q8;rw[Zhy,ZZa];by_cases h:0<=b/\b<=3
 .have:b=0\/b=1\/b=2\/b=3:=by omega
  rcases this with rfl|rfl|rfl|rfl<;>rfl
 .have:Yr b=0:=by unfold Yr;repeat' split<;>omega
  simp[h,this]
theorem Zh8 (b:Int):Zbg b=some (Yr b):=by
 rw[<-Zco];unfold Zbg Q8;rw[Zi5,Zhy]
theorem Zo2 (s:Int):Zdm s=some (Zeu s):=by
 unfold Zdm;rw[Zck,ZZa,ZZa];by_cases h:s=0\/s=1\/s=2
 .rcases h with rfl|rfl|rfl<;>rfl
 .have h1:Xu s=0:=by unfold Xu;repeat' split<;>omega
  have h2:Zeu s=0:=by unfold Zeu;repeat' split<;>omega
  simp[h1,h2]
theorem Zym (s:Int):Zgk s=some (Zeu s):=by
 rw[<-Zo2];unfold Zgk Zdm;simp only[Zh2,Zck]
def Zii (v s:Int):Bool:=decide (0<=v/\v < Zeu s)
theorem Z3k (v s:Int):Zjd v s=some (Zii v s):=by
 have:=Zof s;unfold Zjd Zii;rw[Zym,ZZa,Zi5,ZZa,Zk6 (by omega) (by omega)]
 congr 2
 apply propext;omega
theorem Z7n (v s:Int):Zcu v 0 (Zot (Zeu s) 1)=some (Zii v s):=by
 have:=Zof s;unfold Zii;rw[Zhy,Zk6 (by omega) (by omega)]
 congr 2
 apply propext;omega
def Qf (a s:Int):Bool:=decide (0 < Xu s)&&(decide (0<=a)&&decide (a % Xu s=0))
theorem Zzf (a s:Int):Zge a s=some (Qf a s):=by
 unfold Zge Qf;rw[Zck,ZZa,ZZa];by_cases h1:0 < Xu s
 .by_cases h2:0<=a
  .rw[Zsr (by omega),Zp2 h2];simp[h1,h2]
  .simp[h1,h2]
 .simp[h1]
theorem Zvp (s:Int):0 < Xu s↔(0<=s/\s<=2):=by
 unfold Xu
 repeat' split<;>omega
theorem Zyq (a s:Int):Zgi a s=some (Qf a s):=by
 unfold Zgi Qf;rw[Zi5,ZZa,Zh2,ZZa];by_cases h1:0 < Xu s
 .have h3:=(Zvp s).1 h1
  by_cases h2:0<=a
  .rw[Zsr (by omega),Zp2 h2];simp[h1,h2,h3]
  .simp[h1,h2,h3]
 .have h3:¬(0<=s/\s<=2):=λh=>h1 ((Zvp s).2 h)
  simp[h1,h3]
def Zad (a s b:Int):Int:=if (Qf a s=true/\a < 512)/\Yr b≠0 then (if b=2/\(a+Xu s) % (4*Xu s)=0 then a+Xu s - 4*Xu s else a+Xu s) else -1
theorem Za9 {a s:Int} (h:Qf a s=true):0 < Xu s/\0<=a/\a % Xu s=0:=by
 simpa [Qf,ZZg,ZZl] using h
theorem Zwr (a s b:Int):Zct a s b=some (Zad a s b):=by
 have hb:=Zvu s;unfold Zct Jc Za2 Zad;rw[Zck,ZZa,Zzf,ZZa,Zhy,ZZa,Zco,ZZa];by_cases h1:Qf a s=true
 .obtain⟨h2,h3,h4⟩:=Za9 h1
  by_cases h5:a < 512
  .have h6:0<=a/\a<=511:=by omega
   rw[Zfv (by omega) (by omega),Zfu (by omega) (by omega),Zk6 (by omega) (by omega),Zsr (by omega),Zp2 (by omega)];by_cases h7:Yr b=0
   .simp[h1,h5,h6,h7]
   .by_cases h8:b=2
    .subst h8
     by_cases h9:(a+Xu s) % (4*Xu s)=0<;>simp[h1,h5,h6,h7,h9]
    .simp[h1,h5,h6,h7,h8]
  .have h6:¬(0<=a/\a<=511):=by omega
   simp[h1,h5,h6]
 .simp[h1]
theorem Zw4 (a s b:Int):Ze3 a s b=some (Zad a s b):=by
 have hb:=Zvu s;unfold Ze3 Jf Zad;rw[Zyq,ZZa,Zh2,ZZa,ZZa,Zh8,ZZa];by_cases h1:Qf a s=true
 .obtain⟨h2,h3,h4⟩:=Za9 h1
  by_cases h5:a < 512
  .have h6:¬a≥512:=by omega
   rw[Zfv (by omega) (by omega),Zfu (by omega) (by omega),Zk6 (by omega) (by omega),Zsr (by omega),Zp2 (by omega)];by_cases h7:Yr b=0
   .simp[h1,h5,h6,h7]
   .by_cases h8:b=2
    .subst h8
     by_cases h9:(a+Xu s) % (4*Xu s)=0<;>simp[h1,h5,h6,h7,h9]
    .simp[h1,h5,h6,h7,h8]
  .have h6:a≥512:=by omega
   simp[h1,h5,h6]
 .simp[h1]
theorem Z1q {a s b:Int} (h:0<=Zad a s b):Qf a s=true/\a < 512:=by
 unfold Zad at h;split at h
 .rename_i h1;exact h1.1
 .omega
def Qg (s b:Int):Nat->Int->Option (List Int)
 | 0,_=>some []
 | n+1,a=>if Zad a s b < 0 then none else (Qg s b n (Zad a s b)).map (a::·)
def Wt (a s b:Int):List Int:=(Qg s b (Yr b).toNat a).getD []
theorem Zsk (a s b:Int):Zc9 a s b=some (Wt a s b):=by
 have hb:=Zcw b;unfold Zc9;rw[Zh8,ZZa];have key:∀(n m:Nat) (x:Int) (out:List Int) (k:Nat),n < m->(k:Int)+n=Yr b->out.length=k->Jz a s b m x out (Yr b) k=some (match Qg s b n x with|some l=>out++l|none=>[]):=by
  intro n
  induction n with
  | zero=>
   intro m x out k hm hk ho;obtain⟨m,rfl⟩:∃m',m=m'+1:=⟨m - 1,by omega⟩;show Qn a s b _ x out (Yr b) k=_;unfold Qn;rw[ZZi (by simp;omega)];simp[Qg]
  | succ n ih=>
   intro m x out k hm hk ho;obtain⟨m,rfl⟩:∃m',m=m'+1:=⟨m - 1,by omega⟩;show Qn a s b _ x out (Yr b) k=_;unfold Qn;rw[ZZj (by simp;omega),Zw4,ZZa];simp only[Qg];by_cases h1:Zad x s b < 0
   .rw[ZZj (by simpa using h1),ZZj h1]
   .rw[ZZi (by simpa using h1),ZZi h1,W0 (by simp;omega) (by simp;omega),ZZa,Xr (by omega),ih m _ _ (k+1) (by omega) (by omega) (by simp[ho])]
    cases Qg s b n (Zad x s b)<;>simp
 have:=key (Yr b).toNat FU a [] 0 (by have:=Wj;omega) (by omega) rfl;rw[show ((0:Nat):Int)=0 from rfl] at this;rw[this];unfold Wt;cases Qg s b (Yr b).toNat a<;>simp
theorem Ztn (a s b:Int):Zc7 a s b=some (Wt a s b):=by
 have hb:=Zcw b;unfold Zc7;have key:∀(n m:Nat) (x:Int) (out:List Int),n < m->(out.length:Int)+n=Yr b->Jv a s b m x out=some (match Qg s b n x with|some l=>out++l|none=>[]):=by
  intro n
  induction n with
  | zero=>
   intro m x out hm hk;obtain⟨m,rfl⟩:∃m',m=m'+1:=⟨m - 1,by omega⟩;show Qr a s b _ x out=_;unfold Qr Kf;have h1:¬((out.length:Int) < Yr b):=by omega
   simp[Zco,h1,Qg]
  | succ n ih=>
   intro m x out hm hk;obtain⟨m,rfl⟩:∃m',m=m'+1:=⟨m - 1,by omega⟩;show Qr a s b _ x out=_;unfold Qr Kf;have h1:(out.length:Int) < Yr b:=by omega
   simp only[Zco,Zwr,ZZa,h1,decide_true,if_true,Qg,ZZl];by_cases h2:Zad x s b < 0
   .have h3:¬(Zad x s b≥0):=by omega
    rw[ZZi h3,ZZj h2]
   .have h3:Zad x s b≥0:=by omega
    rw[ZZj h3,ZZi h2,W0 (by simp;omega) (by simp;omega),ZZa,ih m _ _ (by omega) (by simp;omega)];cases Qg s b n (Zad x s b)<;>simp
 have:=key (Yr b).toNat FU a [] (by have:=Wj;omega) (by simp;omega);rw[this];unfold Wt;cases Qg s b (Yr b).toNat a<;>simp
theorem Znj {s b:Int}:∀{n:Nat} {a:Int} {l:List Int},Qg s b n a=some l->l.length=n/\(∀x∈l,Qf x s=true/\x < 512)/\(0 < n->l.head?=some a):=by
 intro n
 induction n with
 | zero=>intro a l h;simp only[Qg,ZZd] at h;subst h;simp
 | succ n ih=>
  intro a l h;simp only[Qg] at h;split at h
  .cases h
  .rename_i h1
   obtain⟨l',h2,rfl⟩:=ZZc.1 h;obtain⟨h3,h4,_⟩:=ih h2;refine⟨by simp[h3],λx hx=>?_,λ_=>rfl⟩;rcases Vap.1 hx with rfl|hx
   .exact Z1q (s:=s) (b:=b) (by omega)
   .exact h4 x hx
theorem Zsq (a s b:Int):Wt a s b=[]\/((Wt a s b).length:Int)=Yr b:=by
 unfold Wt;have hb:=Zcw b;cases h:Qg s b (Yr b).toNat a with
 | none=>exact .inl rfl
 | some l=>
  have:=(Znj h).1;exact .inr (by simp only[Va0];omega)
theorem Zlx {a s b x:Int} (h:x∈Wt a s b):Qf x s=true/\0<=x/\x < 512:=by
 unfold Wt at h;cases h2:Qg s b (Yr b).toNat a with
 | none=>rw[h2] at h;simp at h
 | some l=>
  rw[h2] at h;have:=(Znj h2).2.1 x h;exact⟨this.1,(Za9 this.1).2.1,this.2⟩
theorem Zvt (a s b:Int):(Wt a s b).length<=8:=by
 have:=Zcw b;rcases Zsq a s b with h|h
 .rw[h];simp
 .omega
def Zdr (a s b:Int):Bool:=(Wt a s b).all (λx=>decide (x / 64=atI (Wt a s b) 0 / 64))&&decide (Wt a s b≠[])
theorem Zp4 {x:Int} (h0:0<=x) (h1:x < 512):Zkt x 64=x / 64:=Yaf h0 (by omega) (by omega)
theorem Zzc (a s b:Int):Zf8 a s b=some (Zdr a s b):=by
 unfold Zf8 Zdr;rw[Zsk,ZZa];generalize hA:Wt a s b=l;have hm:∀x∈l,0<=x/\x < 512:=λx hx=>by rw[<-hA] at hx;exact (Zlx hx).2
 have hl:l.length<=8:=by rw[<-hA];exact Zvt a s b
 have key:∀(m k:Nat),k<=l.length->l.length - k < m->Zbu a s b m l (l.length:Int) k=some ((l.drop k).all (λx=>decide (x / 64=atI l 0 / 64))&&decide (l≠[])):=by
  intro m
  induction m with
  | zero=>intro k _ h;omega
  | succ m ih=>
   intro k hk hm2;show Zd7 a s b _ l (l.length:Int) k=_;unfold Zd7;by_cases hc:k < l.length
   .have h0:=hm _ (Vai hc)
    have h1:=hm _ (Vai (by omega:0 < l.length));rw[ZZj (by simpa using hc),Z1 hc,ZZa,show (0:Int)=((0:Nat):Int) from rfl,Z1 (by omega:0 < l.length),ZZa,Zp4 h0.1 h0.2,Zp4 h1.1 h1.2,Zte (by omega:0 < l.length),Vbe hc,Vbc];by_cases hq:(l[k]:Int) / (64:Int)=(l[0]:Int) / (64:Int)
    .rw[ZZi (by simpa using hq),Xr (by omega),ih (k+1) (by omega) (by omega),show (0:Int)=((0:Nat):Int) from rfl,Zte (by omega:0 < l.length),decide_eq_true hq,Vck]
    .rw[ZZj (by simpa using hq),decide_eq_false hq,Vc2,Vc2]
   .rw[ZZi (by simpa using hc),Vbj (by omega)]
    simp[Vbl]
 have:=key FU 0 (Vbb _) (by have:=Wj;omega);simpa using this
theorem Zx1 (a s b:Int):Zf4 a s b=some (Zdr a s b):=by
 unfold Zf4 Zdr;rw[Ztn,ZZa];generalize hA:Wt a s b=l;have hm:∀x∈l,0<=x/\x < 512:=λx hx=>by rw[<-hA] at hx;exact (Zlx hx).2
 have hl:l.length<=8:=by rw[<-hA];exact Zvt a s b
 have key:∀(m k:Nat),k<=l.length->l.length - k < m->Zb2 a s b m l k=some ((l.drop k).all (λx=>decide (x / 64=atI l 0 / 64))&&decide (l≠[])):=by
  intro m
  induction m with
  | zero=>intro k _ h;omega
  | succ m ih=>
   intro k hk hm2;show Zd2 a s b _ l k=_;unfold Zd2;by_cases hc:k < l.length
   .have h0:=hm _ (Vai hc)
    have h1:=hm _ (Vai (by omega:0 < l.length));rw[ZZj (by simpa using hc),Z1 hc,ZZa,show (0:Int)=((0:Nat):Int) from rfl,Z1 (by omega:0 < l.length),ZZa,Zp4 h0.1 h0.2,Zp4 h1.1 h1.2,Zte (by omega:0 < l.length),Vbe hc,Vbc];by_cases hq:(l[k]:Int) / (64:Int)=(l[0]:Int) / (64:Int)
    .rw[ZZi (by simpa using hq),Xr (by omega),ih (k+1) (by omega) (by omega),show (0:Int)=((0:Nat):Int) from rfl,Zte (by omega:0 < l.length),decide_eq_true hq,Vck]
    .rw[ZZj (by simpa using hq),decide_eq_false hq,Vc2,Vc2]
   .rw[ZZi (by simpa using hc),Vbj (by omega)]
    simp[Vbl]
 have:=key FU 0 (Vbb _) (by have:=Wj;omega);simpa using this
def Ws (r:Zj):Bool:=Zdr r.addr r.size r.burst&&(decide ((r.data_.length:Int)=if r.write then Yr r.burst else 0)&&r.data_.all λv=>Zii v r.size)
def Zj.sm (r:Zj):Prop:=r.data_.length < 1048577
theorem Zsb (r:Zj) (hs:r.sm):Zej r=some (Ws r):=by
 unfold Zj.sm at hs;have hf:Xb r.data_ r=some (!r.data_.all λv=>Zii v r.size):=by
  unfold Xb We;refine Z4z r.data_ (by omega) (λv=>Zf9 v r) (λv=>Zii v r.size) (λv _=>?_) _ (λm i=>rfl);unfold Zf9;rw[Z3k];rfl
 unfold Zej Zdx Ws;rw[Zh8,ZZa,Zzc,ZZa,hf,ZZa,Bool.not_not];by_cases h1:Zdr r.addr r.size r.burst=true
 .by_cases h2:r.write=true
  .by_cases h3:(r.data_.length:Int)=Yr r.burst<;>simp[h1,h2,h3]
  .by_cases h3:r.data_=[]<;>simp[h1,h2,h3]
 .by_cases h2:r.write=true<;>simp[h1,h2]
theorem Z3t (r:Zj) (hs:r.sm):Zji r=some (Ws r):=by
 unfold Zj.sm at hs;unfold Zji;rw[Zx1,ZZa];have hb:=Zcw r.burst;have key:∀(m k:Nat),k<=r.data_.length->r.data_.length - k < m->Zd0 r m k=some (decide ((r.data_.length:Int)=if r.write then Yr r.burst else 0)&&(r.data_.drop k).all λv=>Zii v r.size):=by
  intro m
  induction m with
  | zero=>intro k _ h;omega
  | succ m ih=>
   intro k hk hm;show Zfq r _ k=_;unfold Zfq;by_cases hc:k < r.data_.length
   .rw[ZZj (by simpa using hc),Z1 hc,ZZa,Zo2,ZZa,Z7n,ZZa,Vbe hc,Vbc]
    by_cases hq:Zii r.data_[k] r.size=true
    .rw[ZZi (by simp[hq]),Xr (by omega),ih (k+1) (by omega) (by omega)]
     simp[hq]
    .rw[ZZj (by simp[hq])]
     simp[hq]
   .rw[ZZi (by simpa using hc),Vbj (by omega),Zco]
    cases h2:r.write<;>simp only[if_true,if_false,ZZf,ZZa,Vdy,Vdq]<;>generalize decide ((r.data_.length:Int)=0)=x<;>generalize decide ((r.data_.length:Int)=Yr r.burst)=y<;>cases x<;>cases y<;>rfl
 have:=key FU 0 (Vbb _) (by have:=Wj;omega);unfold Ws;by_cases h1:Zdr r.addr r.size r.burst=true
 .rw[ZZi (by simp[h1]),show (0:Int)=((0:Nat):Int) from rfl,this]
  simp[h1]
 .rw[ZZj (by simp[h1])]
  simp[h1]
theorem Zje {r:Zj} (h:Ws r=true):Zdr r.addr r.size r.burst=true/\(r.data_.length:Int)=(if r.write then Yr r.burst else 0)/\∀v∈r.data_,Zii v r.size=true:=by
 simp only[Ws,ZZg,ZZl,ZZk] at h;exact⟨h.1,h.2.1,h.2.2⟩
theorem Zvc {a s b:Int} (h:Zdr a s b=true):((Wt a s b).length:Int)=Yr b/\1<=Yr b:=by
 simp only[Zdr,ZZg,ZZl] at h;rcases Zsq a s b with h1|h1
 .exact absurd h1 h.2
 .have:0 < (Wt a s b).length:=Vbl.2 h.2
  omega
theorem Zs5 {r:Zj} (h:Ws r=true):r.sm:=by
 have:=(Zje h).2.1;have hb:=Zcw r.burst;unfold Zj.sm;split at this<;>omega
theorem Zv5 {l:List Int} (hl:l.length < 1048577) (h:∀x∈l,InR x):Zfs l=some (l.map Zt):=by
 unfold Zfs;refine Zeh (σ:=List ByteArray) (n:=l.length) (by omega) (λk=>(l.take k).map Zt) (B:=λκ st j=>Zdz l κ st j) (L:=λm st j=>Zez l m st j) (λm s i=>rfl) (λk hk κ=>?_) λκ=>?_
 .unfold Zdz
  have h2:(l.take k).length<=k:=by rw[Vct];omega
  rw[ZZj (by simpa using hk),Z1 hk,ZZa,Zl5 (h _ (Vai hk)),ZZa,W0 (by simp;omega) (by simp;omega),ZZa,Vbg hk,Vbt];rfl
 .unfold Zdz
  rw[ZZi (by simp),Vb8]
def Yw (l:List Int):List UInt8:=l.flatMap λx=>[32]++Lib.itoa x
theorem Zsv (l:List Int) (x:Int):Yw (l++[x])=Yw l++[32]++Lib.itoa x:=by
 unfold Yw;rw[Vdj];simp
theorem Zd5:∀{l:List Int},(∀x∈l,InR x)->(Yw l).length<=21*l.length:=by
 intro l
 induction l with
 | nil=>intro _;simp[Yw]
 | cons d l ih=>
  intro h;have h1:=Zp7 (h d Vaa);have h2:=ih λx hx=>h x (Vac _ hx);have e:Yw (d::l)=([32]++Lib.itoa d)++Yw l:=rfl;rw[e,Vas,Vas,Vad];simp only[Vad,Va1];omega
theorem Z4y (w:ByteArray) (l:List Int):Lib.join ((w::l.map Zt).map L8) [32]=L8 w++Yw l:=by
 rw[Vau,Lib.join_cons]
 congr 1
 unfold Lib.joinTail Yw;rw[Vca,Vca,Vc7];rfl
theorem Zyx (a:ByteArray) (ws:List ByteArray) (l:List Int):Lib.join (((a::ws)++l.map Zt).map L8) [32]=Lib.join ((a::ws).map L8) [32]++Yw l:=by
 rw[Vbz,Vau,Lib.join_cons,Vau,Lib.join_cons,List.append_assoc]
 congr 1
 unfold Lib.joinTail Yw;rw[Vbt,Vbt,List.flatten_append]
 congr 1
 rw[Vca,Vca,Vc7];rfl
def Zby (w:List UInt8) (l:List Int):List UInt8:=if l=[] then [] else w++Yw l++[10]
theorem Zm2 {w:ByteArray} {l:List Int} (hw:w.size<=100) (hl:l.length < 1048577) (h:∀x∈l,InR x):Zcp w l=some ⟨(Zby (L8 w) l).toArray⟩:=by
 unfold Zcp Zby;cases l with
 | nil=>rw[ZZj (by simp),ZZj rfl];rfl
 | cons x l=>
  rw[ZZi (by simp;omega),ZZi (by simp),Zv5 hl h];have hn:=Zd5 h;have ej:Lib.join (((x::l).map Zt).map L8) (L8 (Zd [32]))=Lib.itoa x++Yw l:=by
   rw[Zw,Vau,Z4y,Xa]
  have en:Yw (x::l)=[32]++(Lib.itoa x++Yw l):=by unfold Yw;simp
  rw[en] at hn ⊢;have hb:(Lib.itoa x++Yw l).length<=30000000:=by rw[Vas] at hn;simp only[Vad,Va1] at hn hl;omega
  rw[Qw (by rw[Yk];simp;omega),ZZa,ZZa,Zla (by simp only[Vcb];omega) (by rw[ej];omega),ZZa,ej];have z:(⟨(Lib.itoa x++Yw l).toArray⟩:ByteArray).size=(Lib.itoa x++Yw l).length:=by rw[Z5,Xt]
  rw[Qw (by simp only[Wg,Yk,z,Vad,Va1];omega),ZZa,Qw (by simp only[Wg,Yk,z,Vad,Va1];omega),ZZa];refine congrArg some (Kh (Vc1 ?_ (Xt _).symm));rw[Wb,Wb,Wb,Zw,Zw,Xt (Lib.itoa x++Yw l)];simp
theorem Zoh {w:ByteArray} {l:List Int} (hw:w.size<=100) (hl:l.length < 1048577) (h:∀x∈l,InR x):Zdj w l=some ⟨(Zby (L8 w) l).toArray⟩:=by
 have hn:=Zd5 h;unfold Zdj Zby;cases hc:l with
 | nil=>rw[ZZj (by simp),ZZj rfl];rfl
 | cons x r=>
  rw[<-hc,ZZi (by rw[hc];simp;omega),ZZi (by rw[hc];simp)];clear hc;have e0:w++(⟨(Yw (l.take 0)).toArray⟩:ByteArray)=w:=Kh (by rw[Wb,Xt (Yw (l.take 0))];simp[Yw]);have hs:∀k,(⟨(Yw (l.take k)).toArray⟩:ByteArray).size<=30000000:=λk=>by
   have h1:=Zd5 (l:=l.take k) λx hx=>h x (Vba hx);have h2:(l.take k).length<=l.length:=by rw[Vct];omega
   rw[Z5,Xt];omega
  refine Vc1 (congrArg (λv=>Jt w l FU v 0) e0.symm) (Zeh (σ:=ByteArray) (n:=l.length) (by omega) (λk=>w++(⟨(Yw (l.take k)).toArray⟩:ByteArray)) (B:=λκ st j=>Zax w l κ st j) (L:=λm st j=>Jt w l m st j) (λm s i=>rfl) (λk hk κ=>?_) (λκ=>?_))
  .have h1:=hs k
   have h2:=K6 (h _ (Vai hk));unfold Zax;rw[ZZj (by simpa using hk),Qw (by simp only[Wg,Yk,Vad,Va1];omega),ZZa,Z1 hk,ZZa,Zh5 (h _ (Vai hk)),ZZa,Qw (by simp only[Wg,Yk,Vad,Va1];omega),ZZa]
   congr 1
   refine Kh ?_;rw[Wb,Wb,Wb,Wb,Zw,Xt (Yw (l.take k)),Xt (Yw (l.take (k+1))),Vbg hk,Zsv,Xa];simp
  .have h1:=hs l.length
   unfold Zax;rw[ZZi (by simp),Qw (by simp only[Wg,Yk,Vad,Va1];omega),ZZa];refine congrArg some (Kh (Vc1 ?_ (Xt _).symm));rw[Wb,Wb,Zw,Xt (Yw (l.take l.length)),Vb8]
def Jj (s:Int):ByteArray:=if s=0 then Zd [98,121,116,101] else if s=1 then Zd [104,97,108,102] else Zd [119,111,114,100]
def Qo (b:Int):ByteArray:=if b=0 then Zd [111,110,101] else if b=1 then Zd [102,111,117,114] else if b=2 then Zd [119,114,97,112] else Zd [101,105,103,104,116]
theorem Zms (x:Int):(Jj x).size<=5:=by
 unfold Jj
 repeat' split
 all_goals (rw[Yk];simp)
theorem Zkq (x:Int):(Qo x).size<=5:=by
 unfold Qo
 repeat' split
 all_goals (rw[Yk];simp)
theorem Zjq {r:Zj} (h:Ws r=true):idx [Zd [98,121,116,101],Zd [104,97,108,102],Zd [119,111,114,100]] r.size=some (Jj r.size)/\idx [Zd [111,110,101],Zd [102,111,117,114],Zd [119,114,97,112],Zd [101,105,103,104,116]] r.burst=some (Qo r.burst):=by
 have hb:=(Zje h).1;have hl:=Zvc hb;have h2:r.burst=0\/r.burst=1\/r.burst=2\/r.burst=3:=by
  have:=hl.2;unfold Yr at this
  repeat' split at this
  all_goals omega
 have h1:r.size=0\/r.size=1\/r.size=2:=by
  have Zp:Wt r.addr r.size r.burst≠[]:=λe=>by rw[e] at hl;simp at hl;omega
  have hn:(Yr r.burst).toNat≠0:=by omega
  obtain⟨n,hn'⟩:=Nat.exists_eq_succ_of_ne_zero hn;have hx:¬Zad r.addr r.size r.burst < 0:=λe=>Zp (by
   unfold Wt;rw[hn'];unfold Qg;rw[ZZj e];rfl)
  have ha:Qf r.addr r.size=true:=by
   unfold Zad at hx;by_cases hc:(Qf r.addr r.size=true/\r.addr < 512)/\Yr r.burst≠0
   .exact hc.1.1
   .rw[ZZi hc] at hx;omega
  have:=(Za9 ha).1;unfold Xu at this
  repeat' split at this
  all_goals omega
 constructor
 .rcases h1 with e|e|e<;>rw[e]<;>rfl
 .rcases h2 with e|e|e|e<;>rw[e]<;>rfl
def Zga (b:Bool):List UInt8:=if b=true then [32,108,111,99,107] else []
def Q6 (b:Bool):List UInt8:=if b=true then [119,114,105,116,101] else [114,101,97,100]
def Xz (r:Zj):List UInt8:=Q6 r.write++[32]++L8 (Jj r.size)++[32]++L8 (Qo r.burst)++[32]++Lib.itoa r.addr++Zga r.lock++Yw r.data_
def Zj.nums (r:Zj):Prop:=InR r.addr/\∀x∈r.data_,InR x
theorem Zhx {r:Zj} (h:Ws r=true):r.data_.length<=8:=by
 have h1:=(Zje h).2.1;have h2:=Zcw r.burst;split at h1<;>omega
theorem Zk4 {r:Zj} (hd:r.data_.length<=8) (hn:∀x∈r.data_,InR x) {v0:ByteArray} (hv:v0.size<=1000):Kp r FU v0 0=some ⟨(L8 v0++Yw r.data_).toArray⟩:=by
 have e0:v0++(⟨(Yw (r.data_.take 0)).toArray⟩:ByteArray)=v0:=Kh (by rw[Wb,Xt (Yw (r.data_.take 0))];simp[Yw]);have hs:∀k,(⟨(Yw (r.data_.take k)).toArray⟩:ByteArray).size<=300:=λk=>by
  have h1:=Zd5 (l:=r.data_.take k) λx hx=>hn x (Vba hx);have h2:(r.data_.take k).length<=r.data_.length:=by rw[Vct];omega
  rw[Z5,Xt];omega
 refine Vc1 (congrArg (λv=>Kp r FU v 0) e0.symm) (Zeh (σ:=ByteArray) (n:=r.data_.length) (by omega) (λk=>v0++(⟨(Yw (r.data_.take k)).toArray⟩:ByteArray)) (B:=λκ st j=>Zav r κ st j) (L:=λm st j=>Kp r m st j) (λm s i=>rfl) (λk hk κ=>?_) (λκ=>?_))
 .have h1:=hs k
  have h2:=K6 (hn _ (Vai hk));unfold Zav;rw[ZZj (by simpa using hk),Qw (by simp only[Wg,Yk,Vad,Va1];omega),ZZa,Z1 hk,ZZa,Zh5 (hn _ (Vai hk)),ZZa,Qw (by simp only[Wg,Yk,Vad,Va1];omega),ZZa]
  congr 1
  refine Kh ?_;rw[Wb,Wb,Wb,Wb,Zw,Xt (Yw (r.data_.take k)),Xt (Yw (r.data_.take (k+1))),Vbg hk,Zsv,Xa];simp
 .unfold Zav
  rw[ZZi (by simp)];refine congrArg some (Kh (Vc1 ?_ (Xt _).symm));rw[Wb,Xt (Yw (r.data_.take r.data_.length)),Vb8]
theorem Zn6 {r:Zj} (hs:r.sm) (hn:r.nums):Zbj r=some (if Ws r=true then ⟨(Xz r).toArray⟩ else ByteArray.empty):=by
 unfold Zbj;rw[Z3t r hs,ZZa];by_cases h:Ws r=true
 .rw[ZZi (by simp[h]),ZZj h]
  have z1:=Zms r.size;have z2:=Zkq r.burst;have z3:=K6 hn.1;have hd:=Zhx h;have key:∀(v0:ByteArray),v0.size<=5->L8 v0=Q6 r.write->Jo r v0=some ⟨(Xz r).toArray⟩:=λv0 hv hw=>by
   unfold Jo;rw[(Zjq h).1,(Zjq h).2,Zh5 hn.1];simp (disch:=(first|omega|(simp only[Wg,Yk,Vad,Va1];omega))) only[Qw,ZZa];unfold Zb4;cases hk:r.lock with
   | true=>
    rw[ZZj rfl,Zk4 hd hn.2 (by simp only[Wg,Yk,Vad,Va1];omega)];refine congrArg some (Kh (Vc1 (Xt _) (Vc1 ?_ (Xt _).symm)));unfold Xz Zga;rw[hk,ZZj rfl];simp only[Wb,Zw,Xa,hw]
   | false=>
    rw[ZZi (by simp),Zk4 hd hn.2 (by simp only[Wg,Yk,Vad,Va1];omega)];refine congrArg some (Kh (Vc1 (Xt _) (Vc1 ?_ (Xt _).symm)));unfold Xz Zga;rw[hk,ZZi (by simp),Vb2];simp only[Wb,Zw,Xa,hw]
  cases hw:r.write with
  | true=>rw[ZZj rfl];exact key _ (by rw[Yk];simp) (by rw[hw];rfl)
  | false=>rw[ZZi (by simp)];exact key _ (by rw[Yk];simp) (by rw[hw];rfl)
 .rw[ZZj (by simp[h]),ZZi h]
theorem Zoe {r:Zj} (hs:r.sm) (hn:r.nums):Zbd r=some (if Ws r=true then ⟨(Xz r).toArray⟩ else ByteArray.empty):=by
 unfold Zbd;rw[Zsb r hs,ZZa];by_cases h:Ws r=true
 .rw[ZZi (by simp[h]),ZZj h]
  have z1:=Zms r.size;have z2:=Zkq r.burst;have z3:=Zp7 hn.1;have hd:=Zhx h;have z4:=Zd5 hn.2;rw[Z5] at z1 z2;have hw:Zdv r.write=some (Zd (Q6 r.write)):=by
   unfold Zdv Q6;cases r.write<;>rfl
  have zw:(Q6 r.write).length<=5:=by unfold Q6;split<;>simp
  rw[hw,ZZa];unfold Jl Ja;rw[ZZa,(Zjq h).1,ZZa,ZZa,(Zjq h).2,ZZa,Zl5 hn.1,ZZa,Zv5 (by omega) hn.2];cases hk:r.lock with
  | true=>
   have ej:Lib.join (([Zd (Q6 r.write),Jj r.size,Qo r.burst,Zt r.addr,Zd [108,111,99,107]]++r.data_.map Zt).map L8) (L8 (Zd [32]))=Xz r:=by
    rw[Zw,Zyx];unfold Xz Zga;rw[hk,ZZj rfl]
    congr 1
    simp only[Vau,Vbw,Lib.join,List.intercalate,List.intersperse,Vax,List.flatten_nil,Zw,Xa];simp
   have hl:(Xz r).length<=1000:=by
    unfold Xz Zga;rw[hk,ZZj rfl];simp only[Vas,Vad,Va1];omega
   rw[ZZj rfl,W0 (by simp) (by simp),ZZa,ZZa,W0 (by simp;omega) (by simp;omega),ZZa];show (Wp ([Zd (Q6 r.write),Jj r.size,Qo r.burst,Zt r.addr,Zd [108,111,99,107]]++r.data_.map Zt) (Zd [32])).bind _=_;rw[Zla (by simp;omega) (by rw[ej];omega),ej];rfl
  | false=>
   have ej:Lib.join (([Zd (Q6 r.write),Jj r.size,Qo r.burst,Zt r.addr]++r.data_.map Zt).map L8) (L8 (Zd [32]))=Xz r:=by
    rw[Zw,Zyx];unfold Xz Zga;rw[hk,ZZi (by simp),Vb2]
    congr 1
    simp only[Vau,Vbw,Lib.join,List.intercalate,List.intersperse,Vax,List.flatten_nil,Zw,Xa];simp
   have hl:(Xz r).length<=1000:=by
    unfold Xz Zga;rw[hk,ZZi (by simp)];simp only[Vas,Vad,Va1];omega
   rw[ZZi (by simp),ZZa,W0 (by simp;omega) (by simp;omega),ZZa,Zla (by simp;omega) (by rw[ej];omega),ej];rfl
 .rw[ZZj (by simp[h]),ZZi h]
theorem Kw (a b:ByteArray):(a.toList == b.toList)=decide (L8 a=L8 b):=by
 rw[Lib.toList_data,Lib.toList_data];by_cases h:L8 a=L8 b
 .rw[decide_eq_true h];exact beq_iff_eq.2 h
 .rw[decide_eq_false h];exact beq_eq_false_iff_ne.2 h
def Zbw (p:Zf):List UInt8:=[112,111,115,116,32]++Lib.itoa p.at_++[32]++Lib.itoa p.who++[32]++Xz p.req++[10]
def Zf.nums (p:Zf):Prop:=InR p.at_/\InR p.who/\p.req.nums
theorem Z2o (r:Zj):Xz r≠[]:=by
 unfold Xz Q6;split<;>simp
theorem Zpx {r:Zj} (h:Ws r=true) (hn:r.nums):(Xz r).length<=300:=by
 have z1:=Zms r.size;have z2:=Zkq r.burst;have z3:=Zp7 hn.1;have hd:=Zhx h;have z4:=Zd5 hn.2;rw[Z5] at z1 z2;have zw:(Q6 r.write).length<=5:=by unfold Q6;split<;>simp
 have zl:(Zga r.lock).length<=5:=by unfold Zga;split<;>simp
 unfold Xz;simp only[Vas,Vad,Va1];omega
theorem Zyb {r:Zj}:((⟨(Xz r).toArray⟩:ByteArray).toList == ByteArray.empty.toList)=false:=by
 rw[Kw,Xt,Zau];simp[Z2o]
theorem Zvz:(ByteArray.empty.toList == ByteArray.empty.toList)=true:=by rw[Kw];simp
def Zdd (v0:ByteArray) (ps:List Zf):ByteArray:=if ps.all (λp=>Ws p.req)=true then ⟨(L8 v0++ps.flatMap Zbw).toArray⟩ else ByteArray.empty
theorem Zv4 (v0:ByteArray):Zdd v0 []=v0:=by
 unfold Zdd;rw[ZZj (by simp)];exact Kh (by rw[Xt (L8 v0++([]:List Zf).flatMap Zbw)];simp)
theorem Zv3 {p:Zf} {ps:List Zf} (h:¬Ws p.req=true) (v0:ByteArray):Zdd v0 (p::ps)=ByteArray.empty:=by
 unfold Zdd;rw[ZZi (by simp[h])]
theorem Ztq {p:Zf} {ps:List Zf} (h:Ws p.req=true) {v0 v1:ByteArray} (hv:L8 v1=L8 v0++Zbw p):Zdd v0 (p::ps)=Zdd v1 ps:=by
 unfold Zdd;rw[hv,Vbc,h,Vck,Vbh,List.append_assoc]
theorem Zqg {s:Za} (hp:s.posts.length < 1048600) (Zy:∀p∈s.posts,p.nums/\p.req.sm):∀(m k:Nat) (v0:ByteArray),k<=s.posts.length->s.posts.length - k < m->v0.size<=100000000+1000*k->
  Kb s m v0 (k:Int)=some (Zdd v0 (s.posts.drop k)):=by
 intro m
 induction m with
 | zero=>intro k v0 _ h;omega
 | succ m ih=>
  intro k v0 hk hm hv;show Zbn s (Kb s m) v0 (k:Int)=_;unfold Zbn;by_cases hc:k < s.posts.length
  .obtain⟨⟨n1,n2,n3⟩,n4⟩:=Zy _ (Vai hc)
   have z1:=K6 n1;have z2:=K6 n2;rw[ZZj (by simpa using hc),Z1 hc,ZZa,Zn6 n4 n3,ZZa,Vbe hc];by_cases hr:Ws s.posts[k].req=true
   .have z3:=Zpx hr n3
    have z4:(⟨(Xz s.posts[k].req).toArray⟩:ByteArray).size<=300:=by rw[Z5,Xt];exact z3
    rw[ZZj hr,ZZi (by rw[Zyb];simp),Zh5 n1,Zh5 n2];simp (disch:=(first|omega|(simp only[Wg,Yk,Vad,Va1];omega))) only[Qw,ZZa];rw[Xr (by omega),ih (k+1) _ (by omega) (by omega) (by simp only[Wg,Yk,Vad,Va1];omega)];refine congrArg some (Ztq hr ?_).symm;simp only[Wb,Zw,Xa,Xt (Xz s.posts[k].req)];unfold Zbw;simp
   .rw[ZZi hr,ZZj (by rw[Zvz]),Zv3 hr]
  .rw[ZZi (by simpa using hc),Vbj (by omega),Zv4]
theorem Zqh {s:Za} (hp:s.posts.length < 1048600) (Zy:∀p∈s.posts,p.nums/\p.req.sm):∀(m k:Nat) (v0:ByteArray),k<=s.posts.length->s.posts.length - k < m->v0.size<=100000000+1000*k->
  Ke s m v0 (k:Int)=some (Zdd v0 (s.posts.drop k)):=by
 intro m
 induction m with
 | zero=>intro k v0 _ h;omega
 | succ m ih=>
  intro k v0 hk hm hv;show Zbs s (Ke s m) v0 (k:Int)=_;unfold Zbs;by_cases hc:k < s.posts.length
  .obtain⟨⟨n1,n2,n3⟩,n4⟩:=Zy _ (Vai hc)
   have z1:=K6 n1;have z2:=K6 n2;rw[ZZj (by simpa using hc),Z1 hc,ZZa,Zoe n4 n3,ZZa,Vbe hc];by_cases hr:Ws s.posts[k].req=true
   .have z3:=Zpx hr n3
    have z4:(⟨(Xz s.posts[k].req).toArray⟩:ByteArray).size<=300:=by rw[Z5,Xt];exact z3
    rw[ZZj hr,ZZi (by rw[Zyb];simp),Zl5 n1,Zl5 n2];simp (disch:=(first|omega|(simp only[Wg,Yk,Vad,Va1];omega))) only[Qw,ZZa];rw[Xr (by omega),ih (k+1) _ (by omega) (by omega) (by simp only[Wg,Yk,Vad,Va1];omega)];refine congrArg some (Ztq hr ?_).symm;simp only[Wb,Zw,Xa,Xt (Xz s.posts[k].req)];unfold Zbw;simp
   .rw[ZZi hr,ZZj (by rw[Zvz]),Zv3 hr]
  .rw[ZZi (by simpa using hc),Vbj (by omega),Zv4]
structure ScrN (s:Za):Prop where
 few:s.posts.length < 1048600
 waits:s.waits.length < 1048577
 says:s.says.length < 1048577
 posts:∀p∈s.posts,p.nums/\p.req.sm
 wn:∀x∈s.waits,InR x
 sn:∀x∈s.says,InR x
def Ze6 (s:Za):ByteArray:=⟨(Zby [119,97,105,116,115] s.waits).toArray⟩++⟨(Zby [115,97,121,115] s.says).toArray⟩
theorem Zyj {w:List UInt8} (hw:w.length<=10) {l:List Int} (hl:l.length < 1048577) (h:∀x∈l,InR x):(Zby w l).length<=30000000:=by
 have:=Zd5 h;unfold Zby;split
 .simp
 .simp only[Vas,Vad,Va1];omega
theorem Zq4 {s:Za} (h:ScrN s):(⟨(Zby [119,97,105,116,115] s.waits).toArray⟩:ByteArray).size<=30000000/\(⟨(Zby [115,97,121,115] s.says).toArray⟩:ByteArray).size<=30000000:=by
 rw[Z5,Z5,Xt,Xt];exact⟨Zyj (by simp) h.waits h.wn,Zyj (by simp) h.says h.sn⟩
theorem Zja {s:Za} (h:ScrN s):Zdb s=some (Zdd (Ze6 s) s.posts):=by
 have ⟨z1,z2⟩:=Zq4 h;unfold Zdb;rw[Zoh (by rw[Yk];simp) h.waits h.wn,ZZa,Zoh (by rw[Yk];simp) h.says h.sn,ZZa,Zw,Zw,Qw (by omega),ZZa];have:=Zqg h.few h.posts FU 0 (Ze6 s) (Vbb _) (by have:=Wj;have:=h.few;omega) (by unfold Ze6;rw[Wg];omega);exact this
theorem Zjj {s:Za} (h:ScrN s):Zc8 s=some (Zdd (Ze6 s) s.posts):=by
 have ⟨z1,z2⟩:=Zq4 h;unfold Zc8;rw[Zm2 (by rw[Yk];simp) h.waits h.wn,ZZa,Zm2 (by rw[Yk];simp) h.says h.sn,ZZa,Zw,Zw,Qw (by omega),ZZa];have:=Zqh h.few h.posts FU 0 (Ze6 s) (Vbb _) (by have:=Wj;have:=h.few;omega) (by unfold Ze6;rw[Wg];omega);exact this
def Yl (c:UInt8):List UInt8->List (List UInt8)
 | []=>[[]]
 | x::l=>if x=c then []::Yl c l else match Yl c l with
  | []=>[[x]]
  | w::r=>(x::w)::r
theorem Znk (c:UInt8) (l:List UInt8):Yl c l≠[]:=by
 cases l with
 | nil=>simp[Yl]
 | cons x l=>
  unfold Yl;split
  .simp
  .split<;>simp
theorem Zme {c:UInt8}:∀{w:List UInt8},(∀x∈w,x≠c)->∀l,Yl c (w++c::l)=w::Yl c l:=by
 intro w
 induction w with
 | nil=>intro _ l;simp[Yl]
 | cons x w ih=>
  intro h l;rw[Vbz,Yl,ZZi (h x Vaa),ih (λy hy=>h y (Vac _ hy)) l]
theorem Zqr {c:UInt8}:∀{w:List UInt8},(∀x∈w,x≠c)->Yl c w=[w]:=by
 intro w
 induction w with
 | nil=>intro _;rfl
 | cons x w ih=>
  intro h;rw[Yl,ZZi (h x Vaa),ih (λy hy=>h y (Vac _ hy))]
theorem Zj6 {c:UInt8}:∀{ws:List (List UInt8)},ws≠[]->(∀w∈ws,∀x∈w,x≠c)->Yl c (Lib.join ws [c])=ws:=by
 intro ws
 induction ws with
 | nil=>intro h;exact absurd rfl h
 | cons w r ih=>
  intro _ h;have hw:=h w Vaa;cases r with
  | nil=>rw[Lib.join_one,Zqr hw]
  | cons v r=>
   have e:Lib.join (w::v::r) [c]=w++c::Lib.join (v::r) [c]:=by
    rw[Lib.join_cons,Lib.join_cons];simp[Lib.joinTail]
   rw[e,Zme hw,ih (by simp) λu hu=>h u (Vac _ hu)]
theorem Z5b (c:UInt8):∀l:List UInt8,(Yl c l).length<=l.length+1:=by
 intro l
 induction l with
 | nil=>simp[Yl]
 | cons x l ih=>
  unfold Yl;split
  .simp;omega
  .split
   .simp
   .rename_i w r h
    rw[h] at ih;simp at ih ⊢;omega
theorem Z3v {c:UInt8}:∀{l w:List UInt8},w∈Yl c l->w.length<=l.length:=by
 intro l
 induction l with
 | nil=>intro w h;simp[Yl] at h;simp[h]
 | cons x l ih=>
  intro w h;unfold Yl at h;split at h
  .rcases Vap.1 h with rfl|h
   .simp
   .have:=ih h;simp;omega
  .split at h
   .rename_i hs;exact absurd hs (Znk c l)
   .rename_i v r hs
    rcases Vap.1 h with rfl|h
    .have:=ih (w:=v) (by rw[hs];exact Vaa);simp;omega
    .have:=ih (w:=w) (by rw[hs];exact Vac _ h);simp;omega
theorem Z4c (c:UInt8):∀s:List UInt8,Lib.splitK [c] 0 (s.count c) s=Yl c s:=by
 intro s
 induction s with
 | nil=>rfl
 | cons b l ih=>
  by_cases hb:b=c
  .subst hb
   rw[List.count_cons_self,Lib.splitK];have hi:Lib.index (b::l) [b]=0:=by
    unfold Lib.index;rw[ZZj (by simp[List.isPrefixOf])]
   rw[hi,ZZi (by decide),Yl,ZZj rfl];show _::Lib.splitK [b] 0 (l.count b) l=_;rw[ih];rfl
  .have hc:(b::l).count c=l.count c:=List.count_cons_of_ne hb
   have hi:Lib.index (b::l) [c]=if (Lib.index l [c] == -1)=true then -1 else Lib.index l [c]+1:=by
    rw[Lib.index,ZZi (by simp[List.isPrefixOf];exactλh=>hb h.symm)]
   rw[hc,Yl,ZZi hb,<-ih];cases hk:l.count c with
   | zero=>rfl
   | succ k=>
    have Zp:¬(Lib.index l [c] == -1)=true:=λh=>by
     have h0:Lib.count l [c]=0:=Lib.count_miss (beq_iff_eq.1 h);rw[Lib.count_one] at h0;omega
    have hg:=Lib.index_ge l [c];have hne2:Lib.index l [c]≠-1:=λh=>Zp (beq_iff_eq.2 h);rw[ZZi Zp] at hi;rw[Lib.splitK,Lib.splitK,hi,ZZi Zp,ZZi (by rw[beq_iff_eq];omega)];have e1:(Lib.index l [c]+1).toNat=(Lib.index l [c]).toNat+1:=by omega
    rw[e1];rfl
theorem Zfx {x:ByteArray} (c:UInt8) (h:x.size < 4294967281):∃ws,Qh x (Zd [c])=some ws/\ws.map L8=Yl c (L8 x):=by
 unfold Qh;rw[ZZj ⟨h,by rw[Yk];simp⟩];refine⟨_,rfl,?_⟩;have:=Lib.splitB_data (Zd [c]) 0 (Lib.countB x (Zd [c])) x;have e:Lib.countB x (Zd [c])=(L8 x).count c:=Lib.count_one c (L8 x);rw[e] at this ⊢;exact this.trans (Z4c c (L8 x))
theorem Zhz {x:ByteArray} {k:Nat} (h:k < (L8 x).length):atS x (k:Int)=some ((L8 x)[k].toNat:Int):=by
 have h2:k < x.size:=by rw[Z5];exact h
 unfold atS;rw[ZZj (by omega),Vdt];have:x[k]?=some (L8 x)[k]:=by
  rw[getElem?_pos x k h2];rfl
 rw[this];rfl
theorem Zfp {x:ByteArray} {a b:Nat} (h1:a<=b) (h2:b<=(L8 x).length):∃y,Zkg x (a:Int) (b:Int)=some y/\L8 y=((L8 x).drop a).take (b - a):=by
 unfold Zkg;rw[ZZj ⟨by omega,by omega,by rw[Z5,Vdt];exact h2⟩];exact⟨_,rfl,Lib.extract_data x _ _⟩
theorem Zft {x:ByteArray} (c:UInt8) (h:x.size < 4294967281):∃ws,Qk x (c.toNat:Int)=some ws/\ws.map L8=Yl c (L8 x):=by
 rw[Z5] at h;have key:∀(m i a:Nat) (out:List ByteArray),i<=(L8 x).length->(L8 x).length - i < m->a<=i->out.length<=a->(∀y∈((L8 x).drop a).take (i - a),y≠c)->
   ∃ws,Zba x (c.toNat:Int) m out (a:Int) (i:Int)=some ws/\ws.map L8=out.map L8++Yl c ((L8 x).drop a):=by
  intro m
  induction m with
  | zero=>intro i a out _ hm;omega
  | succ m ih=>
   intro i a out hi hm ha ho hn;show ∃ws,Zfr x (c.toNat:Int) (Zba x (c.toNat:Int) m) out (a:Int) (i:Int)=some ws/\_;unfold Zfr;by_cases hc:i < (L8 x).length
   .rw[ZZj (by rw[Z5];simpa using hc),Zhz hc,ZZa]
    have Z8z:(L8 x).drop a=((L8 x).drop a).take (i - a)++(L8 x)[i]::(L8 x).drop (i+1):=by
     have e:=(Vc9 (i - a) ((L8 x).drop a)).symm;rw[List.drop_drop,show a+(i - a)=i by omega,Vbe hc] at e;exact e
    by_cases hx:(L8 x)[i]=c
    .obtain⟨y,hy1,hy2⟩:=Zfp (x:=x) ha hi
     rw[ZZj (by rw[hx];simp),hy1,ZZa,W0 (by simp;omega) (by simp;omega),ZZa,Xr (by omega)];obtain⟨ws,h1,h2⟩:=ih (i+1) (i+1) (out++[y]) (by omega) (by omega) (by omega) (by simp;omega) (by simp);refine⟨ws,h1,?_⟩;rw[hx] at Z8z;rw[h2,Z8z,Zme hn,Vbt,List.append_assoc,Vau,Vbw,hy2];rfl
    .rw[ZZi (by
      rw[ZZl];intro he;exact hx (UInt8.toNat_inj.1 (by omega))),Xr (by omega)]
     refine ih (i+1) a out (by omega) (by omega) (by omega) ho λy hy=>?_;rw[show i+1 - a=(i - a)+1 by omega,List.take_add_one] at hy;rcases Vak.1 hy with hy|hy
     .exact hn y hy
     .rw[Vaw,show a+(i - a)=i by omega,Vab hc] at hy
      simp at hy;rw[hy];exact hx
   .have hil:i=(L8 x).length:=by omega
    obtain⟨y,hy1,hy2⟩:=Zfp (x:=x) (a:=a) (b:=(L8 x).length) (by omega) (Vaf _);rw[ZZi (by rw[Z5];simpa using hc),show ((x.size:Nat):Int)=((L8 x).length:Int) by rw[Z5],hy1,ZZa,W0 (by simp;omega) (by simp;omega),ZZa];refine⟨_,rfl,?_⟩;have ht:((L8 x).drop a).take ((L8 x).length - a)=(L8 x).drop a:=by rw[Va7 (by simp)]
    rw[hil,ht] at hn;rw[Vbt,Vau,Vbw,hy2,ht,Zqr hn]
 obtain⟨ws,h1,h2⟩:=key FU 0 0 [] (Vbb _) (by have:=Wj;omega) (Vaf _) (Vaf _) (by simp);exact⟨ws,h1,by simpa using h2⟩
def W7 (c:UInt8):Prop:=48<=c.toNat/\c.toNat<=57
instance (c:UInt8):Decidable (W7 c):=inferInstanceAs (Decidable (_/\_))
theorem Zhi {d:Nat} (h:d < 10):(UInt8.ofNat (48+d)).toNat=48+d:=by
 rw[UInt8.toNat_ofNat'];omega
theorem Zxr:∀(k u:Nat),u < 10^(k+1)->∀c∈Lib.decDigits u,W7 c:=by
 intro k
 induction k with
 | zero=>
  intro u hu c hc;rw[Lib.decDigits,dif_pos (by omega)] at hc;rw[List.mem_singleton] at hc;subst hc;have:=Zhi (d:=u) (by omega);unfold W7;omega
 | succ k ih=>
  intro u hu c hc;rw[Lib.decDigits] at hc;split at hc
  .rw[List.mem_singleton] at hc;subst hc
   have:=Zhi (d:=u) (by omega);unfold W7;omega
  .rcases Vak.1 hc with hc|hc
   .exact ih (u / 10) (by rw[Vc0] at hu;omega) c hc
   .rw[List.mem_singleton] at hc;subst hc
    have:=Zhi (d:=u % 10) (by omega);unfold W7;omega
theorem Zy5 (u:Nat):u < 10^(u+1):=by
 have h1:u < 2^u:=Nat.lt_two_pow_self;have h2:2^u<=10^u:=Nat.pow_le_pow_left (by omega) u;have h3:10^u<=10^(u+1):=Vde (by omega) (by omega);omega
theorem Zcv {u:Nat} {c:UInt8} (h:c∈Lib.decDigits u):W7 c:=Zxr u u (Zy5 u) c h
theorem Zok (u:Nat):Lib.decDigits u≠[]:=by
 rw[Lib.decDigits];split<;>simp
theorem Z2q {v:Int} {c:UInt8} (h:c∈Lib.itoa v):c=45\/W7 c:=by
 unfold Lib.itoa at h;split at h
 .rcases Vap.1 h with h|h
  .exact .inl h
  .exact .inr (Zcv h)
 .exact .inr (Zcv h)
theorem Zl6 {v:Int} {c b:UInt8} (h:c∈Lib.itoa v) (hb:b.toNat=32\/b.toNat=58\/b.toNat=10):c≠b:=by
 rintro rfl;rcases Z2q h with rfl|h
 .rcases hb with hb|hb|hb<;>cases hb
 .unfold W7 at h;omega
theorem Z89 (v:Int):Lib.itoa v≠[]:=by
 unfold Lib.itoa;split
 .simp
 .exact Zok _
def dgF (a:Nat) (c:UInt8):Nat:=if W7 c then a*10+(c.toNat - 48) else a
theorem Z1r:∀(k u:Nat),u < 10^(k+1)->(Lib.decDigits u).foldl dgF 0=u:=by
 intro k
 induction k with
 | zero=>
  intro u hu;have e:=Zhi (d:=u) (by omega);rw[Lib.decDigits,dif_pos (by omega)];simp only[Vbo,Vdk,dgF];rw[ZZj (by unfold W7;omega)];omega
 | succ k ih=>
  intro u hu;rw[Lib.decDigits];split
  .have e:=Zhi (d:=u) (by omega)
   simp only[Vbo,Vdk,dgF];rw[ZZj (by unfold W7;omega)];omega
  .have e:=Zhi (d:=u % 10) (by omega)
   rw[Vc4,ih (u / 10) (by rw[Vc0] at hu;omega)];simp only[Vbo,Vdk,dgF];rw[ZZj (by unfold W7;omega)];omega
theorem Zdo (u:Nat):(Lib.decDigits u).foldl dgF 0=u:=Z1r u u (Zy5 u)
theorem Zou (v:Int):(Lib.itoa v).foldl dgF 0=v.natAbs:=by
 unfold Lib.itoa;split
 .rw[Vbo]
  show (Lib.decDigits v.natAbs).foldl dgF (if W7 45 then _ else 0)=_;rw[ZZi (by unfold W7;decide),Zdo]
 .rw[Zdo];omega
theorem Z45:∀(l1 l2:List UInt8) (a:Nat),Lib.parseUint10 a (l1++l2)=match Lib.parseUint10 a l1 with|.ok u=>Lib.parseUint10 u l2|Lib.NumEnd.syntax=>Lib.NumEnd.syntax|.range=>.range:=by
 intro l1
 induction l1 with
 | nil=>intro l2 a;rfl
 | cons c r ih=>
  intro l2 a;simp only[Vbz,Lib.parseUint10];split
  .split
   .rfl
   .split
    .rfl
    .exact ih l2 _
  .rfl
theorem Zx3:∀(k u:Nat),u < 10^(k+1)->u < 18446744073709551616->Lib.parseUint10 0 (Lib.decDigits u)=.ok u:=by
 intro k
 induction k with
 | zero=>
  intro u hu hb;have e:=Zhi (d:=u) (by omega);rw[Lib.decDigits,dif_pos (by omega)];simp only[Lib.parseUint10];rw[ZZj (by omega),ZZi (by omega),ZZi (by omega)]
  congr 1;omega
 | succ k ih=>
  intro u hu hb;rw[Lib.decDigits];split
  .have e:=Zhi (d:=u) (by omega)
   simp only[Lib.parseUint10];rw[ZZj (by omega),ZZi (by omega),ZZi (by omega)]
   congr 1;omega
  .have e:=Zhi (d:=u % 10) (by omega)
   rw[Z45,ih (u / 10) (by rw[Vc0] at hu;omega) (by omega)];simp only[Lib.parseUint10];rw[ZZj (by omega),ZZi (by omega),ZZi (by omega)]
   congr 1;omega
theorem Z46 {v:Int} (h:InR v):Lib.atoiAll (Lib.itoa v)=.ok v:=by
 obtain⟨h1,h2⟩:=h;have hp:∀u:Nat,u < 18446744073709551616->Lib.parseMag (Lib.decDigits u)=.ok u:=λu hu=>by
  unfold Lib.parseMag;rw[ZZi (Zok u),Zx3 u u (Zy5 u) hu]
 unfold Lib.itoa;split
 .rename_i hn
  rw[Lib.atoiAll_minus,hp _ (by omega)];unfold Lib.signed;simp only;rw[ZZi (by omega)]
  congr 1;omega
 .rename_i hn
  obtain⟨c,l,hl⟩:∃c l,Lib.decDigits v.toNat=c::l:=by
   cases h:Lib.decDigits v.toNat with
   | nil=>exact absurd h (Zok _)
   | cons c l=>exact⟨c,l,rfl⟩
  have hd:W7 c:=Zcv (u:=v.toNat) (by rw[hl];exact Vaa);unfold W7 at hd;rw[hl,Lib.atoiAll_plain c l (by omega) (by omega),<-hl,hp _ (by omega)];unfold Lib.signless;simp only;rw[ZZi (by omega)]
  congr 1;omega
theorem Zjf {k u:Nat} (h:u < 10^(k+1)):(Lib.decDigits u).length<=k+1:=Zia k u h
theorem Ztb {v d:Int} (h:-1000000000000000000 < v/\v < 1000000000000000000) (hd:18<=d):Q7 (Zt v) d=some (v,true):=by
 have hr:InR v:=⟨by omega,by omega⟩;have hz:=K6 hr;unfold Q7;have e:(Zt v).data.toList=Lib.itoa v:=rfl;rw[ZZj (by omega),e,Z46 hr];simp only;rw[ZZj];refine⟨trivial,?_⟩;unfold Lib.trimPrefix;by_cases hn:v < 0
 .have e2:Lib.itoa v=45::Lib.decDigits v.natAbs:=by unfold Lib.itoa;rw[ZZj hn]
  have:=Zjf (k:=17) (u:=v.natAbs) (by omega);rw[e2,ZZj (by simp[Lib.hasPrefix,List.isPrefixOf])];simp;omega
 .have e2:Lib.itoa v=Lib.decDigits v.toNat:=by unfold Lib.itoa;rw[ZZi hn]
  have:=Zjf (k:=17) (u:=v.toNat) (by omega);rw[e2];split
  .simp;omega
  .omega
theorem Zzh {x:ByteArray} {d:Int} (h:x.size<=281474976710656):∃r,Q7 x d=some r/\(r.2=true->L8 x=Lib.itoa r.1/\InR r.1):=by
 unfold Q7;rw[ZZj h]
 match hq:Lib.atoiAll x.data.toList with
 | .ok v=>
  simp only;by_cases hc:Lib.itoa v=x.data.toList/\((Lib.trimPrefix x.data.toList [45]).length:Int)<=d
  .rw[ZZj hc]
   refine⟨_,rfl,λ_=>⟨hc.1.symm,?_⟩⟩;unfold Lib.atoiAll at hq;split at hq
   .cases hq
   .simp only at hq
    split at hq
    .cases hq
    .cases hq
    .split at hq
     .cases hq
     .rename_i h1
      split at hq
      .cases hq
      .rename_i h2
       injection hq with hq;split at hq
       .rename_i h3
        have:=Vcg λhh=>h2 ⟨h3,hh⟩;exact⟨by show _<=v;omega,by show v<=_;omega⟩
       .rename_i h3
        have:=Vdv λhh=>h1 ⟨h3,hh⟩;exact⟨by show _<=v;omega,by show v<=_;omega⟩
  .rw[ZZi hc];exact⟨_,rfl,λh=>by cases h⟩
 | Lib.NumEnd.syntax=>exact⟨_,rfl,λh=>by cases h⟩
 | .range=>exact⟨_,rfl,λh=>by cases h⟩
theorem dgF_lt:∀(l:List UInt8) (a k:Nat),a < 10^k->l.foldl dgF a < 10^(k+l.length):=by
 intro l
 induction l with
 | nil=>intro a k h;exact h
 | cons c l ih=>
  intro a k h;rw[Vbo,Vad,show k+(l.length+1)=(k+1)+l.length by omega];refine ih _ _ ?_;unfold dgF;rw[Vc0];split
  .rename_i hd;unfold W7 at hd;omega
  .omega
theorem Zgl {l:List Int} (hl:l.length < 1048600) (h:∀v∈l,-1000000000000000000 < v/\v < 1000000000000000000):J5 (l.map Zt)=some (l,true):=by
 unfold J5;refine Zeh (σ:=List Int) (n:=l.length) (by omega) (λk=>l.take k) (B:=λκ st j=>Qv (l.map Zt) κ st j) (L:=λm st j=>Ko (l.map Zt) m st j) (λm s i=>rfl) (λk hk κ=>?_) λκ=>?_
 .unfold Qv
  rw[ZZj (by simpa using hk),Z1 (by simpa using hk),ZZa,Vdz,Ztb (h _ (Vai hk)) (by omega),ZZa,ZZi (by simp),W0 (by simp;omega) (by simp;omega),ZZa,Vbg hk]
 .unfold Qv
  rw[ZZi (by simp),Vb8]
theorem Q5 {x w:ByteArray} {c:UInt8} {ws:List ByteArray} (h:ws.map L8=Yl c (L8 x)) (hw:w∈ws):w.size<=x.size:=by
 rw[Z5,Z5];refine Z3v (c:=c) ?_;rw[<-h];exact List.mem_map_of_mem hw
theorem Zas {x:ByteArray} {c:UInt8} {ws:List ByteArray} (h:ws.map L8=Yl c (L8 x)):ws.length<=x.size+1/\1<=ws.length:=by
 have h1:=congrArg List.length h;rw[Vcb] at h1;have h2:=Z5b c (L8 x);rw[<-Z5] at h2;have h3:0 < (Yl c (L8 x)).length:=Vbl.2 (Znk c (L8 x));omega
theorem X1 {α:Type} {xs:List α} {a b:Nat} (h1:a<=b) (h2:b<=xs.length):Y6 xs (a:Int) (b:Int)=some ((xs.drop a).take (b - a)):=by
 unfold Y6;rw[ZZj ⟨by omega,by omega,by omega⟩];rfl
def Wr (v:Int):Prop:=-1000000000000000000 < v/\v < 1000000000000000000
theorem Wr.r {v:Int} (h:Wr v):InR v:=⟨by have:=h.1;omega,by have:=h.2;omega⟩
theorem Zie {l:List UInt8} (hl:l.length<=18):l.foldl dgF 0 < 1000000000000000000:=by
 have:=dgF_lt l 0 0 (by simp);have h2:10^(0+l.length)<=10^18:=Vde (by omega) (by omega);omega
def Zi8 (l:List UInt8):Bool:=l.all λc=>decide (W7 c)
theorem Zx9 {l:List UInt8} (h:∀c∈l,W7 c):Zi8 l=true:=by
 unfold Zi8;rw[ZZk];exactλc hc=>decide_eq_true (h c hc)
theorem dgW2 {c:UInt8} (h:W7 c) {n:Int} (h0:0<=n) (h1:n < 100000000000000000):Zot (Zq (Zdh n 10) (w64 (c.toNat:Int))) 48=n*10+((c.toNat - 48:Nat):Int):=by
 unfold W7 at h;have e:w64 (c.toNat:Int)=(c.toNat:Int):=Z49 (by omega) (by omega);have h:48<=(c.toNat:Int)/\(c.toNat:Int)<=57:=by omega
 rw[e,Zfv (by omega) (by omega),Zfu (by omega) (by omega),Zk6 (by omega) (by omega)];omega
theorem Zmu (x0 w:ByteArray) (sg:Int) (hw:(L8 w).length<=18):∀(m i n:Nat),i<=(L8 w).length->(L8 w).length - i < m->n < 10^i->
  Qj x0 m w sg (n:Int) (i:Int)=some (if Zi8 ((L8 w).drop i)=true then Zdh sg (((L8 w).drop i).foldl dgF n:Nat) else 0):=by
 have Yx:=Z5 w;intro m
 induction m with
 | zero=>intro i n _ h;omega
 | succ m ih=>
  intro i n hi hm hn;show Zak x0 (Qj x0 m) w sg (n:Int) (i:Int)=_;unfold Zak;by_cases hc:i < (L8 w).length
  .have hb:10^i<=10^17:=Vde (by omega) (by omega)
   rw[ZZj (decide_eq_true (by omega)),Zhz hc,ZZa,Vbe hc];have bad:∀b:Bool,b=true->¬W7 (L8 w)[i]->Ql x0 (Qj x0 m) w sg (n:Int) (i:Int) b=some (if Zi8 ((L8 w)[i]::(L8 w).drop (i+1))=true then Zdh sg (((L8 w)[i]::(L8 w).drop (i+1)).foldl dgF n:Nat) else 0):=λb hb hd=>by
    unfold Ql;rw[ZZj hb,ZZi (by unfold Zi8;rw[Vbc,decide_eq_false hd];simp)]
   by_cases h1:(L8 w)[i].toNat < 48
   .rw[ZZj (decide_eq_true (by omega))]
    exact bad true rfl (by unfold W7;omega)
   .rw[ZZi (by rw[ZZl];omega)]
    by_cases h2:(L8 w)[i].toNat > 57
    .rw[ZZj (decide_eq_true (by omega))]
     exact bad true rfl (by unfold W7;omega)
    .have hd:W7 (L8 w)[i]:=by unfold W7;omega
     rw[ZZi (by rw[ZZl];omega),show decide ((w.size:Int) > 18)=false from decide_eq_false (by omega)];unfold Ql;rw[ZZi (by simp),Zhz hc,ZZa,dgW2 hd (by omega) (by omega),Xr (by omega)];have e:(n:Int)*10+(((L8 w)[i].toNat - 48:Nat):Int)=((dgF n (L8 w)[i]:Nat):Int):=by
      unfold dgF;rw[ZZj hd];omega
     have Zs:dgF n (L8 w)[i] < 10^(i+1):=by
      unfold dgF;rw[ZZj hd,Vc0];unfold W7 at hd;omega
     rw[e,ih (i+1) _ (by omega) (by omega) Zs]
     congr 1
     have e2:Zi8 ((L8 w)[i]::(L8 w).drop (i+1))=Zi8 ((L8 w).drop (i+1)):=by unfold Zi8;rw[Vbc,decide_eq_true hd,Vck]
     rw[e2,Vbo]
  .rw[ZZi (by rw[ZZl];omega),Vbj (by omega)]
   rfl
theorem Zxu (x0 w:ByteArray) (sg:Int) (hs:sg=1\/sg=-1):∃n,Kx x0 w sg=some n/\Wr n:=by
 unfold Kx;by_cases hl:(L8 w).length<=18
 .have:=Zmu x0 w sg hl FU 0 0 (Vbb _) (by have:=Wj;omega) (by simp)
  refine⟨_,this,?_⟩;have hb:=Zie (l:=(L8 w).drop 0) (by simpa using hl);split
  .rcases hs with rfl|rfl
   .rw[Zfv (by omega) (by omega)];constructor<;>omega
   .rw[Zfv (by omega) (by omega)];constructor<;>omega
  .constructor<;>omega
 .refine⟨0,?_,by constructor<;>omega⟩
  have Yx:=Z5 w;show Zak x0 (Qj x0 18446744073709551615) w sg 0 0=some 0;unfold Zak;rw[ZZj (decide_eq_true (by omega)),show (0:Int)=((0:Nat):Int) from rfl,Zhz (by omega),ZZa];have j:Ql x0 (Qj x0 18446744073709551615) w sg ((0:Nat):Int) ((0:Nat):Int) true=some 0:=rfl;split
  .exact j
  .split
   .exact j
   .rw[show decide ((w.size:Int) > 18)=true from decide_eq_true (by omega)]
    exact j
theorem Zkp (x:ByteArray):∃n,Zar x=some n/\Wr n:=by
 have Yx:=Z5 x;unfold Zar;have pos:∃n,W4 x false=some n/\Wr n:=by
  unfold W4;rw[ZZi (by simp)];exact Zxu x x 1 (.inl rfl)
 by_cases h0:0 < (L8 x).length
 .rw[ZZj (decide_eq_true (by omega)),show (0:Int)=((0:Nat):Int) from rfl,Zhz h0,ZZa]
  cases hb:decide ((((L8 x)[0].toNat:Nat):Int)=45) with
  | false=>exact pos
  | true=>
   unfold W4;obtain⟨y,e,_⟩:=Zfp (x:=x) (a:=1) (b:=(L8 x).length) (by omega) (Vaf _);rw[ZZj rfl,show ((x.size:Nat):Int)=((L8 x).length:Int) by omega,show (1:Int)=((1:Nat):Int) from rfl,e,ZZa];exact Zxu x y (-1) (.inr rfl)
 .rw[ZZi (by rw[ZZl];omega)]
  exact pos
theorem Zn0 {v:Int} (h:Wr v):Zar (Zt v)=some v:=by
 obtain⟨h1,h2⟩:=h;have Yx:=Z5 (Zt v);rw[Xa] at Yx;have ha:=Zou v;have Zp:0 < (Lib.itoa v).length:=Vbl.2 (Z89 v);unfold Zar;rw[ZZj (decide_eq_true (by omega)),show (0:Int)=((0:Nat):Int) from rfl,Zhz (by rw[Xa];exact Zp),ZZa];by_cases hn:v < 0
 .have e2:Lib.itoa v=45::Lib.decDigits v.natAbs:=by unfold Lib.itoa;rw[ZZj hn]
  have h45:(L8 (Zt v))[0]'(by rw[Xa,e2];simp)=45:=by simp[Xa,e2]
  rw[h45];show W4 (Zt v) true=_;unfold W4;obtain⟨y,e,hy⟩:=Zfp (x:=Zt v) (a:=1) (b:=(Lib.itoa v).length) (by omega) (by rw[Xa];exact Vaf _);have hyd:L8 y=Lib.decDigits v.natAbs:=by
   rw[hy,Xa,e2,Vdf,Vcr,Va7 (by simp)]
  have hl:=Zjf (k:=17) (u:=v.natAbs) (by omega);have e:Zkg (Zt v) 1 ((Lib.itoa v).length:Int)=some y:=e;rw[ZZj rfl,show (((Zt v).size:Nat):Int)=((Lib.itoa v).length:Int) by omega,e,ZZa];unfold Kx;have:=Zmu (Zt v) y (-1) (by rw[hyd];omega) FU 0 0 (Vbb _) (by rw[hyd];have:=Wj;omega) (by simp);rw[show ((0:Nat):Int)=0 from rfl] at this;rw[this,Vcr,hyd,ZZj (Zx9 λc hc=>Zcv hc),Zdo,Zfv (by omega) (by omega)]
  congr 1;omega
 .have e2:Lib.itoa v=Lib.decDigits v.toNat:=by unfold Lib.itoa;rw[ZZi hn]
  have hl:=Zjf (k:=17) (u:=v.toNat) (by omega);have hd:W7 ((L8 (Zt v))[0]'(by rw[Xa];exact Zp)):=by
   refine Zcv (u:=v.toNat) ?_;rw[<-e2];exact Vai Zp
  rw[show decide ((((L8 (Zt v))[0]'(by rw[Xa];exact Zp)).toNat:Int)=45)=false by unfold W7 at hd;exact decide_eq_false (by omega)];unfold W4;rw[ZZi (by simp)];unfold Kx;have:=Zmu (Zt v) (Zt v) 1 (by rw[Xa,e2];omega) FU 0 0 (Vbb _) (by rw[Xa,e2];have:=Wj;omega) (by simp);rw[show ((0:Nat):Int)=0 from rfl] at this;rw[this,Vcr,Xa,ZZj (Zx9 λc hc=>Zcv (u:=v.toNat) (by rw[<-e2];exact hc)),Zou,Zfv (by omega) (by omega)]
  congr 1;omega
theorem Zm5 {ws:List ByteArray} (hl:ws.length < 1048600):∃r,J3 ws=some r/\r.length=ws.length/\∀v∈r,Wr v:=by
 have key:∀(m k:Nat) (out:List Int),k<=ws.length->ws.length - k < m->out.length=k->(∀v∈out,Wr v)->∃r,Kl ws m out (k:Int)=some r/\r.length=ws.length/\∀v∈r,Wr v:=by
  intro m
  induction m with
  | zero=>intro k out _ h;omega
  | succ m ih=>
   intro k out hk hm ho hv;show ∃r,Qy ws (Kl ws m) out (k:Int)=some r/\_;unfold Qy;by_cases hc:k < ws.length
   .obtain⟨n,h1,h2⟩:=Zkp ws[k]
    rw[ZZj (by simpa using hc),Z1 hc,ZZa,h1,ZZa,W0 (by simp;omega) (by simp;omega),ZZa,Xr (by omega)];refine ih (k+1) _ (by omega) (by omega) (by simp;omega) λv hv2=>?_;rcases Vak.1 hv2 with hv2|hv2
    .exact hv v hv2
    .rw[List.mem_singleton.1 hv2];exact h2
   .rw[ZZi (by simpa using hc)]
    exact⟨_,rfl,by omega,hv⟩
 exact key FU 0 [] (Vbb _) (by have:=Wj;omega) rfl (by simp)
theorem Zkn {l:List Int} (hl:l.length < 1048600) (h:∀v∈l,Wr v):J3 (l.map Zt)=some l:=by
 unfold J3;refine Zeh (σ:=List Int) (n:=l.length) (by omega) (λk=>l.take k) (B:=λκ st j=>Qy (l.map Zt) κ st j) (L:=λm st j=>Kl (l.map Zt) m st j) (λm s i=>rfl) (λk hk κ=>?_) λκ=>?_
 .unfold Qy
  rw[ZZj (by simpa using hk),Z1 (by simpa using hk),ZZa,Vdz,Zn0 (h _ (Vai hk)),ZZa,W0 (by simp;omega) (by simp;omega),ZZa,Vbg hk]
 .unfold Qy
  rw[ZZi (by simp),Vb8]
theorem Zk1 {x:ByteArray} (h:x.size<=281474976710656):∃r,Q7 x 18=some r/\Wr r.1:=by
 obtain⟨r,h1,_⟩:=Zzh (d:=18) h;refine⟨r,h1,?_⟩;unfold Q7 at h1;rw[ZZj h] at h1;have z:Wr 0:=by constructor<;>omega
 split at h1
 .rename_i v hv
  split at h1
  .rename_i hc
   injection h1 with h1;rw[<-h1];show Wr v;have hf:=Zou v;have hl:=hc.2;rw[<-hc.1] at hl;unfold Lib.trimPrefix at hl;by_cases hn:v < 0
   .have e2:Lib.itoa v=45::Lib.decDigits v.natAbs:=by unfold Lib.itoa;rw[ZZj hn]
    rw[e2,ZZj (by simp[Lib.hasPrefix,List.isPrefixOf])] at hl;have hb:=Zie (l:=Lib.decDigits v.natAbs) (by simp at hl;omega);rw[Zdo] at hb;constructor<;>omega
   .have e2:Lib.itoa v=Lib.decDigits v.toNat:=by unfold Lib.itoa;rw[ZZi hn]
    have hnp:Lib.hasPrefix (Lib.itoa v) [45]=false:=by
     rw[e2];cases hd:Lib.decDigits v.toNat with
     | nil=>rfl
     | cons c l=>
      have:=Zcv (u:=v.toNat) (c:=c) (by rw[hd];exact Vaa);unfold W7 at this;have e:(45:UInt8).toNat=45:=rfl;have Zp:¬(45:UInt8)=c:=by rintro rfl;omega
      simp[Lib.hasPrefix,List.isPrefixOf,Zp]
    rw[ZZi (by rw[hnp];simp),e2] at hl;have hb:=Zie (l:=Lib.decDigits v.toNat) (by omega);rw[Zdo] at hb;constructor<;>omega
  .injection h1 with h1;rw[<-h1];exact z
 .injection h1 with h1;rw[<-h1];exact z
theorem Zfa {ws:List ByteArray} (hl:ws.length < 1048600) (hz:∀w∈ws,w.size<=281474976710656):∃r,J5 ws=some r/\(∀v∈r.1,Wr v)/\r.1.length<=ws.length/\(r.2=true->r.1.length=ws.length):=by
 have key:∀(m k:Nat) (out:List Int),k<=ws.length->ws.length - k < m->out.length=k->(∀v∈out,Wr v)->∃r,Ko ws m out (k:Int)=some r/\(∀v∈r.1,Wr v)/\r.1.length<=ws.length/\(r.2=true->r.1.length=ws.length):=by
  intro m
  induction m with
  | zero=>intro k out _ h;omega
  | succ m ih=>
   intro k out hk hm ho hv;show ∃r,Qv ws (Ko ws m) out (k:Int)=some r/\_;unfold Qv;by_cases hc:k < ws.length
   .obtain⟨r,h1,h2⟩:=Zk1 (hz _ (Vai hc))
    rw[ZZj (by simpa using hc),Z1 hc,ZZa,h1,ZZa];by_cases hr:r.2=true
    .rw[ZZi (by simp[hr]),W0 (by simp;omega) (by simp;omega),ZZa,Xr (by omega)]
     refine ih (k+1) _ (by omega) (by omega) (by simp;omega) λv hv2=>?_;rcases Vak.1 hv2 with hv2|hv2
     .exact hv v hv2
     .rw[List.mem_singleton.1 hv2];exact h2
    .rw[ZZj (by simp[hr])]
     exact⟨_,rfl,by simp,by simp,λh=>by cases h⟩
   .rw[ZZi (by simpa using hc)]
    exact⟨_,rfl,hv,by show out.length<=_;omega,λ_=>by show out.length=_;omega⟩
 exact key FU 0 [] (Vbb _) (by have:=Wj;omega) rfl (by simp)
theorem Zoq (xs:List ByteArray) (y:ByteArray) (hl:xs.length < 1000):∃n,Jx xs y=some n:=by
 have key:∀(m k:Nat),k<=xs.length->xs.length - k < m->∃n,Jb xs y m (k:Int)=some n:=by
  intro m
  induction m with
  | zero=>intro k _ h;omega
  | succ m ih=>
   intro k hk hm;show ∃n,Kn xs y (Jb xs y m) (k:Int)=some n;unfold Kn;by_cases hc:k < xs.length
   .rw[ZZj (by simpa using hc),Z1 hc,ZZa,Xr (by omega)]
    split
    .exact⟨_,rfl⟩
    .exact ih (k+1) (by omega) (by omega)
   .rw[ZZi (by simpa using hc)];exact⟨_,rfl⟩
 exact key FU 0 (Vbb _) (by have:=Wj;omega)
theorem Zqi (xs:List ByteArray) (y:ByteArray) (hl:xs.length < 1000):∃n,Yn xs y=some n:=by
 have key:∀(m k:Nat),k<=xs.length->xs.length - k < m->∃n,Yz xs y m (k:Int)=some n:=by
  intro m
  induction m with
  | zero=>intro k _ h;omega
  | succ m ih=>
   intro k hk hm;show ∃n,Yv xs y (Yz xs y m) (k:Int)=some n;unfold Yv;by_cases hc:k < xs.length
   .rw[ZZj (by simpa using hc),Z1 hc,ZZa,Xr (by omega)]
    split
    .exact⟨_,rfl⟩
    .exact ih (k+1) (by omega) (by omega)
   .rw[ZZi (by simpa using hc)];exact⟨_,rfl⟩
 exact key FU 0 (Vbb _) (by have:=Wj;omega)
theorem Zay (xs:List ByteArray) (j:Nat) (hj:j < xs.length) (hl:xs.length < 1000) (hn:∀i (hi:i < j),L8 (xs[i]'(by omega))≠L8 xs[j]):Jx xs xs[j]=some (j:Int):=by
 unfold Jx;refine Zmj (n:=j) (by omega) (B:=λκ i=>Kn xs xs[j] κ i) (L:=λm i=>Jb xs xs[j] m i) (λm i=>rfl) (λk hk κ=>?_) λκ=>?_
 .unfold Kn
  rw[ZZj (by simp;omega),Z1 (by omega),ZZa,ZZi (by rw[Kw];simpa using hn k hk)]
 .unfold Kn
  rw[ZZj (by simpa using hj),Z1 hj,ZZa,ZZj (beq_self_eq_true _)]
theorem Za3 (xs:List ByteArray) (j:Nat) (hj:j < xs.length) (hl:xs.length < 1000) (hn:∀i (hi:i < j),L8 (xs[i]'(by omega))≠L8 xs[j]):Yn xs xs[j]=some (j:Int):=by
 unfold Yn;refine Zmj (n:=j) (by omega) (B:=λκ i=>Yv xs xs[j] κ i) (L:=λm i=>Yz xs xs[j] m i) (λm i=>rfl) (λk hk κ=>?_) λκ=>?_
 .unfold Yv
  rw[ZZj (by simp;omega),Z1 (by omega),ZZa,ZZi (by rw[Kw];simpa using λh=>hn k hk h.symm)]
 .unfold Yv
  rw[ZZj (by simpa using hj),Z1 hj,ZZa,ZZj (beq_self_eq_true _)]
abbrev W3:List ByteArray:=[Zd [98,121,116,101],Zd [104,97,108,102],Zd [119,111,114,100]]
abbrev Xj:List ByteArray:=[Zd [111,110,101],Zd [102,111,117,114],Zd [119,114,97,112],Zd [101,105,103,104,116]]
theorem Zio {r:Zj} (h:Ws r=true):(r.size=0\/r.size=1\/r.size=2)/\(r.burst=0\/r.burst=1\/r.burst=2\/r.burst=3)/\(0<=r.addr/\r.addr < 512)/\∀v∈r.data_,0<=v/\v < 4294967296:=by
 obtain⟨hb,_,hd⟩:=Zje h;have hl:=Zvc hb;have h2:r.burst=0\/r.burst=1\/r.burst=2\/r.burst=3:=by
  have:=hl.2;unfold Yr at this
  repeat' split at this
  all_goals omega
 have ha:r.addr∈Wt r.addr r.size r.burst:=by
  have Zp:Wt r.addr r.size r.burst≠[]:=λe=>by rw[e] at hl;simp at hl;omega
  unfold Wt at Zp ⊢;cases hq:Qg r.size r.burst (Yr r.burst).toNat r.addr with
  | none=>rw[hq] at Zp;simp at Zp
  | some l=>
   have:=(Znj hq).2.2 (by omega);simp only[Va0];cases l with
   | nil=>simp at this
   | cons a l=>simp at this;subst this;exact Vaa
 obtain⟨h3,h4⟩:=Zlx ha;have h1:r.size=0\/r.size=1\/r.size=2:=by
  have:=(Za9 h3).1;unfold Xu at this
  repeat' split at this
  all_goals omega
 refine⟨h1,h2,h4,λv hv=>?_⟩;have:=hd v hv;simp only[Zii,ZZl] at this;have:=Zof r.size;omega
theorem Zvv {r:Zj} (h:Ws r=true):Jx W3 (Jj r.size)=some r.size/\Yn W3 (Jj r.size)=some r.size:=by
 rcases (Zio h).1 with e|e|e<;>rw[e]
 .exact⟨Zay W3 0 (by decide) (by decide) (λi hi=>by omega),Za3 W3 0 (by decide) (by decide) (λi hi=>by omega)⟩
 .have hn:∀i (hi:i < 1),L8 (W3[i]'(by show i < 3;omega))≠L8 (W3[1]'(by decide)):=λi hi=>by
   obtain rfl:i=0:=by omega
   simp[Zw]
  exact⟨Zay W3 1 (by decide) (by decide) hn,Za3 W3 1 (by decide) (by decide) hn⟩
 .have hn:∀i (hi:i < 2),L8 (W3[i]'(by show i < 3;omega))≠L8 (W3[2]'(by decide)):=λi hi=>by
   obtain rfl|rfl:i=0\/i=1:=by omega
   .simp[Zw]
   .simp[Zw]
  exact⟨Zay W3 2 (by decide) (by decide) hn,Za3 W3 2 (by decide) (by decide) hn⟩
theorem Ztl {r:Zj} (h:Ws r=true):Jx Xj (Qo r.burst)=some r.burst/\Yn Xj (Qo r.burst)=some r.burst:=by
 rcases (Zio h).2.1 with e|e|e|e<;>rw[e]
 .exact⟨Zay Xj 0 (by decide) (by decide) (λi hi=>by omega),Za3 Xj 0 (by decide) (by decide) (λi hi=>by omega)⟩
 .have hn:∀i (hi:i < 1),L8 (Xj[i]'(by show i < 4;omega))≠L8 (Xj[1]'(by decide)):=λi hi=>by
   obtain rfl:i=0:=by omega
   simp[Zw]
  exact⟨Zay Xj 1 (by decide) (by decide) hn,Za3 Xj 1 (by decide) (by decide) hn⟩
 .have hn:∀i (hi:i < 2),L8 (Xj[i]'(by show i < 4;omega))≠L8 (Xj[2]'(by decide)):=λi hi=>by
   obtain rfl|rfl:i=0\/i=1:=by omega
   .simp[Zw]
   .simp[Zw]
  exact⟨Zay Xj 2 (by decide) (by decide) hn,Za3 Xj 2 (by decide) (by decide) hn⟩
 .have hn:∀i (hi:i < 3),L8 (Xj[i]'(by show i < 4;omega))≠L8 (Xj[3]'(by decide)):=λi hi=>by
   obtain rfl|rfl|rfl:i=0\/i=1\/i=2:=by omega
   .simp[Zw]
   .simp[Zw]
   .simp[Zw]
  exact⟨Zay Xj 3 (by decide) (by decide) hn,Za3 Xj 3 (by decide) (by decide) hn⟩
def Zdw (r:Zj):List (List UInt8):=[Q6 r.write,L8 (Jj r.size),L8 (Qo r.burst),Lib.itoa r.addr]++((if r.lock=true then [[108,111,99,107]] else [])++r.data_.map Lib.itoa)
theorem Zoi (r:Zj):Xz r=Lib.join (Zdw r) [32]:=by
 unfold Xz Zdw Zga Yw;simp only[Vbz,Vcx];rw[Lib.join_cons];unfold Lib.joinTail;cases r.lock<;>simp[Vc7,Vca,Vb4]
theorem Zxl (l:ByteArray) (h:l∈W3\/l∈Xj):∀y∈L8 l,y≠32/\y≠10:=by
 have h:l∈W3++Xj:=Vak.2 h;simp only[W3,Xj,Vbz,Vcx,Vap,Vc8,or_false] at h;rcases h with rfl|rfl|rfl|rfl|rfl|rfl|rfl<;>decide
theorem Z5t (s:Int):Jj s∈W3:=by
                           unfold Jj;repeat' split
                           all_goals simp[W3]
theorem Z3y (s:Int):Qo s∈Xj:=by
                            unfold Qo;repeat' split
                            all_goals simp[Xj]
theorem Z5r (b:Bool):∀y∈Q6 b,y≠32/\y≠10:=by cases b<;>decide
theorem Zve {r:Zj}:∀w∈Zdw r,∀y∈w,y≠32/\y≠10:=by
 intro w hw y hy;have hi:∀v:Int,y∈Lib.itoa v->y≠32/\y≠10:=λv h=>⟨Zl6 h (.inl rfl),Zl6 h (.inr (.inr rfl))⟩;unfold Zdw at hw;rcases Vak.1 hw with hw|hw
 .simp only[Vap,Vc8,or_false] at hw
  rcases hw with rfl|rfl|rfl|rfl
  .exact Z5r _ y hy
  .exact Zxl _ (.inl (Z5t _)) y hy
  .exact Zxl _ (.inr (Z3y _)) y hy
  .exact hi _ hy
 .rcases Vak.1 hw with hw|hw
  .split at hw
   .rw[List.mem_singleton.1 hw] at hy
    have:∀y∈([108,111,99,107]:List UInt8),y≠32/\y≠10:=by decide
    exact this y hy
   .simp at hw
  .obtain⟨v,_,rfl⟩:=Va4.1 hw
   exact hi _ hy
theorem Zvi {x:ByteArray} {r:Zj} (h:L8 x=Xz r):Yl 32 (L8 x)=Zdw r:=by
 rw[h,Zoi,Zj6 (by simp[Zdw]) λw hw y hy=>(Zve w hw y hy).1]
def Zta (x:ByteArray) (r:Zj):Prop:=Ws r=true/\L8 x=Xz r
def Ze2 (x:ByteArray) (q:Zj×Bool):Prop:=q=(Zj.z0,false)\/(q.2=true/\Zta x q.1)
theorem Zna {x:ByteArray} {r:Zj} (hx:L8 x≠[]) (hs:r.sm) (hn:r.nums):∃q,((Zbj r).bind λr1=>if (!(r1.toList == x.toList))=true then some (Zj.z0,false) else some (r,true))=some q/\Ze2 x q/\(Zta x r->q=(r,true)):=by
 rw[Zn6 hs hn,ZZa];by_cases h:Ws r=true
 .rw[ZZj h,Kw,Xt (Xz r)]
  by_cases he:Xz r=L8 x
  .rw[ZZi (by simp[he])]
   exact⟨_,rfl,.inr ⟨rfl,h,he.symm⟩,λ_=>rfl⟩
  .rw[ZZj (by simp[he])]
   exact⟨_,rfl,.inl rfl,λhh=>absurd hh.2.symm he⟩
 .rw[ZZi h,Kw,Zau,decide_eq_false (λe=>hx e.symm),ZZj (by simp)]
  exact⟨_,rfl,.inl rfl,λhh=>absurd hh.1 h⟩
theorem Zm8 {x:ByteArray} {r:Zj} (hs:r.sm) (hn:r.nums):∃q,((Zej r).bind λr2=>if (!r2)=true then some (Zj.z0,false) else ((Zbd r).bind λr3=>if (!(r3.toList == x.toList))=true then some (Zj.z0,false) else some (r,true)))=some q/\Ze2 x q/\(Zta x r->q=(r,true)):=by
 rw[Zsb r hs,Zoe hs hn,ZZa,ZZa];by_cases h:Ws r=true
 .rw[ZZi (by simp[h]),ZZj h,Kw,Xt (Xz r)]
  by_cases he:Xz r=L8 x
  .rw[ZZi (by simp[he])]
   exact⟨_,rfl,.inr ⟨rfl,h,he.symm⟩,λ_=>rfl⟩
  .rw[ZZj (by simp[he])]
   exact⟨_,rfl,.inl rfl,λhh=>absurd hh.2.symm he⟩
 .rw[ZZj (by simp[h])]
  exact⟨_,rfl,.inl rfl,λhh=>absurd hh.1 h⟩
theorem Zlg {x:ByteArray} (hx:L8 x≠[]) {ws:List ByteArray} (hw:ws.length < 1048577) {r:Zj} (hr:InR r.addr) (hd:r.data_=[]):∃q,Xx x FU r ws 0=some q/\Ze2 x q:=by
 have key:∀(m k:Nat) (d:List Int),k<=ws.length->ws.length - k < m->d.length=k->(∀v∈d,InR v)->∃q,Xx x m {r with data_:=d} ws (k:Int)=some q/\Ze2 x q:=by
  intro m
  induction m with
  | zero=>intro k d _ h;omega
  | succ m ih=>
   intro k d hk hm ho hv;show ∃q,X3 x (Xx x m) {r with data_:=d} ws (k:Int)=some q/\_;unfold X3;by_cases hc:k < ws.length
   .obtain⟨n,h1,h2⟩:=Zkp ws[k]
    rw[ZZj (by simpa using hc),Z1 hc,ZZa,h1,ZZa,W0 (by simp;omega) (by simp;omega),ZZa,Xr (by omega)];refine ih (k+1) _ (by omega) (by omega) (by simp;omega) λv hv2=>?_;rcases Vak.1 hv2 with hv2|hv2
    .exact hv v hv2
    .rw[List.mem_singleton.1 hv2];exact h2.r
   .rw[ZZi (by simpa using hc)]
    obtain⟨q,e1,e2,_⟩:=Zna (x:=x) (r:={r with data_:=d}) hx (by unfold Zj.sm;show d.length < _;omega) ⟨hr,hv⟩;exact⟨q,e1,e2⟩
 have:=key FU 0 [] (Vbb _) (by have:=Wj;omega) rfl (by simp);have e:({r with data_:=[]}:Zj)=r:=by cases r;simp at hd;simp[hd]
 rw[e] at this;exact this
theorem Zky {x:ByteArray} {c:UInt8} {ws:List ByteArray} (h:ws.map L8=Yl c (L8 x)) (h2:2<=ws.length):L8 x≠[]:=λe=>by
 rw[e] at h;have:=congrArg List.length h;simp[Yl] at this;omega
theorem Zsi {x:ByteArray} (hx:x.size<=1048576):∃q,Zbf x=some q/\Ze2 x q:=by
 obtain⟨ws,h1,h2⟩:=Zft (x:=x) 32 (by omega);have h1:Qk x 32=some ws:=h1;have Z3:=Zas h2;unfold Zbf;rw[h1,ZZa];by_cases hl:ws.length < 4
 .rw[ZZj (by simp;omega)]
  exact⟨_,rfl,.inl rfl⟩
 .have Zp:=Zky h2 (by omega)
  obtain⟨q3,e3⟩:=Zoq W3 ws[1] (by decide);obtain⟨q4,e4⟩:=Zoq Xj ws[2] (by decide);obtain⟨q5,e5,b5⟩:=Zkp ws[3];have i0:idx ws 0=some ws[0]:=Z1 (k:=0) (by omega);have i1:idx ws 1=some ws[1]:=Z1 (k:=1) (by omega);have i2:idx ws 2=some ws[2]:=Z1 (k:=2) (by omega);have i3:idx ws 3=some ws[3]:=Z1 (k:=3) (by omega);have s4:Y6 ws 4 (ws.length:Int)=some ((ws.drop 4).take (ws.length - 4)):=X1 (a:=4) (by omega) (Vaf _);rw[ZZi (by simp;omega),i0,ZZa,i1,ZZa,e3,ZZa,i2,ZZa,e4,ZZa,i3,ZZa,e5,ZZa,s4,ZZa];generalize hv:(ws.drop 4).take (ws.length - 4)=vs;have hvl:vs.length < 1048577:=by rw[<-hv];simp;omega
  have j2:∀(b:Bool),(b=true->1<=vs.length)->∃q,Wy x (Zj.mk (ws[0].toList == (Zd [119,114,105,116,101]).toList) q5 q3 q4 false []) vs b=some q/\Ze2 x q:=λb hb=>by
   unfold Wy Kq;split
   .rename_i hbt
    have s1:Y6 vs 1 (vs.length:Int)=some ((vs.drop 1).take (vs.length - 1)):=X1 (a:=1) (hb hbt) (Vaf _);rw[s1,ZZa];exact Zlg Zp (by simp;omega) (by exact b5.r) rfl
   .exact Zlg Zp hvl (by exact b5.r) rfl
  by_cases h0:0 < vs.length
  .have i0:idx vs 0=some vs[0]:=Z1 (k:=0) h0
   rw[ZZj (by simpa using h0),i0,ZZa];exact j2 _ λ_=>h0
  .rw[ZZi (by simpa using h0)]
   exact j2 false λh=>by cases h
theorem Zs2 {x:ByteArray} (hx:x.size<=1048576):∃q,Zbe x=some q/\Ze2 x q:=by
 obtain⟨ws,h1,h2⟩:=Zfx (x:=x) 32 (by omega);have Z3:=Zas h2;have hz:∀w∈ws,w.size<=281474976710656:=λw hw=>by have:=Q5 h2 hw;omega
 unfold Zbe;rw[h1,ZZa];by_cases hl:ws.length < 4
 .rw[ZZj (by simp;omega)]
  exact⟨_,rfl,.inl rfl⟩
 .obtain⟨q3,e3⟩:=Zqi W3 ws[1] (by decide)
  obtain⟨q4,e4⟩:=Zqi Xj ws[2] (by decide);have i0:idx ws 0=some ws[0]:=Z1 (k:=0) (by omega);have i1:idx ws 1=some ws[1]:=Z1 (k:=1) (by omega);have i2:idx ws 2=some ws[2]:=Z1 (k:=2) (by omega);have i3:idx ws 3=some ws[3]:=Z1 (k:=3) (by omega);have s4:Y6 ws 4 (ws.length:Int)=some ((ws.drop 4).take (ws.length - 4)):=X1 (a:=4) (by omega) (Vaf _);have f1:Jl=some W3:=rfl;have f2:Ja=some Xj:=rfl;rw[ZZi (by simp;omega),i0,ZZa,f1,ZZa,i1,ZZa,e3,ZZa,f2,ZZa,i2,ZZa,e4,ZZa,s4,ZZa];generalize hv:(ws.drop 4).take (ws.length - 4)=vs;have hvl:vs.length < 1048577:=by rw[<-hv];simp;omega
  have hvz:∀w∈vs,w.size<=281474976710656:=λw hw=>hz w (by rw[<-hv] at hw;exact Va9 (Vba hw));have j2:∀(r:Zj) (us:List ByteArray),us.length < 1048577->(∀w∈us,w.size<=281474976710656)->∃q,Qe x r ws us=some q/\Ze2 x q:=λr us hu huz=>by
   unfold Qe;obtain⟨n,n1,n2⟩:=Zk1 (hz ws[3] (Vai (by omega)));obtain⟨d,d1,d2,d3,d4⟩:=Zfa (ws:=us) (by omega) huz;rw[i3,ZZa,n1,ZZa,d1,ZZa];split
   .exact⟨_,rfl,.inl rfl⟩
   .split
    .exact⟨_,rfl,.inl rfl⟩
    .obtain⟨q,e1,e2,_⟩:=Zm8 (x:=x) (r:={r with addr:=n.1,data_:=d.1}) (by unfold Zj.sm;show d.1.length < _;omega) ⟨n2.r,λv hv=>(d2 v hv).r⟩
     exact⟨q,e1,e2⟩
  have j1:∀(b:Bool) (r:Zj),(b=true->1<=vs.length)->∃q,Ww x r ws vs b=some q/\Ze2 x q:=λb r hb=>by
   unfold Ww;split
   .rename_i hbt
    have s1:Y6 vs 1 (vs.length:Int)=some ((vs.drop 1).take (vs.length - 1)):=X1 (a:=1) (hb hbt) (Vaf _);rw[s1,ZZa];exact j2 _ _ (by simp;omega) λw hw=>hvz w (Va9 (Vba hw))
   .exact j2 _ _ hvl hvz
  by_cases h0:0 < vs.length
  .have i0:idx vs 0=some vs[0]:=Z1 (k:=0) h0
   rw[ZZj (by simpa using h0),i0,ZZa];exact j1 _ _ λ_=>h0
  .rw[ZZi (by simpa using h0)]
   exact j1 false _ λh=>by cases h
theorem Zob {ws:List ByteArray} {r:Zj} (h:ws.map L8=Zdw r):ws=[Zd (Q6 r.write),Jj r.size,Qo r.burst,Zt r.addr]++((if r.lock=true then [Zd [108,111,99,107]] else [])++r.data_.map Zt):=by
 have inj:∀{a b:List ByteArray},a.map L8=b.map L8->a=b:=by
  intro a
  induction a with
  | nil=>intro b h;cases b with
   | nil=>rfl
   | cons y b=>simp at h
  | cons x a ih=>intro b h;cases b with
   | nil=>simp at h
   | cons y b=>
    simp only[Vau,Vcd] at h ⊢;exact⟨Kh h.1,ih h.2⟩
 refine inj (h.trans ?_);unfold Zdw;cases r.lock<;>simp[Zw,Xa,Vca,Vb4]
theorem Zs7 {d:List Int} (h:d≠[]):∃a l,d.map Zt=Zt a::l/\L8 (Zt a)≠[108,111,99,107]:=by
 cases d with
 | nil=>exact absurd rfl h
 | cons a l=>
  refine⟨a,l.map Zt,rfl,λe=>?_⟩;rw[Xa] at e;have:=Z2q (v:=a) (c:=108) (by rw[e];exact Vaa);rcases this with h|h
  .cases h
  .unfold W7 at h
   have e:(108:UInt8).toNat=108:=rfl;omega
theorem Zx5 (b:Bool):((Zd (Q6 b)).toList == (Zd [119,114,105,116,101]).toList)=b:=by
 rw[Kw,Zw,Zw];cases b<;>rfl
theorem Ztm {x:ByteArray} {r:Zj} (h:Zta x r) (hx:x.size<=1048576):Zbf x=some (r,true):=by
 obtain⟨hg,ht⟩:=h;obtain⟨ws,h1,h2⟩:=Zft (x:=x) 32 (by omega);have h1:Qk x 32=some ws:=h1;rw[Zvi ht] at h2;have hws:=Zob h2;obtain⟨v1,v2,v3,v4⟩:=Zio hg;have Zvb:=Zhx hg;have Zp:L8 x≠[]:=by rw[ht];exact Z2o r
 have Z4u:r.nums:=⟨⟨by omega,by omega⟩,λv hv=>by have:=v4 v hv;exact⟨by omega,by omega⟩⟩;have loop:∀us:List ByteArray,us=r.data_.map Zt->Xx x FU {r with data_:=[]} us 0=some (r,true):=λus hu=>by
  subst hu;refine Zeh (σ:=Zj) (n:=r.data_.length) (by omega) (λk=>({r with data_:=r.data_.take k}:Zj)) (B:=λκ st j=>X3 x (λa _ c=>κ a c) st (r.data_.map Zt) j) (L:=λm st j=>Xx x m st (r.data_.map Zt) j) (λm s i=>?_) (λk hk κ=>?_) λκ=>?_
  .show X3 x (Xx x m) s (r.data_.map Zt) i=X3 x (λa _ c=>Xx x m a (r.data_.map Zt) c) s (r.data_.map Zt) i
   unfold X3;rfl
  .unfold X3
   have hb:=v4 _ (Vai hk);rw[ZZj (by simpa using hk),Z1 (by simpa using hk),ZZa,Vdz,Zn0 ⟨by omega,by omega⟩,ZZa,W0 (by simp;omega) (by simp;omega),ZZa,Vbg hk]
  .unfold X3
   have e:({r with data_:=r.data_.take r.data_.length}:Zj)=r:=by rw[Vb8]
   rw[ZZi (by simp),e];obtain⟨q,e1,_,e3⟩:=Zna (x:=x) (r:=r) Zp (Zs5 hg) Z4u;rw[e1,e3 ⟨hg,ht⟩]
 have s4:Y6 ws 4 (ws.length:Int)=some ((ws.drop 4).take (ws.length - 4)):=X1 (a:=4) (by rw[hws];simp) (Vaf _);have hd:(ws.drop 4).take (ws.length - 4)=(if r.lock=true then [Zd [108,111,99,107]] else [])++r.data_.map Zt:=by
  rw[Va7 (by simp),hws];rfl
 rw[hd] at s4;have i0:idx ws 0=some (Zd (Q6 r.write)):=by rw[hws];rfl
 have i1:idx ws 1=some (Jj r.size):=by rw[hws];rfl
 have i2:idx ws 2=some (Qo r.burst):=by rw[hws];rfl
 have i3:idx ws 3=some (Zt r.addr):=by rw[hws];rfl
 have f1:=(Zvv hg).1;have f2:=(Ztl hg).1;unfold Zbf;rw[h1,ZZa,ZZi (by rw[hws];simp;omega),i0,ZZa,i1,ZZa,f1,ZZa,i2,ZZa,f2,ZZa,i3,ZZa,Zn0 ⟨by omega,by omega⟩,ZZa,s4,ZZa,Zx5];cases hk:r.lock with
 | true=>
  have e:({Zj.mk r.write r.addr r.size r.burst false [] with lock:=true}:Zj)={r with data_:=[]}:=by cases r;simp at hk;simp[hk]
  have j0:idx ((if true=true then [Zd [108,111,99,107]] else [])++r.data_.map Zt) 0=some (Zd [108,111,99,107]):=rfl;have js:Y6 ((if true=true then [Zd [108,111,99,107]] else [])++r.data_.map Zt) 1 (((if true=true then [Zd [108,111,99,107]] else [])++r.data_.map Zt).length:Int)=some (r.data_.map Zt):=by
   have:=X1 (xs:=(if true=true then [Zd [108,111,99,107]] else [])++r.data_.map Zt) (a:=1) (b:=((if true=true then [Zd [108,111,99,107]] else [])++r.data_.map Zt).length) (by simp) (Vaf _);refine this.trans (congrArg some ?_);rw[Va7 (by simp)];rfl
  rw[ZZj (by simp),j0,ZZa,show ((Zd [108,111,99,107]).toList == (Zd [108,111,99,107]).toList)=true from beq_self_eq_true _];unfold Wy Kq;rw[ZZj rfl,js,ZZa,e];exact loop _ rfl
 | false=>
  have e:(Zj.mk r.write r.addr r.size r.burst false []:Zj)={r with data_:=[]}:=by cases r;simp at hk;simp[hk]
  rw[ZZi (show ¬false=true by simp),Vcx,e];have fin:Wy x {r with data_:=[]} (r.data_.map Zt) false=some (r,true):=by
   unfold Wy Kq;rw[ZZi (by simp)];exact loop _ rfl
  by_cases h0:r.data_=[]
  .rw[ZZi (by rw[h0];simp)]
   exact fin
  .obtain⟨a,l,e1,e2⟩:=Zs7 h0
   have j0:idx (r.data_.map Zt) 0=some (Zt a):=by rw[e1];rfl
   rw[ZZj (by have:=Vbl.2 h0;simp;omega),j0,ZZa,show ((Zt a).toList == (Zd [108,111,99,107]).toList)=false by rw[Kw,Zw];exact decide_eq_false e2];exact fin
theorem Zsn {x:ByteArray} {r:Zj} (h:Zta x r) (hx:x.size<=1048576):Zbe x=some (r,true):=by
 obtain⟨hg,ht⟩:=h;obtain⟨ws,h1,h2⟩:=Zfx (x:=x) 32 (by omega);rw[Zvi ht] at h2;have hws:=Zob h2;obtain⟨v1,v2,v3,v4⟩:=Zio hg;have Zvb:=Zhx hg;have Z4u:r.nums:=⟨⟨by omega,by omega⟩,λv hv=>by have:=v4 v hv;exact⟨by omega,by omega⟩⟩;have i3:idx ws 3=some (Zt r.addr):=by rw[hws];rfl
 have j2:∀r0:Zj,r0.write=r.write->r0.size=r.size->r0.burst=r.burst->r0.lock=r.lock->Qe x r0 ws (r.data_.map Zt)=some (r,true):=λr0 e1 e2 e3 e4=>by
  unfold Qe;have e:({r0 with addr:=r.addr,data_:=r.data_}:Zj)=r:=by cases r0;cases r;simp at e1 e2 e3 e4;simp[e1,e2,e3,e4]
  rw[i3,ZZa,Ztb ⟨by omega,by omega⟩ (by omega),ZZa,Zgl (by omega) (λv hv=>by have:=v4 v hv;omega),ZZa,ZZi (by simp),ZZi (by simp),e];obtain⟨q,q1,_,q3⟩:=Zm8 (x:=x) (r:=r) (Zs5 hg) Z4u;rw[q1,q3 ⟨hg,ht⟩]
 have s4:Y6 ws 4 (ws.length:Int)=some ((ws.drop 4).take (ws.length - 4)):=X1 (a:=4) (by rw[hws];simp) (Vaf _);have hd:(ws.drop 4).take (ws.length - 4)=(if r.lock=true then [Zd [108,111,99,107]] else [])++r.data_.map Zt:=by
  rw[Va7 (by simp),hws];rfl
 rw[hd] at s4;have i0:idx ws 0=some (Zd (Q6 r.write)):=by rw[hws];rfl
 have i1:idx ws 1=some (Jj r.size):=by rw[hws];rfl
 have i2:idx ws 2=some (Qo r.burst):=by rw[hws];rfl
 have f1:=(Zvv hg).2;have f2:=(Ztl hg).2;have g1:Jl=some W3:=rfl;have g2:Ja=some Xj:=rfl;unfold Zbe;rw[h1,ZZa,ZZi (by rw[hws];simp;omega),i0,ZZa,g1,ZZa,i1,ZZa,f1,ZZa,g2,ZZa,i2,ZZa,f2,ZZa,s4,ZZa,Zx5];cases hk:r.lock with
 | true=>
  have j0:idx ((if true=true then [Zd [108,111,99,107]] else [])++r.data_.map Zt) 0=some (Zd [108,111,99,107]):=rfl;have js:Y6 ((if true=true then [Zd [108,111,99,107]] else [])++r.data_.map Zt) 1 (((if true=true then [Zd [108,111,99,107]] else [])++r.data_.map Zt).length:Int)=some (r.data_.map Zt):=by
   have:=X1 (xs:=(if true=true then [Zd [108,111,99,107]] else [])++r.data_.map Zt) (a:=1) (b:=((if true=true then [Zd [108,111,99,107]] else [])++r.data_.map Zt).length) (by simp) (Vaf _);refine this.trans (congrArg some ?_);rw[Va7 (by simp)];rfl
  rw[ZZj (by simp),j0,ZZa,show ((Zd [108,111,99,107]).toList == (Zd [108,111,99,107]).toList)=true from beq_self_eq_true _];unfold Ww;rw[ZZj rfl,js,ZZa];exact j2 _ rfl rfl rfl hk.symm
 | false=>
  rw[ZZi (show ¬false=true by simp),Vcx];have fin:Ww x (Zj.mk r.write 0 r.size r.burst false []) ws (r.data_.map Zt) false=some (r,true):=by
   unfold Ww;rw[ZZi (by simp)];exact j2 _ rfl rfl rfl hk.symm
  by_cases h0:r.data_=[]
  .rw[ZZi (by rw[h0];simp)]
   exact fin
  .obtain⟨a,l,e1,e2⟩:=Zs7 h0
   have j0:idx (r.data_.map Zt) 0=some (Zt a):=by rw[e1];rfl
   rw[ZZj (by have:=Vbl.2 h0;simp;omega),j0,ZZa,show ((Zt a).toList == (Zd [108,111,99,107]).toList)=false by rw[Kw,Zw];exact decide_eq_false e2];exact fin
inductive Yb where
 | w (l:List Int)
 | s (l:List Int)
 | p (q:Zf)
 | e
def Yb.words:Yb->List (List UInt8)
 | .w l=>[119,97,105,116,115]::l.map Lib.itoa
 | .s l=>[115,97,121,115]::l.map Lib.itoa
 | .p q=>[112,111,115,116]::Lib.itoa q.at_::Lib.itoa q.who::Zdw q.req
 | .e=>[[]]
def Yb.line (i:Yb):List UInt8:=Lib.join i.words [32]
def Yb.ok:Yb->Prop
 | .w l=>l.length < 1048577/\∀v∈l,Wr v
 | .s l=>l.length < 1048577/\∀v∈l,Wr v
 | .p q=>Wr q.at_/\Wr q.who/\Ws q.req=true
 | .e=>True
def Yb.app (z:Za):Yb->Za
 | .w l=>{z with waits:=l}
 | .s l=>{z with says:=l}
 | .p q=>{z with posts:=z.posts++[q]}
 | .e=>z
theorem Zvl (i:Yb):∀w∈i.words,∀y∈w,y≠32/\y≠10:=by
 have hi:∀(v:Int) (y:UInt8),y∈Lib.itoa v->y≠32/\y≠10:=λv y h=>⟨Zl6 h (.inl rfl),Zl6 h (.inr (.inr rfl))⟩;have h1:∀y∈([119,97,105,116,115]:List UInt8),y≠32/\y≠10:=by decide
 have h2:∀y∈([115,97,121,115]:List UInt8),y≠32/\y≠10:=by decide
 have h3:∀y∈([112,111,115,116]:List UInt8),y≠32/\y≠10:=by decide
 intro w hw y hy;cases i with
 | w l=>
  rcases Vap.1 hw with rfl|hw
  .exact h1 y hy
  .obtain⟨v,_,rfl⟩:=Va4.1 hw;exact hi v y hy
 | s l=>
  rcases Vap.1 hw with rfl|hw
  .exact h2 y hy
  .obtain⟨v,_,rfl⟩:=Va4.1 hw;exact hi v y hy
 | p q=>
  rcases Vap.1 hw with rfl|hw
  .exact h3 y hy
  .rcases Vap.1 hw with rfl|hw
   .exact hi _ y hy
   .rcases Vap.1 hw with rfl|hw
    .exact hi _ y hy
    .exact Zve w hw y hy
 | e=>simp[Yb.words] at hw;subst hw;simp at hy
theorem Z76 (i:Yb):i.words≠[]:=by cases i<;>simp[Yb.words]
theorem Zse (i:Yb):Yl 32 i.line=i.words:=Zj6 (Z76 i) λw hw y hy=>(Zvl i w hw y hy).1
theorem Z7r {c:UInt8}:∀{ws:List (List UInt8)},(∀w∈ws,∀y∈w,y≠c)->c≠32->∀y∈Lib.join ws [32],y≠c:=by
 intro ws
 induction ws with
 | nil=>intro _ _ y hy;simp[Lib.join_nil] at hy
 | cons w r ih=>
  intro h hc y hy;rw[Lib.join_cons] at hy;rcases Vak.1 hy with hy|hy
  .exact h w Vaa y hy
  .unfold Lib.joinTail at hy
   obtain⟨u,hu,hy⟩:=Vbs.1 hy;obtain⟨v,hv,rfl⟩:=Va4.1 hu;rcases Vak.1 hy with hy|hy
   .rw[List.mem_singleton.1 hy];exactλe=>hc e.symm
   .exact h v (Vac _ hv) y hy
theorem Z7x (i:Yb):∀y∈i.line,y≠10:=Z7r (λw hw y hy=>(Zvl i w hw y hy).2) (by decide)
theorem Zvm (w:List UInt8) (l:List Int):Lib.join (w::l.map Lib.itoa) [32]=w++Yw l:=by
 rw[Lib.join_cons];unfold Lib.joinTail Yw;rw[Vca,Vc7];rfl
theorem w_line (l:List Int):(Yb.w l).line=[119,97,105,116,115]++Yw l:=Zvm _ l
theorem s_line (l:List Int):(Yb.s l).line=[115,97,121,115]++Yw l:=Zvm _ l
theorem Z5l (q:Zf):(Yb.p q).line=[112,111,115,116,32]++Lib.itoa q.at_++[32]++Lib.itoa q.who++[32]++Xz q.req:=by
 have e:Xz q.req=Lib.join (Zdw q.req) [32]:=Zoi _;unfold Yb.line Yb.words;rw[e];obtain⟨a,l,h⟩:∃a l,Zdw q.req=a::l:=⟨_,_,rfl⟩;rw[h,Lib.join_cons,Lib.join_cons];simp[Lib.joinTail,h]
def Zrj (z:Za):List UInt8:=L8 (Ze6 z)++z.posts.flatMap Zbw
def Zf6 (z:Za):List Yb:=(if z.waits=[] then [] else [.w z.waits])++((if z.says=[] then [] else [.s z.says])++z.posts.map .p)
theorem Zto (z:Za):Zrj z=((Zf6 z).map Yb.line).flatMap (·++[10]):=by
 have h1:∀(w:List UInt8) (l:List Int) (i:Yb),i.line=w++Yw l->Zby w l=(((if l=[] then [] else [i]):List Yb).map Yb.line).flatMap (·++[10]):=λw l i hi=>by
  unfold Zby;split
  .rfl
  .simp[hi]
 have h2:∀ps:List Zf,ps.flatMap Zbw=((ps.map Yb.p).map Yb.line).flatMap (·++[10]):=λps=>by
  induction ps with
  | nil=>rfl
  | cons p ps ih=>
   rw[Vbh,ih,Vau,Vau,Vbh,Z5l];unfold Zbw;simp
 unfold Zrj Zf6 Ze6;rw[Wb,Xt (Zby _ z.waits),Xt (Zby _ z.says),Vbt,Vbt,Vdj,Vdj,<-h1 _ _ _ (w_line z.waits),<-h1 _ _ _ (s_line z.says),<-h2,List.append_assoc]
theorem Z37:∀(ps:List Zf) (z:Za),(ps.map Yb.p).foldl Yb.app z={z with posts:=z.posts++ps}:=by
 intro ps
 induction ps with
 | nil=>intro z;simp
 | cons p ps ih=>
  intro z;rw[Vau,Vbo,ih];show ({z with posts:=(z.posts++[p])++ps}:Za)=_;rw[List.append_assoc];rfl
theorem Zmc (z:Za):(Zf6 z).foldl Yb.app Za.z0=z:=by
 unfold Zf6;rw[Vc4,Vc4,Z37];obtain⟨ps,w,s⟩:=z;by_cases hw:w=[]
 .by_cases hs:s=[]
  .simp[hw,hs]
  .simp[hw,hs,Yb.app]
 .by_cases hs:s=[]
  .simp[hw,hs,Yb.app]
  .simp[hw,hs,Yb.app]
structure Zho (x:ByteArray) (z:Za):Prop where
 reqs:∀p∈z.posts,Wr p.at_/\Wr p.who/\Ws p.req=true
 few:z.posts.length < 1048600
 w:z.waits.length < 1048577/\∀v∈z.waits,Wr v
 s:z.says.length < 1048577/\∀v∈z.says,Wr v
 text:L8 x=Zrj z
def Zfg (x:ByteArray) (r:Za×Bool):Prop:=r=(Za.z0,false)\/(r.2=true/\Zho x r.1)
theorem Zxw {x:ByteArray} {z:Za} (h:Zho x z):∀i∈Zf6 z,i.ok:=by
 intro i hi;unfold Zf6 at hi;rcases Vak.1 hi with hi|hi
 .split at hi
  .simp at hi
  .rw[List.mem_singleton.1 hi];exact h.w
 .rcases Vak.1 hi with hi|hi
  .split at hi
   .simp at hi
   .rw[List.mem_singleton.1 hi];exact h.s
  .obtain⟨p,hp,rfl⟩:=Va4.1 hi;exact h.reqs p hp
theorem Zx6 {c:UInt8}:∀{ls:List (List UInt8)},(∀w∈ls,∀y∈w,y≠c)->Yl c (ls.flatMap (·++[c]))=ls++[[]]:=by
 intro ls
 induction ls with
 | nil=>intro _;rfl
 | cons w r ih=>
  intro h;rw[Vbh,List.append_assoc,List.singleton_append,Zme (h w Vaa),ih λu hu=>h u (Vac _ hu)];rfl
theorem Z3e {c:UInt8}:∀{ls:List (List UInt8)},ls≠[]->ls.flatMap (·++[c])=Lib.join ls [c]++[c]:=by
 intro ls
 induction ls with
 | nil=>intro h;exact absurd rfl h
 | cons w r ih=>
  intro _;cases r with
  | nil=>simp[Lib.join_one]
  | cons v r=>
   rw[Vbh,ih (by simp),Lib.join_cons,Lib.join_cons];simp[Lib.joinTail]
theorem Z7u (a:List UInt8) (c:UInt8):Lib.trimSuffix (a++[c]) [c]=a:=by
 unfold Lib.trimSuffix;rw[ZZj (by simp[Lib.hasSuffix,List.isSuffixOf,List.isPrefixOf])];simp
theorem Wz (a:ByteArray) (l:List UInt8) (w:List UInt8) (h:L8 a=l):(a.toList == (Zd w).toList)=decide (l=w):=by rw[Kw,Zw,h]
def Y1:Yb->List ByteArray
 | .w l=>Zd [119,97,105,116,115]::l.map Zt
 | .s l=>Zd [115,97,121,115]::l.map Zt
 | .p q=>Zd [112,111,115,116]::Zt q.at_::Zt q.who::([Zd (Q6 q.req.write),Jj q.req.size,Qo q.req.burst,Zt q.req.addr]++((if q.req.lock=true then [Zd [108,111,99,107]] else [])++q.req.data_.map Zt))
 | .e=>[ByteArray.empty]
theorem Zxn:∀{a b:List ByteArray},a.map L8=b.map L8->a=b:=by
 intro a
 induction a with
 | nil=>intro b h;cases b with
  | nil=>rfl
  | cons y b=>simp at h
 | cons x a ih=>intro b h;cases b with
  | nil=>simp at h
  | cons y b=>
   simp only[Vau,Vcd] at h ⊢;exact⟨Kh h.1,ih h.2⟩
theorem Zxv (l:List Int):(l.map Zt).map L8=l.map Lib.itoa:=by rw[Vca];rfl
theorem Ztu {ws:List ByteArray} {i:Yb} (h:ws.map L8=i.words):ws=Y1 i:=by
 cases i with
 | w l=>exact Zxn (h.trans (by unfold Y1 Yb.words;rw[Vau,Zxv,Zw]))
 | s l=>exact Zxn (h.trans (by unfold Y1 Yb.words;rw[Vau,Zxv,Zw]))
 | p q=>
  unfold Yb.words at h;cases ws with
  | nil=>simp at h
  | cons a ws=>cases ws with
   | nil=>simp at h
   | cons b ws=>cases ws with
    | nil=>simp at h
    | cons c ws=>
     simp only[Vau,Vcd] at h;obtain⟨h1,h2,h3,h4⟩:=h;unfold Y1;rw[Zob h4,Kh (a:=a) (b:=Zd [112,111,115,116]) h1,Kh (a:=b) (b:=Zt q.at_) h2,Kh (a:=c) (b:=Zt q.who) h3]
 | e=>exact Zxn (h.trans rfl)
theorem Z68 (r:Zj):Lib.join (([Zd (Q6 r.write),Jj r.size,Qo r.burst,Zt r.addr]++((if r.lock=true then [Zd [108,111,99,107]] else [])++r.data_.map Zt)).map L8) [32]=Xz r:=by
 rw[Zoi]
 congr 1
 unfold Zdw;cases r.lock<;>simp[Zw,Xa,Vca,Vb4]
theorem Ztp {α:Type} (a:α) (l:List α):Y6 (a::l) 1 ((a::l).length:Int)=some l:=by
 have:=X1 (xs:=a::l) (a:=1) (b:=(a::l).length) (by simp) (Vaf _);refine this.trans (congrArg some ?_);simp
theorem Znp {q:Zf} (h:Wr q.at_/\Wr q.who/\Ws q.req=true):q.nums/\q.req.sm:=by
 obtain⟨_,_,v3,v4⟩:=Zio h.2.2;exact⟨⟨h.1.r,h.2.1.r,⟨⟨by omega,by omega⟩,λv hv=>by have:=v4 v hv;exact⟨by omega,by omega⟩⟩⟩,Zs5 h.2.2⟩
theorem i_step {x:ByteArray} {κ:Za->List ByteArray->Int->Int->Option (Za×Bool)} {z:Za} {vs:List ByteArray} {n:Nat} {j:Nat} (hj:j < vs.length) (hn:n=vs.length) {i:Yb} (hi:L8 vs[j]=i.line) (hz:vs[j].size<=1048576) (ok:i.ok) (hp:z.posts.length<=1048600):
  X9 x κ z vs (n:Int) (j:Int)=κ (Yb.app z i) vs (n:Int) (Zq (j:Int) 1):=by
 subst hn;obtain⟨ws,h1,h2⟩:=Zfx (x:=vs[j]) 32 (by omega);rw[hi,Zse] at h2;have hb:=Ztu h2;unfold X9;rw[ZZj (by simpa using hj),Z1 hj,ZZa,h1,ZZa,hb];cases i with
 | w l=>
  have e0:idx (Y1 (.w l)) 0=some (Zd [119,97,105,116,115]):=rfl;rw[e0,ZZa,Wz _ _ _ (Zw _),ZZi (by decide)];unfold Xn;rw[ZZi (by simp),e0,ZZa,Wz _ _ _ (Zw _),ZZj (by decide)];unfold Wf Y1;rw[ZZj rfl,Ztp,ZZa,Zgl (by have:=ok.1;omega) ok.2,ZZa,ZZi (by simp)];show (idx (Y1 (.w l)) 0).bind _=_;rw[e0,ZZa,Wz _ _ _ (Zw _),ZZj (by decide)];rfl
 | s l=>
  have e0:idx (Y1 (.s l)) 0=some (Zd [115,97,121,115]):=rfl;rw[e0,ZZa,Wz _ _ _ (Zw _),ZZi (by decide)];unfold Xn;rw[ZZi (by simp),e0,ZZa,Wz _ _ _ (Zw _),ZZi (by decide),Wz _ _ _ (Zw _),show decide (([115,97,121,115]:List UInt8)=[115,97,121,115])=true by decide];unfold Wf Y1;rw[ZZj rfl,Ztp,ZZa,Zgl (by have:=ok.1;omega) ok.2,ZZa,ZZi (by simp)];show (idx (Y1 (.s l)) 0).bind _=_;rw[e0,ZZa,Wz _ _ _ (Zw _),ZZi (by decide)];rfl
 | p q=>
  obtain⟨o1,o2,o3⟩:=ok;have e0:idx (Y1 (.p q)) 0=some (Zd [112,111,115,116]):=rfl;rw[e0,ZZa,Wz _ _ _ (Zw _),ZZj (by decide)];have Z3:7<=(Y1 (.p q)).length:=by unfold Y1;simp
  rw[show decide (((Y1 (.p q)).length:Int) > 3)=true from decide_eq_true (by omega)];have s13:Y6 (Y1 (.p q)) 1 3=some ([q.at_,q.who].map Zt):=by
   have:=X1 (xs:=Y1 (.p q)) (a:=1) (b:=3) (by omega) (by omega);exact this
  have s3:Y6 (Y1 (.p q)) 3 ((Y1 (.p q)).length:Int)=some ((Y1 (.p q)).drop 3):=by
   have:=X1 (xs:=Y1 (.p q)) (a:=3) (b:=(Y1 (.p q)).length) (by omega) (Vaf _);refine this.trans (congrArg some ?_);rw[Va7 (by simp)]
  have Zvb:=Zhx o3;have hT:=Zpx o3 (Znp ⟨o1,o2,o3⟩).1.2.2;have hjn:Lib.join (((Y1 (.p q)).drop 3).map L8) (L8 (Zd [32]))=Xz q.req:=by
   rw[Zw];exact Z68 q.req
  have hjl:((Y1 (.p q)).drop 3).length<=1000000000:=by
   show (([Zd (Q6 q.req.write),Jj q.req.size,Qo q.req.burst,Zt q.req.addr]++((if q.req.lock=true then [Zd [108,111,99,107]] else [])++q.req.data_.map Zt))).length<=_;cases q.req.lock<;>simp<;>omega
  unfold Xn;rw[ZZj rfl,s13,ZZa,Zgl (by simp) (by
   intro v hv;simp only[Vap,Vc8,or_false] at hv;rcases hv with rfl|rfl
   .exact o1
   .exact o2),ZZa,s3,ZZa,Zla hjl (by rw[hjn];omega),ZZa,hjn,Zsn (x:=⟨(Xz q.req).toArray⟩) ⟨o3,rfl⟩ (by rw[Z5,Xt (Xz q.req)];omega),ZZa,ZZi (by simp)]
  unfold Ki;have j0:idx [q.at_,q.who] 0=some q.at_:=rfl;have j1:idx [q.at_,q.who] 1=some q.who:=rfl;simp only[Bool.not_true,ZZf,if_false,j0,j1,ZZa];rw[W0 (by simp;omega) (by simp;omega),ZZa];rfl
 | e=>
  have e0:idx (Y1 .e) 0=some ByteArray.empty:=rfl;rw[e0,ZZa,Wz _ [] _ Zau,ZZi (by decide)];unfold Xn;rw[ZZi (by simp),e0,ZZa,Wz _ [] _ Zau,ZZi (by decide),Wz _ [] _ Zau,show decide (([]:List UInt8)=[115,97,121,115])=false by decide];rfl
theorem add3 {a b c:Nat} (h:a+b+c < 1000000000000000000):Zq (Zq (Zq (a:Int) (b:Int)) (c:Int)) 3=((a+b+c+3:Nat):Int):=by
 have e1:Zq (a:Int) (b:Int)=((a+b:Nat):Int):=by rw[Zfu (by omega) (by omega)];omega
 have e2:Zq ((a+b:Nat):Int) (c:Int)=((a+b+c:Nat):Int):=by rw[Zfu (by omega) (by omega)];omega
 rw[e1,e2,Zfu (by omega) (by omega)];omega
theorem s_step {x:ByteArray} {κ:Za->List ByteArray->Int->Option (Za×Bool)} {z:Za} {vs:List ByteArray} {j:Nat} (hj:j < vs.length) {i:Yb} (hi:L8 vs[j]=i.line) (hz:vs[j].size<=1048576) (ok:i.ok) (hp:z.posts.length<=1048600):
  X8 x κ z vs (j:Int)=κ (Yb.app z i) vs (Zq (j:Int) 1):=by
 obtain⟨ws,h1,h2⟩:=Zft (x:=vs[j]) 32 (by omega);have h1:Qk vs[j] 32=some ws:=h1;rw[hi,Zse] at h2;have hb:=Ztu h2;unfold X8;rw[ZZj (by simpa using hj),Z1 hj,ZZa,h1,ZZa,hb];cases i with
 | w l=>
  have e0:idx (Y1 (.w l)) 0=some (Zd [119,97,105,116,115]):=rfl;rw[e0,ZZa,Wz _ _ _ (Zw _),ZZj (by decide)];unfold Y1;rw[Ztp,ZZa,Zkn (by have:=ok.1;omega) ok.2,ZZa];rfl
 | s l=>
  have e0:idx (Y1 (.s l)) 0=some (Zd [115,97,121,115]):=rfl;rw[e0,ZZa,Wz _ _ _ (Zw _),ZZi (by decide),Wz _ _ _ (Zw _),ZZj (by decide)];unfold Y1;rw[Ztp,ZZa,Zkn (by have:=ok.1;omega) ok.2,ZZa];rfl
 | p q=>
  obtain⟨o1,o2,o3⟩:=ok;have e0:idx (Y1 (.p q)) 0=some (Zd [112,111,115,116]):=rfl;have e1:idx (Y1 (.p q)) 1=some (Zt q.at_):=rfl;have e2:idx (Y1 (.p q)) 2=some (Zt q.who):=rfl;have Z3:7<=(Y1 (.p q)).length:=by unfold Y1;simp
  have s13:Y6 (Y1 (.p q)) 1 3=some ([q.at_,q.who].map Zt):=by
   have:=X1 (xs:=Y1 (.p q)) (a:=1) (b:=3) (by omega) (by omega);exact this
  have hT:=Zpx o3 (Znp ⟨o1,o2,o3⟩).1.2.2;have z1:=K6 o1.r;have z2:=K6 o2.r;rw[e0,ZZa,Wz _ _ _ (Zw _),ZZi (by decide),Wz _ _ _ (Zw _),ZZi (by decide),ZZj (decide_eq_true (by omega)),s13,ZZa,Zkn (by simp) (by
   intro v hv;simp only[Vap,Vc8,or_false] at hv;rcases hv with rfl|rfl
   .exact o1
   .exact o2),ZZa,e1,ZZa,e2,ZZa]
  have z0:(Zd [112,111,115,116]).size=4:=Yk _;have hcut:Zq (Zq (Zq ((Zd [112,111,115,116]).size:Int) ((Zt q.at_).size:Int)) ((Zt q.who).size:Int)) 3=((7+(Zt q.at_).size+(Zt q.who).size:Nat):Int):=by
   rw[add3 (by omega)];omega
  have hl8:L8 vs[j]=([112,111,115,116,32]++Lib.itoa q.at_++[32]++Lib.itoa q.who++[32])++Xz q.req:=by rw[hi,Z5l]
  have Zee:([112,111,115,116,32]++Lib.itoa q.at_++[32]++Lib.itoa q.who++[32]:List UInt8).length=7+(Zt q.at_).size+(Zt q.who).size:=by
   rw[Z5,Z5,Xa,Xa];simp only[Vas,Vad,Va1];omega
  have Yx:vs[j].size=7+(Zt q.at_).size+(Zt q.who).size+(Xz q.req).length:=by rw[Z5,hl8,Vas,Zee]
  have hmin:minI ((vs[j].size:Nat):Int) (Zq (Zq (Zq ((Zd [112,111,115,116]).size:Int) ((Zt q.at_).size:Int)) ((Zt q.who).size:Int)) 3)=((7+(Zt q.at_).size+(Zt q.who).size:Nat):Int):=by
   rw[hcut];unfold minI;split<;>omega
  obtain⟨y,y1,y2⟩:=Zfp (x:=vs[j]) (a:=7+(Zt q.at_).size+(Zt q.who).size) (b:=vs[j].size) (by omega) (by rw[Z5];exact Vaf _);have hy:L8 y=Xz q.req:=by
   rw[y2,hl8,<-Zee,List.drop_left,Yx,Zee,Va7 (by omega)]
  have j0:idx [q.at_,q.who] 0=some q.at_:=rfl;have j1:idx [q.at_,q.who] 1=some q.who:=rfl;rw[hmin,y1,ZZa,Ztm (x:=y) ⟨o3,hy⟩ (by rw[Z5,hy];omega),ZZa,j0,ZZa,j1,ZZa,W0 (by simp;omega) (by simp;omega),ZZa];rfl
 | e=>
  have e0:idx (Y1 .e) 0=some ByteArray.empty:=rfl;rw[e0,ZZa,Wz _ [] _ Zau,ZZi (by decide),Wz _ [] _ Zau,ZZi (by decide),ZZi (by decide)];rfl
structure Zbm (x:ByteArray) (z:Za) (j:Nat):Prop where
 few:z.posts.length<=j
 posts:∀p∈z.posts,Wr p.at_/\Wr p.who/\(Ws p.req=true\/p.req=Zj.z0)
 w:z.waits.length < 1048577/\∀v∈z.waits,Wr v
 s:z.says.length < 1048577/\∀v∈z.says,Wr v
 ne:z.posts≠[]->L8 x≠[]
theorem Zbm.n {x:ByteArray} {z:Za} {j:Nat} (h:Zbm x z j) (hj:j<=1048577):ScrN z:=by
 refine⟨by have:=h.few;omega,h.w.1,h.s.1,λp hp=>?_,λv hv=>(h.w.2 v hv).r,λv hv=>(h.s.2 v hv).r⟩;obtain⟨a,b,c⟩:=h.posts p hp;rcases c with c|c
 .exact Znp ⟨a,b,c⟩
 .refine⟨⟨a.r,b.r,?_⟩,?_⟩
  .rw[c];exact⟨⟨by decide,by decide⟩,λv hv=>by simp at hv⟩
  .rw[c];show ([]:List Int).length < _;simp
theorem Zp1 {x:ByteArray} {z:Za} {j:Nat} (h:Zbm x z j) (hj:j<=1048577):∃r,(if (!((Zdd (Ze6 z) z.posts).toList == x.toList))=true then some (Za.z0,false) else some (z,true))=some r/\Zfg x r/\(Zho x z->r=(z,true)):=by
 rw[Kw];unfold Zdd;by_cases Xp:z.posts.all (λp=>Ws p.req)=true
 .rw[ZZj Xp,Xt (L8 (Ze6 z)++z.posts.flatMap Zbw),show L8 (Ze6 z)++z.posts.flatMap Zbw=Zrj z from rfl]
  have hall':∀p∈z.posts,Ws p.req=true:=by simpa using Xp
  by_cases he:Zrj z=L8 x
  .rw[decide_eq_true he,ZZi (by simp)]
   exact⟨_,rfl,.inr ⟨rfl,⟨λp hp=>⟨(h.posts p hp).1,(h.posts p hp).2.1,hall' p hp⟩,by have:=h.few;show z.posts.length < _;omega,h.w,h.s,he.symm⟩⟩,λ_=>rfl⟩
  .rw[decide_eq_false he,ZZj (by simp)]
   exact⟨_,rfl,.inl rfl,λhh=>absurd hh.text.symm he⟩
 .have Zp:z.posts≠[]:=λe=>Xp (by rw[e];rfl)
  have hx:=h.ne Zp;rw[ZZi Xp,Zau,decide_eq_false (λe=>hx e.symm),ZZj (by simp)];exact⟨_,rfl,.inl rfl,λhh=>absurd (by rw[ZZk];exactλp hp=>(hh.reqs p hp).2.2) Xp⟩
theorem Z2a {x:ByteArray} {z:Za} (h:Zho x z):Zbm x z z.posts.length:=by
 refine⟨Vaf _,λp hp=>⟨(h.reqs p hp).1,(h.reqs p hp).2.1,.inl (h.reqs p hp).2.2⟩,h.w,h.s,λZp he=>?_⟩;have:=h.text;rw[he] at this;unfold Zrj at this;cases hp:z.posts with
 | nil=>exact Zp hp
 | cons p ps=>
  rw[hp,Vbh] at this;have:=congrArg List.length this;unfold Zbw at this;simp at this
theorem Zv6 (z:Za) (i:Yb):(Yb.app z i).posts.length<=z.posts.length+1:=by cases i<;>simp[Yb.app]
theorem Zoo {vs:List ByteArray} {its:List Yb} (h:vs.map L8=its.map Yb.line) {j:Nat} (hj:j < vs.length):∃hi:j < its.length,L8 vs[j]=its[j].line:=by
 have hl:vs.length=its.length:=by simpa using congrArg List.length h
 refine⟨by omega,?_⟩;have h1:(vs.map L8)[j]?=(its.map Yb.line)[j]?:=by rw[h]
 rw[Vay,Vay,Vab hj,Vab (by omega)] at h1;simpa using h1
theorem Zhc {x:ByteArray} {z:Za} (hz:Zho x z) (hzl:z.posts.length<=1048577) {vs:List ByteArray} {its:List Yb} (h:vs.map L8=its.map Yb.line) (hs:∀v∈vs,v.size<=1048576) (ok:∀i∈its,i.ok) (hl:vs.length<=1048577):∀(m j:Nat) (y:Za),j<=vs.length->vs.length - j < m->y.posts.length<=j->(its.drop j).foldl Yb.app y=z->
  Xk x m y vs (vs.length:Int) (j:Int)=some (z,true):=by
 have hil:vs.length=its.length:=by simpa using congrArg List.length h
 intro m
 induction m with
 | zero=>intro j y _ h;omega
 | succ m ih=>
  intro j y hj hm hy hf;show X9 x (Xk x m) y vs (vs.length:Int) (j:Int)=some (z,true);by_cases hc:j < vs.length
  .obtain⟨hi,hv⟩:=Zoo h hc
   rw[i_step hc rfl hv (hs _ (Vai hc)) (ok _ (Vai hi)) (by omega),Xr (by omega)];refine ih (j+1) _ (by omega) (by omega) (by have:=Zv6 y its[j];omega) ?_;rw[Vbe hi,Vbo] at hf;exact hf
  .rw[Vbj (by omega)] at hf
   have hf:y=z:=hf;subst hf;unfold X9;have Z0j:=Z2a hz;rw[ZZi (by simpa using hc),Zjj (Z0j.n hzl),ZZa];obtain⟨r,e1,_,e3⟩:=Zp1 Z0j hzl;rw[e1,e3 hz]
theorem Zqf {x:ByteArray} {z:Za} (hz:Zho x z) (hzl:z.posts.length<=1048577) {vs:List ByteArray} {its:List Yb} (h:vs.map L8=its.map Yb.line) (hs:∀v∈vs,v.size<=1048576) (ok:∀i∈its,i.ok) (hl:vs.length<=1048577):∀(m j:Nat) (y:Za),j<=vs.length->vs.length - j < m->y.posts.length<=j->(its.drop j).foldl Yb.app y=z->
  Wh x m y vs (j:Int)=some (z,true):=by
 have hil:vs.length=its.length:=by simpa using congrArg List.length h
 intro m
 induction m with
 | zero=>intro j y _ h;omega
 | succ m ih=>
  intro j y hj hm hy hf;show X8 x (Wh x m) y vs (j:Int)=some (z,true);by_cases hc:j < vs.length
  .obtain⟨hi,hv⟩:=Zoo h hc
   rw[s_step hc hv (hs _ (Vai hc)) (ok _ (Vai hi)) (by omega),Xr (by omega)];refine ih (j+1) _ (by omega) (by omega) (by have:=Zv6 y its[j];omega) ?_;rw[Vbe hi,Vbo] at hf;exact hf
  .rw[Vbj (by omega)] at hf
   have hf:y=z:=hf;subst hf;unfold X8;have Z0j:=Z2a hz;rw[ZZi (by simpa using hc),Zja (Z0j.n hzl),ZZa];obtain⟨r,e1,_,e3⟩:=Zp1 Z0j hzl;rw[e1,e3 hz]
theorem Zup {x:ByteArray} {z:Za} (h:Zho x z) (hx:x.size<=1048576):z.posts.length<=1048576:=by
 have hf:∀ps:List Zf,ps.length<=(ps.flatMap Zbw).length:=λps=>by
  induction ps with
  | nil=>simp
  | cons p ps ih=>
   rw[Vbh,Vas,Vad];have:1<=(Zbw p).length:=by unfold Zbw;simp
   omega
 have h1:=congrArg List.length h.text;rw[<-Z5] at h1;unfold Zrj at h1;rw[Vas] at h1;have:=hf z.posts;omega
theorem Zvq {z:Za}:∀w∈(Zf6 z).map Yb.line,∀y∈w,y≠10:=by
 intro w hw y hy;obtain⟨i,_,rfl⟩:=Va4.1 hw;exact Z7x i y hy
theorem Zn7 {x:ByteArray} {z:Za} (h:Zho x z) (hx:x.size<=1048576):Q1 x=some (z,true):=by
 have Zvb:=Zup h hx;obtain⟨vs,h1,h2⟩:=Zft (x:=x) 10 (by omega);have h1:Qk x 10=some vs:=h1;have Z3:=Zas h2;have hz:∀v∈vs,v.size<=1048576:=λv hv=>by have:=Q5 h2 hv;omega
 have hm:vs.map L8=(Zf6 z++[Yb.e]).map Yb.line:=by
  rw[h2,h.text,Zto,Zx6 Zvq,Vbt];rfl
 unfold Q1;rw[h1,ZZa];refine Zqf h (by omega) hm hz (λi hi=>?_) (by omega) FU 0 Za.z0 (Vbb _) (by have:=Wj;omega) (by simp) ?_
 .rcases Vak.1 hi with hi|hi
  .exact Zxw h i hi
  .rw[List.mem_singleton.1 hi];trivial
 .rw[Vcr,Vc4,Zmc];rfl
theorem Zo8 {x:ByteArray} {z:Za} (h:Zho x z) (hx:x.size<=1048576):Qz x=some (z,true):=by
 have Zvb:=Zup h hx;have ht:∃y,X4 x (Zd [10])=some y/\L8 y=Lib.trimSuffix (L8 x) [10]:=by
  unfold X4;rw[ZZj (by omega)];exact⟨_,rfl,rfl⟩
 obtain⟨y,t1,t2⟩:=ht;have hy:y.size<=x.size:=by rw[Z5,t2,Z5];exact Lib.trimSuffix_le _ _
 obtain⟨vs,h1,h2⟩:=Zfx (x:=y) 10 (by omega);have Z3:=Zas h2;have hz:∀v∈vs,v.size<=1048576:=λv hv=>by have:=Q5 h2 hv;omega
 unfold Qz;rw[t1,ZZa,h1,ZZa];rw[h.text,Zto] at t2;by_cases he:Zf6 z=[]
 .have hm:vs.map L8=[Yb.e].map Yb.line:=by
   rw[h2,t2,he];rfl
  refine Zhc h (by omega) hm hz (λi hi=>by rw[List.mem_singleton.1 hi];trivial) (by omega) FU 0 Za.z0 (Vbb _) (by have:=Wj;omega) (by simp) ?_;have:=Zmc z;rw[he] at this;exact this
 .have hm:vs.map L8=(Zf6 z).map Yb.line:=by
   rw[h2,t2,Z3e (by simpa using he),Z7u,Zj6 (by simpa using he) Zvq]
  refine Zhc h (by omega) hm hz (Zxw h) (by omega) FU 0 Za.z0 (Vbb _) (by have:=Wj;omega) (by simp) ?_;rw[Vcr,Zmc]
theorem Zjr (a:List UInt8) (l:List (List UInt8)):Lib.lens (a::l)=a.length+Lib.lens l:=by simp[Lib.lens]
theorem Z1g (c:UInt8):∀l:List UInt8,Lib.lens (Yl c l)+(Yl c l).length=l.length+1:=by
 intro l
 induction l with
 | nil=>rfl
 | cons x l ih=>
  unfold Yl;split
  .rw[Zjr,Vad,Vad];simp;omega
  .split
   .rename_i h;exact absurd h (Znk c l)
   .rename_i w r h
    rw[h,Zjr,Vad] at ih;rw[Zjr,Vad,Vad,Vad];omega
theorem Z50:∀(k:Nat) (l:List (List UInt8)),Lib.lens (l.drop k)<=Lib.lens l:=by
 intro k
 induction k with
 | zero=>intro l;simp
 | succ k ih=>
  intro l;cases l with
  | nil=>simp
  | cons a l=>rw[Vdf,Zjr];have:=ih l;omega
theorem Z5d {c:UInt8} {l:List UInt8} {k:Nat} (h:k < (Yl c l).length):(Lib.join ((Yl c l).drop k) [32]).length<=l.length:=by
 have h1:=Z1g c l;have h2:=Z50 k (Yl c l);cases hd:(Yl c l).drop k with
 | nil=>
  have:=congrArg List.length hd;simp at this;omega
 | cons a r=>
  have hr:r.length+1=(Yl c l).length - k:=by
   have:=congrArg List.length hd;simp at this;omega
  rw[Lib.join_length];rw[hd] at h2;simp;omega
theorem Zxy {x:ByteArray} {z:Za} {j:Nat} (h:Zbm x z j) {p:Zf} (hp:Wr p.at_/\Wr p.who/\(Ws p.req=true\/p.req=Zj.z0)) (hx:L8 x≠[]):Zbm x {z with posts:=z.posts++[p]} (j+1):=by
 refine⟨by have:=h.few;simp;omega,λq hq=>?_,h.w,h.s,λ_=>hx⟩;rcases Vak.1 hq with hq|hq
 .exact h.posts q hq
 .rw[List.mem_singleton.1 hq];exact hp
theorem Zbm.next {x:ByteArray} {z:Za} {j:Nat} (h:Zbm x z j):Zbm x z (j+1):={h with few:=by have:=h.few;omega}
theorem Zbm.waits {x:ByteArray} {z:Za} {j:Nat} (h:Zbm x z j) {l:List Int} (hl:l.length < 1048577/\∀v∈l,Wr v):Zbm x {z with waits:=l} (j+1):={h with few:=by have:=h.few;show z.posts.length<=_;omega,w:=hl}
theorem Zbm.says {x:ByteArray} {z:Za} {j:Nat} (h:Zbm x z j) {l:List Int} (hl:l.length < 1048577/\∀v∈l,Wr v):Zbm x {z with says:=l} (j+1):={h with few:=by have:=h.few;show z.posts.length<=_;omega,s:=hl}
theorem Zze (x:ByteArray):Zbm x Za.z0 0:=⟨by simp,λp hp=>by simp at hp,⟨by simp,λv hv=>by simp at hv⟩,⟨by simp,λv hv=>by simp at hv⟩,λh=>absurd rfl h⟩
theorem Zv2 {x a:ByteArray} {c:UInt8} {vs ws:List ByteArray} (h:vs.map L8=Yl c (L8 x)) (ha:a∈vs) (h2:ws.map L8=Yl 32 (L8 a)) (hw:2<=ws.length):L8 x≠[]:=λe=>by
 have h1:=Q5 h ha;have h3:x.size=0:=by rw[Z5,e];rfl
 have h4:L8 a=[]:=by
  have:(L8 a).length=0:=by rw[<-Z5];omega
  exact Var this
 exact Zky h2 hw h4
theorem Zol {x:ByteArray} (hx:x.size<=1048576):∃r,Q1 x=some r/\Zfg x r:=by
 obtain⟨vs,h1,h2⟩:=Zft (x:=x) 10 (by omega);have h1:Qk x 10=some vs:=h1;have Z3:=Zas h2;have key:∀(m j:Nat) (z:Za),j<=vs.length->vs.length - j < m->Zbm x z j->∃r,Wh x m z vs (j:Int)=some r/\Zfg x r:=by
  intro m
  induction m with
  | zero=>intro j z _ h;omega
  | succ m ih=>
   intro j z hj hm hz;show ∃r,X8 x (Wh x m) z vs (j:Int)=some r/\_;unfold X8;by_cases hc:j < vs.length
   .have Za5:=Vai hc
    have Yx:=Q5 h2 Za5;obtain⟨ws,w1,w2⟩:=Zft (x:=vs[j]) 32 (by omega);have w1:Qk vs[j] 32=some ws:=w1;have hw:=Zas w2;have i0:idx ws 0=some ws[0]:=Z1 (k:=0) (by omega);have s1:Y6 ws 1 (ws.length:Int)=some ((ws.drop 1).take (ws.length - 1)):=X1 (a:=1) (by omega) (Vaf _);rw[ZZj (by simpa using hc),Z1 hc,ZZa,w1,ZZa,i0,ZZa,Xr (by omega)];obtain⟨l,l1,l2,l3⟩:=Zm5 (ws:=(ws.drop 1).take (ws.length - 1)) (by simp;omega);have hl:l.length < 1048577:=by rw[l2];simp;omega
    split
    .rw[s1,ZZa,l1,ZZa]
     exact ih (j+1) _ (by omega) (by omega) (hz.waits ⟨hl,l3⟩)
    .split
     .rw[s1,ZZa,l1,ZZa]
      exact ih (j+1) _ (by omega) (by omega) (hz.says ⟨hl,l3⟩)
     .split
      .rename_i h3
       have h3:ws.length > 3:=by have:=of_decide_eq_true h3;omega
       have s13:Y6 ws 1 3=some ((ws.drop 1).take (3 - 1)):=X1 (a:=1) (b:=3) (by omega) (by omega);obtain⟨d,d1,d2,d3⟩:=Zm5 (ws:=(ws.drop 1).take (3 - 1)) (by simp;omega);have hd:d.length=2:=by rw[d2];simp;omega
       have i1:idx ws 1=some ws[1]:=Z1 (k:=1) (by omega);have i2:idx ws 2=some ws[2]:=Z1 (k:=2) (by omega);have z0:=Q5 w2 (Vai (l:=ws) (n:=0) (by omega));have z1:=Q5 w2 (Vai (l:=ws) (n:=1) (by omega));have z2:=Q5 w2 (Vai (l:=ws) (n:=2) (by omega));have hmn:∃k:Nat,k<=vs[j].size/\minI ((vs[j].size:Nat):Int) (Zq (Zq (Zq ((ws[0]'(by omega)).size:Int) ((ws[1]'(by omega)).size:Int)) ((ws[2]'(by omega)).size:Int)) 3)=(k:Int):=by
        rw[add3 (by omega)];unfold minI;split
        .exact⟨(ws[0]'(by omega)).size+(ws[1]'(by omega)).size+(ws[2]'(by omega)).size+3,by omega,by omega⟩
        .exact⟨vs[j].size,Vaf _,rfl⟩
       obtain⟨k,k1,k2⟩:=hmn;obtain⟨y,y1,y2⟩:=Zfp (x:=vs[j]) (a:=k) (b:=vs[j].size) k1 (by rw[Z5];exact Vaf _);have hy:y.size<=1048576:=by
        rw[Z5,y2,Vct,Vc6,<-Z5];omega
       obtain⟨q,q1,q2⟩:=Zsi hy;have j0:idx d 0=some d[0]:=Z1 (k:=0) (by omega);have j1:idx d 1=some d[1]:=Z1 (k:=1) (by omega);have Zvb:=hz.few;rw[s13,ZZa,d1,ZZa,i1,ZZa,i2,ZZa,k2,y1,ZZa,q1,ZZa,j0,ZZa,j1,ZZa,W0 (by simp;omega) (by simp;omega),ZZa];refine ih (j+1) _ (by omega) (by omega) (Zxy hz (p:=⟨d[0],d[1],q.1⟩) ⟨d3 _ (Vai _),d3 _ (Vai _),?_⟩ (Zv2 h2 Za5 w2 (by omega)));rcases q2 with rfl|⟨_,q3⟩
       .exact .inr rfl
       .exact .inl q3.1
      .exact ih (j+1) _ (by omega) (by omega) hz.next
   .rw[ZZi (by simpa using hc),Zja (hz.n (by omega)),ZZa]
    obtain⟨r,e1,e2,_⟩:=Zp1 hz (by omega);exact⟨r,e1,e2⟩
 unfold Q1;rw[h1,ZZa];exact key FU 0 _ (Vbb _) (by have:=Wj;omega) (Zze x)
theorem Znl {x:ByteArray} (hx:x.size<=1048576):∃r,Qz x=some r/\Zfg x r:=by
 have ht:∃y,X4 x (Zd [10])=some y/\L8 y=Lib.trimSuffix (L8 x) [10]:=by
  unfold X4;rw[ZZj (by omega)];exact⟨_,rfl,rfl⟩
 obtain⟨y,t1,t2⟩:=ht;have hy:y.size<=x.size:=by rw[Z5,t2,Z5];exact Lib.trimSuffix_le _ _
 obtain⟨vs,h1,h2⟩:=Zfx (x:=y) 10 (by omega);have Z3:=Zas h2;have hxy:L8 y≠[]->L8 x≠[]:=λh e=>by
  have:x.size=0:=by rw[Z5,e];rfl
  have:(L8 y).length=0:=by rw[<-Z5];omega
  exact h (Var this)
 have key:∀(m j:Nat) (z:Za),j<=vs.length->vs.length - j < m->Zbm x z j->∃r,Xk x m z vs (vs.length:Int) (j:Int)=some r/\Zfg x r:=by
  intro m
  induction m with
  | zero=>intro j z _ h;omega
  | succ m ih=>
   intro j z hj hm hz;show ∃r,X9 x (Xk x m) z vs (vs.length:Int) (j:Int)=some r/\_;unfold X9;by_cases hc:j < vs.length
   .have Za5:=Vai hc
    have Yx:=Q5 h2 Za5;obtain⟨ws,w1,w2⟩:=Zfx (x:=vs[j]) 32 (by omega);have hw:=Zas w2;have hwz:∀w∈ws,w.size<=281474976710656:=λw hw'=>by have:=Q5 w2 hw';omega
    have i0:idx ws 0=some ws[0]:=Z1 (k:=0) (by omega);have s1:Y6 ws 1 (ws.length:Int)=some ((ws.drop 1).take (ws.length - 1)):=X1 (a:=1) (by omega) (Vaf _);rw[ZZj (by simpa using hc),Z1 hc,ZZa,w1,ZZa,i0,ZZa];have j4:∀b:Bool,∃r,Wf x (Xk x m) z ws vs (vs.length:Int) (j:Int) b=some r/\Zfg x r:=λb=>by
     unfold Wf;rw[Xr (by omega)];split
     .obtain⟨l,l1,l2,l3,_⟩:=Zfa (ws:=(ws.drop 1).take (ws.length - 1)) (by simp;omega) λw hw'=>hwz w (Va9 (Vba hw'))
      have hl:l.1.length < 1048577:=by simp at l3;omega
      rw[s1,ZZa,l1,ZZa];split
      .exact⟨_,rfl,.inl rfl⟩
      .rw[i0,ZZa]
       split
       .exact ih (j+1) _ (by omega) (by omega) (hz.waits ⟨hl,l2⟩)
       .exact ih (j+1) _ (by omega) (by omega) (hz.says ⟨hl,l2⟩)
     .exact ih (j+1) _ (by omega) (by omega) hz.next
    have j2:∀b:Bool,(b=true->3 < ws.length)->∃r,Xn x (Xk x m) z ws vs (vs.length:Int) (j:Int) b=some r/\Zfg x r:=λb hb=>by
     unfold Xn;split
     .rename_i hbt
      have h3:=hb hbt;have s13:Y6 ws 1 3=some ((ws.drop 1).take (3 - 1)):=X1 (a:=1) (b:=3) (by omega) (by omega);have s3:Y6 ws 3 (ws.length:Int)=some ((ws.drop 3).take (ws.length - 3)):=X1 (a:=3) (by omega) (Vaf _);have ht3:(ws.drop 3).take (ws.length - 3)=ws.drop 3:=Va7 (by simp);obtain⟨d,d1,d2,_,d4⟩:=Zfa (ws:=(ws.drop 1).take (3 - 1)) (by simp;omega) λw hw'=>hwz w (Va9 (Vba hw'));have hjn:(Lib.join ((ws.drop 3).map L8) (L8 (Zd [32]))).length<=1048576:=by
       rw[Zw,List.map_drop,w2];have:=Z5d (c:=32) (l:=L8 vs[j]) (k:=3) (by rw[<-w2];simpa using h3);rw[<-Z5] at this;omega
      obtain⟨q,q1,q2⟩:=Zs2 (x:=⟨(Lib.join ((ws.drop 3).map L8) (L8 (Zd [32]))).toArray⟩) (by rw[Z5,Xt (Lib.join _ _)];exact hjn);rw[s13,ZZa,d1,ZZa,s3,ZZa,ht3,Zla (by simp;omega) (by omega),ZZa,q1,ZZa];unfold Ki;rw[Xr (by omega)];by_cases hd:d.2=true
      .rw[ZZi (by simp[hd])]
       by_cases hq:q.2=true
       .have hdl:d.1.length=2:=by rw[d4 hd];simp;omega
        have j0:idx d.1 0=some d.1[0]:=Z1 (k:=0) (by omega);have j1:idx d.1 1=some d.1[1]:=Z1 (k:=1) (by omega);have Zvb:=hz.few;rw[ZZi (by simp[hq]),j0,ZZa,j1,ZZa,W0 (by simp;omega) (by simp;omega),ZZa];refine ih (j+1) _ (by omega) (by omega) (Zxy hz (p:=⟨d.1[0],d.1[1],q.1⟩) ⟨d2 _ (Vai _),d2 _ (Vai _),?_⟩ (hxy (Zv2 h2 Za5 w2 (by omega))));rcases q2 with rfl|⟨_,q3⟩
        .exact .inr rfl
        .exact .inl q3.1
       .rw[ZZj (by simp[hq])]
        exact⟨_,rfl,.inl rfl⟩
      .rw[ZZj (by simp[hd]),ZZj rfl]
       exact⟨_,rfl,.inl rfl⟩
     .rw[i0,ZZa]
      split
      .exact j4 true
      .exact j4 _
    split
    .exact j2 _ λh=>by have:=of_decide_eq_true h;omega
    .exact j2 false λh=>by cases h
   .rw[ZZi (by simpa using hc),Zjj (hz.n (by omega)),ZZa]
    obtain⟨r,e1,e2,_⟩:=Zp1 hz (by omega);exact⟨r,e1,e2⟩
 unfold Qz;rw[t1,ZZa,h1,ZZa];exact key FU 0 _ (Vbb _) (by have:=Wj;omega) (Zze x)
theorem Zs4 {x:ByteArray} (hx:x.size<=1048576):∃r,Q1 x=some r/\Qz x=some r/\Zfg x r:=by
 obtain⟨r,h1,h2⟩:=Zol hx;obtain⟨q,h3,h4⟩:=Znl hx;refine⟨r,h1,?_,h2⟩;rcases h2 with rfl|⟨hr,hc⟩
 .rcases h4 with rfl|⟨hq,hd⟩
  .exact h3
  .rw[Zn7 hd hx] at h1
   injection h1 with h1;injection h1 with _ h1;cases h1
 .rw[Zo8 hc hx]
  obtain⟨r1,r2⟩:=r;simp only at hr;rw[hr]
theorem Z3g {k:Int} (h0:0<=k) (h1:k < 1152921504606846976):w1 k=k+1:=by
 simp[w1,IntKind.wrap,IntKind.bits,IntKind.signed];omega
theorem Z2b {k:Int}:Zq k 1=w1 k:=rfl
theorem b3_rem {k:Int}:decide (Zf1 k 3=0)=b3 k:=rfl
def Inc {α:Type} (f:α->Int->α×Int) (w:α->Nat):Prop:=∀x k,0<=k->k+(w x:Int)<=1152921504606846976->(f x k).2=k+(w x:Int)
def J7 {α:Type} (w:α->Nat) (l:List α):Nat:=(l.map w).sum
section
variable {α:Type} {f:α->Int->α×Int} {w:α->Nat}
theorem Zcf {x:α} {l:List α}:J7 w (x::l)=w x+J7 w l:=by simp[J7]
theorem Z16 (hf:Inc f w):∀{j:Nat} {l:List α} {k:Int},0<=k->k+(J7 w l:Int)<=1152921504606846976->(mkN f j l k).2=k+(J7 w (l.take j):Int):=by
 intro j
 induction j with
 | zero=>intro l k _ _;simp[mkN,J7]
 | succ j ih=>
  intro l k h0 h1;cases l with
  | nil=>simp[mkN,J7]
  | cons x l=>
   rw[Zcf] at h1;have e:=hf x k h0 (by omega);simp only[mkN,Vdg,Zcf];rw[ih (by rw[e];omega) (by rw[e];omega),e];omega
theorem Z2g (hf:Inc f w) {l:List α} {k:Int} (h0:0<=k) (h1:k+(J7 w l:Int)<=1152921504606846976):(mkL f l k).2=k+(J7 w l:Int):=by
 rw[<-Zpw,Z16 hf h0 h1,Vb8]
theorem Z9v {l:List α} {k:Int}:(mkL f l k).1.length=l.length:=by rw[<-Zpw,Z17]
theorem Z9c:∀{j:Nat} {l:List α} {k:Int} {x:α},l[j]?=some x->(mkL f l k).1[j]?=some (f x (mkN f j l k).2).1/\(mkN f (j+1) l k).2=(f x (mkN f j l k).2).2:=by
 intro j
 induction j with
 | zero=>
  intro l k x h;cases l with
  | nil=>simp at h
  | cons y l=>
   have e:y=x:=by simpa using h
   subst e;exact⟨rfl,rfl⟩
 | succ j ih=>
  intro l k x h;cases l with
  | nil=>simp at h
  | cons y l=>
   obtain⟨h1,h2⟩:=ih (l:=l) (k:=(f y k).2) (x:=x) (by simpa using h);exact⟨by simpa [mkL,mkN] using h1,by simpa [mkN] using h2⟩
theorem Z91 {l:List α} {j:Nat} {x:α} (h:l[j]?=some x):J7 w (l.take j)+w x<=J7 w l:=by
 induction l generalizing j with
 | nil=>simp at h
 | cons y l ih=>
  cases j with
  | zero=>
   have e:y=x:=by simpa using h
   subst e;rw[Zcf];simp[J7]
  | succ j=>
   have:=ih (j:=j) (by simpa using h);rw[Vdg,Zcf,Zcf];omega
theorem Zvo (hf:Inc f w) (l:List α) (k:Int) (hl:l.length < 1048577) (h0:0<=k) (h1:k+(J7 w l:Int)<=1152921504606846976) {B:(Int->Int->Option Int)->Int->Int->Option Int} {L:Nat->Int->Int->Option Int} (hL:∀m s i,L (m+1) s i=B (L m) s i)
  (step:∀(κ:Int->Int->Option Int) (j:Nat) (x:α) (c:Int),(hj:j < (mkL f l k).1.length)->x∈l->0<=c->c+(w x:Int)<=1152921504606846976->(mkL f l k).1[j]=(f x c).1->B κ c (j:Int)=κ (f x c).2 (Zq (j:Int) 1))
  (fin:∀(κ:Int->Int->Option Int) (c:Int),B κ c ((mkL f l k).1.length:Int)=some c):L FU k 0=some (mkL f l k).2:=by
 have hn:(mkL f l k).1.length=l.length:=Z9v;refine Zeh (n:=(mkL f l k).1.length) (by omega) (λj=>(mkN f j l k).2) hL (λj hj κ=>?_) (λκ=>?_)
 .have hx:l[j]?=some (l[j]'(by omega)):=Vab (by omega)
  obtain⟨e1,e2⟩:=Z9c (f:=f) (k:=k) hx;have e3:(mkL f l k).1[j]=(f (l[j]'(by omega)) (mkN f j l k).2).1:=by
   rw[Vab hj] at e1;injection e1
  have e4:=Z16 hf (j:=j) h0 h1;have e5:=Z91 (w:=w) hx;rw[e2];exact step κ j _ _ hj (Vai _) (by rw[e4];omega) (by rw[e4];omega) e3
 .rw[hn,Zpw,<-hn];exact fin κ _
end
theorem Zy3 {α:Type} (n:Nat) (l:List α):J7 (λ_=>n) l=n*l.length:=by
 induction l with
 | nil=>rfl
 | cons x l ih=>rw[Zcf,ih,Vad,Nat.mul_succ];omega
theorem Z15:Inc Xc (λ_=>1):=λx k h0 h1=>by
 have h2:k+1<=1152921504606846976:=h1;simp only[Xc];simp (discharger:=omega) only[Z3g];rfl
theorem Zi2 {l:List Int} {k:Int} (h0:0<=k) (h1:k+(l.length:Int)<=1152921504606846976):(mkL Xc l k).2=k+(l.length:Int):=by
 have e:=Zy3 (α:=Int) 1 l;have:=Z2g Z15 (l:=l) h0 (by rw[e];omega);rw[this,e];omega
theorem Zlu (l:List Int) (k:Int) (hl:l.length < 1048577) (h0:0<=k) (h1:k+(l.length:Int)<=1152921504606846976):Zan (mkL Xc l k).1 k=some (mkL Xc l k).2:=by
 unfold Zan;refine Zvo Z15 l k hl h0 (by rw[Zy3];omega) (B:=λκ st j=>Zab (mkL Xc l k).1 k κ st j) (λm s i=>rfl) (λκ j x c hj hx hc hm e=>?_) (λκ c=>?_)
 .unfold Zab
  rw[ZZj (by simpa using hj),Z1 hj,ZZa,e];simp[Xc,Z2b]
 .unfold Zab
  rw[ZZi (by simp)]
def Zj.tot (r:Zj):Nat:=r.data_.length
theorem Z9l {α:Type} (xs:List α) (hl:xs.length < 4611686018427387904) (e:α->α->Option Bool) (L:Nat->Int->Option Bool)
  (hL:∀m i,L (m+1) i=if decide (i < (xs.length:Int))=true then (idx xs i).bind λa=>(idx xs i).bind λb=>(e a b).bind λr=>if (!r)=true then some false else L m (Zq i 1) else some true)
  (he:∀a∈xs,e a a=some true):(if decide ((xs.length:Int)≠(xs.length:Int))=true then some false else L FU 0)=some true:=by
 rw[ZZi (by simp)];refine Zmj (n:=xs.length) hl (B:=λκ i=>if decide (i < (xs.length:Int))=true then (idx xs i).bind λa=>(idx xs i).bind λb=>(e a b).bind λr=>if (!r)=true then some false else κ (Zq i 1) else some true) (L:=L) hL (λk hk κ=>?_) λκ=>?_
 .rw[ZZj (by simpa using hk),Z1 hk,ZZa,ZZa,he _ (Vai hk)]
  rfl
 .rw[ZZi (by simp)]
theorem Zkf (xs:List Int) (hl:xs.length < 1048577):Zc6 xs xs=some true:=by
 unfold Zc6;rw[ZZi (by simp)];refine Zmj (n:=xs.length) (by omega) (B:=Zb1 xs xs) (L:=Zc1 xs xs) (λm i=>rfl) (λk hk κ=>?_) λκ=>?_
 .unfold Zb1
  rw[ZZj (by simpa using hk),Z1 hk];simp
 .unfold Zb1
  rw[ZZi (by simp)]
theorem Z3a (r:Zj) (h:r.data_.length < 1048577):Zjw r r=some true:=by
 unfold Zjw;rw[Zkf _ h];simp
def Zf.tot (p:Zf):Nat:=p.req.tot
theorem Z06 (p:Zf) (h:p.tot < 1048577):Ze1 p p=some true:=by
 unfold Ze1;rw[Z3a _ h];simp
theorem Z7t {r:Zj} (h:Ws r=true):r.data_.length < 1000:=by
 have:=Zs5 h;unfold Ws at h;simp only[ZZg,ZZl] at h;have h1:=h.2.1;have:Yr r.burst<=16:=by unfold Yr;repeat (first|omega|split)
 split at h1<;>omega
def Zhm (p:Zf):Nat:=7+p.req.data_.length
theorem Zzi:Inc Xh Zhm:=λx k h0 h1=>by
 have h3:k+((7+x.req.data_.length:Nat):Int)<=1152921504606846976:=h1;show _=k+((7+x.req.data_.length:Nat):Int);have h2:k+7+(x.req.data_.length:Int)<=1152921504606846976:=by omega
 simp only[Xh];simp (discharger:=omega) only[Z3g];rw[Zi2 (by omega) (by omega)];omega
theorem Z0v (l:List Zf) (k:Int) (hl:l.length < 1048577) (hd:∀p∈l,p.req.data_.length < 1048577) (h0:0<=k) (h1:k+(J7 Zhm l:Int)<=1152921504606846976):Zdy (mkL Xh l k).1 k=some (mkL Xh l k).2:=by
 unfold Zdy;refine Zvo Zzi l k hl h0 h1 (B:=λκ st j=>Jp (mkL Xh l k).1 k κ st j) (λm s i=>rfl) (λκ j x c hj hx hc hm e=>?_) (λκ c=>?_)
 .have h2:c+7+(x.req.data_.length:Int)<=1152921504606846976:=by unfold Zhm at hm;omega
  have e5:w1 (w1 (w1 (w1 (w1 (w1 (w1 c))))))=c+7:=by
   simp (discharger:=omega) only[Z3g];omega
  have e6:=Zi2 (l:=x.req.data_) (k:=c+7) (by omega) (by omega);have e7:=Zlu x.req.data_ (c+7) (hd x hx) (by omega) (by omega);unfold Jp;rw[ZZj (by simpa using hj),Z1 hj,ZZa,e];have e8:Zq (Zq (Zq (Zq (Zq (Zq (Zq c 1) 1) 1) 1) 1) 1) 1=c+7:=e5
  try simp only[b3_rem]
  simp only[Xh,e8,e5,e7,ZZa,e6];rw[ZZi (show ¬decide (c+7+(x.req.data_.length:Int) < 0)=true by simp;omega)];simp[Z2b]
 .unfold Jp
  rw[ZZi (by simp)]
structure Zrp (z:Za):Prop where
 posts:z.posts.length < 1048577
 reqs:∀p∈z.posts,p.req.data_.length < 1000
 waits:z.waits.length < 1048577
 says:z.says.length < 1048577
theorem ans_b {x:ByteArray} (hx:x.size<=1048576) {r:Za×Bool} (h:Zfg x r):Zrp r.1:=by
 rcases h with rfl|⟨_,h⟩
 .exact⟨by simp[Za.z0],λp hp=>by simp[Za.z0] at hp,by simp[Za.z0],by simp[Za.z0]⟩
 .exact⟨by have:=Zup h hx;omega,λp hp=>Z7t (h.reqs p hp).2.2,h.w.1,h.s.1⟩
theorem Z3p {l:List Zf} (h:∀p∈l,p.req.data_.length < 1000):J7 Zhm l<=1007*l.length:=by
 induction l with
 | nil=>simp[J7]
 | cons p l ih=>
  have h1:=h p Vaa;have:=ih λq hq=>h q (Vac _ hq);rw[Zcf,Vad];unfold Zhm at*;omega
theorem Z35 {a:Int} (h:0<=a):¬decide (a < 0)=true:=by simp;omega
theorem Zrp.held {z:Za} (h:Zrp z):Zc4 (Yc z 1).1 1=some (Yc z 1).2/\0<=(Yc z 1).2:=by
 have hp:=h.posts;have hw:=h.waits;have hs:=h.says;have ht:=Z3p h.reqs;have a1:=Z2g Zzi (l:=z.posts) (k:=1) (by omega) (by omega);have b1:=Z0v z.posts 1 hp (λp hp=>by have:=h.reqs p hp;omega) (by omega) (by omega);rw[a1] at b1;have a2:=Zi2 (l:=z.waits) (k:=1+(J7 Zhm z.posts:Int)) (by omega) (by omega);have b2:=Zlu z.waits (1+(J7 Zhm z.posts:Int)) hw (by omega) (by omega);rw[a2] at b2;have a3:=Zi2 (l:=z.says) (k:=1+(J7 Zhm z.posts:Int)+(z.waits.length:Int)) (by omega) (by omega);have b3':=Zlu z.says (1+(J7 Zhm z.posts:Int)+(z.waits.length:Int)) hs (by omega) (by omega);rw[a3] at b3';constructor
 .unfold Zc4
  simp only[Yc,a1,a2,a3];rw[b1,ZZa,ZZi (Z35 (by omega)),b2,ZZa,ZZi (Z35 (by omega)),b3',ZZa,ZZi (Z35 (by omega))]
 .simp only[Yc,a1,a2,a3]
  omega
theorem Zrp.eq {z:Za} (h:Zrp z):Zep z z=some true:=by
 have hp:=h.posts;have e2:Zgc z.posts z.posts=some true:=by
  unfold Zgc;exact Z9l z.posts (by omega) Ze1 (Zb3 z.posts z.posts) (λm i=>rfl) (λa ha=>Z06 a (by have:=h.reqs a ha;unfold Zf.tot Zj.tot;omega))
 unfold Zep;rw[e2,ZZa,ZZi (by simp),Zkf _ h.waits,ZZa,ZZi (by simp),Zkf _ h.says];simp
theorem Zrp.mok {z:Za} (h:Zrp z):z.mok:=by
 have hp:=h.posts;have hw:=h.waits;have hs:=h.says;refine⟨⟨by omega,λp hp=>?_⟩,by omega,by omega⟩;have:=h.reqs p hp;omega
theorem Zi1 (x:ByteArray):x=x:=rfl
theorem Zk3 [Anchor] [ExtOk] {x:ByteArray} (h:x=x):Z4 Tryz.prog Mo (3,[.lit (.string x)],.lit (.bool true),[.undef]):=by
 by_cases hb:x.size<=1048576
 .obtain⟨r,h1,h2,h3⟩:=Zs4 hb
  have hz:=ans_b hb h3;have hh:=hz.held;exact Zk8 x r.1 r.2 (by simp;omega) h1 h2 hz.eq hz.mok hh.1 hh.2
 .exact Zhl x (by simp;omega)
end Go.Proofs.YthdljdelfgofdaaGreatDoor.Ev
