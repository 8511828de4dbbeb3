/- A part of the proof of FnExactSolo: see the text YtagdmghmblplbaaGreatLawFnExactSolo for what is proved and its conditions. Conditions here: those in each line. -/
import Derived.Test.YtagdmghmblplbaaGreatA8
import Derived.KernelRfl
set_option linter.unusedSimpArgs false
set_option linter.unusedVariables false
set_option linter.unusedSectionVars false
namespace Go.Proofs.YtagdmghmblplbaaGreat.Ev
open Go Go.Proofs Go.RowKit KM
abbrev w1 (k:Int):Int:=IntKind.i64.wrap (k+1)
abbrev b3 (k:Int):Bool:=decide (k.tmod 3=0)
def sqL:Code->Code
 | .seq a _=>a
 | c=>c
def sqR:Code->Code
 | .seq _ b=>b
 | c=>c
def blC:Code->Code
 | .block _ c=>c
 | c=>c
def lpC:Code->Code
 | .loop c=>c
 | c=>c
theorem Yd0 {i:Nat} (h:i < 1152921504606846976):w1 (i:Int)=((i+1:Nat):Int):=by
 unfold w1;simp[IntKind.wrap,IntKind.bits,IntKind.signed];omega
abbrev rs {α:Type} (e:α->List V) (l:List α) (i:Nat) (r:List V):List (List V):=(l.map e).set i r
abbrev nn (i:Nat):Prop:=Xq (toV (.lit (.int .i64 (i:Int))))=some i
theorem Ydj {α:Type} {e:α->List V} {l:List α} {i:Nat} {a:α} (h:l[i]?=some a):decide ((i:Int) < ((l.map e).length:Int))=true:=by
 have:=(ZZh.1 h).1;simp;omega
theorem Zq6 {α:Type} {e:α->List V} {l:List α} {i:Nat} {a:α} (h:l[i]?=some a):(l.map e)[i]?=some (e a):=by
 rw[Va8,h];rfl
section
variable [Anchor]
theorem Wg {α:Type} {e:α->List V} {l:List α} {i:Nat} {a:α} (h:l[i]?=some a) (r:List V):((l.map e).set i r)[i]?=some r:=set_at (Zq6 h)
def Zf4 (_:Int) (k:Int):Int×Int:=(k,w1 k)
def rInt1 (a:Int) (k:Int):List V:=(Ze a).set 0 (.lit (.int .i64 (k)))
theorem Zzb {rows:List (List V)} {i:Nat} {r r':List V}:(rows.set i r).set i r'=rows.set i r':=by rw[Vek]
theorem set3 {α:Type} {e:α->List V} {l:List α} {i:Nat} {a:α} {r r':List V} (h:e a=r'):((l.map e).set i r).set i r'=(l.set i a).map e:=by rw[Vek,map_set,h]
theorem Yqm (l:List Int) (k:Int) (hl:l.length<=1152921504606846976):Zix Tryz.prog 57 false [.tr (l.map Ze)] [.tr ((mkL Zf4 l k).1.map Ze)] k (mkL Zf4 l k).2:=by
 refine Z4q (M:=Mo) fOk (fn:=Tryz.f57) (r0:=sqL (Qw Tryz.f57)) (r1:=sqL (sqL (sqR (Qw Tryz.f57)))) (body:=lpC (blC (sqR (sqL (sqR (Qw Tryz.f57)))))) (post:=sqR (sqR (Qw Tryz.f57))) (f:=Zf4) (by kernel_rfl) (by kernel_rfl) (by kernel_rfl) l k (Qp:=λ_=>True) (λ_ _=>trivial) hl (λts=>by kernel_rfl) (λl k z e ob bk bx u=>by kernel_rfl) (λl k z e ob bk bx u=>by kernel_rfl) (λl k z e i ob bk bx u=>by kernel_rfl) λl i a k z e ob bk bx u h hi hq=>
  Zjx (M:=Mo) fOk 100 [.t true,.row i (Ze a),.put (Ze a) ((l.set i (Zf4 a k).1).map Ze)]
   (p:=(decide ((i:Int) < ((l.map Ze).length:Int))=true)/\(nn i)/\((l.map Ze)[i]?=some (Ze a))/\((l.map Ze)[i]?=some (Ze a))/\((l.map Ze).set i (rInt1 a k)=((l.set i (Zf4 a k).1).map Ze))/\True)
   ⟨Ydj h,Jy,Zq6 h,Zq6 h,map_set.symm,trivial⟩ (ts:=[0,1,5]) (ks:=[0]) (e:=.normal) (vs:=[.ob 0,.lit (.int .i64 (w1 k)),.lit (.int .i64 (w1 (i:Int)))]) (bs:=[some ⟨true,z,e,((l.set i (Zf4 a k).1).map Ze)⟩]) (by kernel_rfl) (λs h1 h2=>⟨rfl,.of (by rw[h1,Yd0 hi];rfl) h2⟩)
def Xw (x:Zm) (k:Int):Zm×Int:=({x with cycle:=k,who:=w1 k,write:=b3 (w1 (w1 k)),addr:=w1 (w1 (w1 k)),size:=w1 (w1 (w1 (w1 k))),value:=w1 (w1 (w1 (w1 (w1 k)))),resp:=w1 (w1 (w1 (w1 (w1 (w1 k)))))},w1 (w1 (w1 (w1 (w1 (w1 (w1 k)))))))
def Zl5 (a:Zm) (k:Int):List V:=(Zm.enc a).set 0 (.lit (.int .i64 (k)))
def Zmk (a:Zm) (k:Int):List V:=(Zl5 a k).set 1 (.lit (.int .i64 (w1 k)))
def Zl9 (a:Zm) (k:Int):List V:=(Zmk a k).set 2 (.lit (.bool (b3 (w1 (w1 k)))))
def Zmm (a:Zm) (k:Int):List V:=(Zl9 a k).set 3 (.lit (.int .i64 (w1 (w1 (w1 k)))))
def Zl2 (a:Zm) (k:Int):List V:=(Zmm a k).set 4 (.lit (.int .i64 (w1 (w1 (w1 (w1 k))))))
def Zm4 (a:Zm) (k:Int):List V:=(Zl2 a k).set 5 (.lit (.int .i64 (w1 (w1 (w1 (w1 (w1 k)))))))
def rDone7 (a:Zm) (k:Int):List V:=(Zm4 a k).set 6 (.lit (.int .i64 (w1 (w1 (w1 (w1 (w1 (w1 k))))))))
theorem Ymf (l:List Zm) (k:Int) (hl:l.length<=1152921504606846976):Zix Tryz.prog 19 false [.tr (l.map Zm.enc)] [.tr ((mkL Xw l k).1.map Zm.enc)] k (mkL Xw l k).2:=by
 refine Z4q (M:=Mo) fOk (fn:=Tryz.f19) (r0:=sqL (Qw Tryz.f19)) (r1:=sqL (sqL (sqR (Qw Tryz.f19)))) (body:=lpC (blC (sqR (sqL (sqR (Qw Tryz.f19)))))) (post:=sqR (sqR (Qw Tryz.f19))) (f:=Xw) (by kernel_rfl) (by kernel_rfl) (by kernel_rfl) l k (Qp:=λ_=>True) (λ_ _=>trivial) hl (λts=>by kernel_rfl) (λl k z e ob bk bx u=>by kernel_rfl) (λl k z e ob bk bx u=>by kernel_rfl) (λl k z e i ob bk bx u=>by kernel_rfl) λl i a k z e ob bk bx u h hi hq=>
  Zjx (M:=Mo) fOk 100 [.t true,.row i (Zm.enc a),.put (Zm.enc a) (rs Zm.enc l i (Zl5 a k)),.row i (Zl5 a k),.put (Zl5 a k) (rs Zm.enc l i (Zmk a k)),.k,.row i (Zmk a k),.put (Zmk a k) (rs Zm.enc l i (Zl9 a k)),.row i (Zl9 a k),.put (Zl9 a k) (rs Zm.enc l i (Zmm a k)),.row i (Zmm a k),.put (Zmm a k) (rs Zm.enc l i (Zl2 a k)),.row i (Zl2 a k),.put (Zl2 a k) (rs Zm.enc l i (Zm4 a k)),.row i (Zm4 a k),.put (Zm4 a k) ((l.set i (Xw a k).1).map Zm.enc)]
   (p:=(decide ((i:Int) < ((l.map Zm.enc).length:Int))=true)/\(nn i)/\((l.map Zm.enc)[i]?=some (Zm.enc a))/\((l.map Zm.enc)[i]?=some (Zm.enc a))/\((l.map Zm.enc).set i (Zl5 a k)=(rs Zm.enc l i (Zl5 a k)))/\(nn i)/\((rs Zm.enc l i (Zl5 a k))[i]?=some (Zl5 a k))/\((rs Zm.enc l i (Zl5 a k))[i]?=some (Zl5 a k))/\((rs Zm.enc l i (Zl5 a k)).set i (Zmk a k)=(rs Zm.enc l i (Zmk a k)))/\(nn i)/\((rs Zm.enc l i (Zmk a k))[i]?=some (Zmk a k))/\((rs Zm.enc l i (Zmk a k))[i]?=some (Zmk a k))/\((rs Zm.enc l i (Zmk a k)).set i (Zl9 a k)=(rs Zm.enc l i (Zl9 a k)))/\(nn i)/\((rs Zm.enc l i (Zl9 a k))[i]?=some (Zl9 a k))/\((rs Zm.enc l i (Zl9 a k))[i]?=some (Zl9 a k))/\((rs Zm.enc l i (Zl9 a k)).set i (Zmm a k)=(rs Zm.enc l i (Zmm a k)))/\(nn i)/\((rs Zm.enc l i (Zmm a k))[i]?=some (Zmm a k))/\((rs Zm.enc l i (Zmm a k))[i]?=some (Zmm a k))/\((rs Zm.enc l i (Zmm a k)).set i (Zl2 a k)=(rs Zm.enc l i (Zl2 a k)))/\(nn i)/\((rs Zm.enc l i (Zl2 a k))[i]?=some (Zl2 a k))/\((rs Zm.enc l i (Zl2 a k))[i]?=some (Zl2 a k))/\((rs Zm.enc l i (Zl2 a k)).set i (Zm4 a k)=(rs Zm.enc l i (Zm4 a k)))/\(nn i)/\((rs Zm.enc l i (Zm4 a k))[i]?=some (Zm4 a k))/\((rs Zm.enc l i (Zm4 a k))[i]?=some (Zm4 a k))/\((rs Zm.enc l i (Zm4 a k)).set i (rDone7 a k)=((l.set i (Xw a k).1).map Zm.enc))/\True)
   ⟨Ydj h,Jy,Zq6 h,Zq6 h,rfl,Jy,Wg h _,Wg h _,Zzb,Jy,Wg h _,Wg h _,Zzb,Jy,Wg h _,Wg h _,Zzb,Jy,Wg h _,Wg h _,Zzb,Jy,Wg h _,Wg h _,Zzb,Jy,Wg h _,Wg h _,set3 rfl,trivial⟩ (ts:=[0,1,5]) (ks:=[0]) (e:=.normal) (vs:=[.ob 0,.lit (.int .i64 (w1 (w1 (w1 (w1 (w1 (w1 (w1 k)))))))),.lit (.int .i64 (w1 (i:Int)))]) (bs:=[some ⟨true,z,e,((l.set i (Xw a k).1).map Zm.enc)⟩]) (by kernel_rfl) (λs h1 h2=>⟨rfl,.of (by rw[h1,Yd0 hi];rfl) h2⟩)
def Zcf (x:Zc) (k:Int):Zc×Int:=({x with weight:=k,prio:=b3 (w1 k),every:=w1 (w1 k),cap:=w1 (w1 (w1 k))},w1 (w1 (w1 (w1 k))))
def Zhk (a:Zc) (k:Int):List V:=(Zc.enc a).set 0 (.lit (.int .i64 (k)))
def Zhl (a:Zc) (k:Int):List V:=(Zhk a k).set 1 (.lit (.bool (b3 (w1 k))))
def Zhj (a:Zc) (k:Int):List V:=(Zhl a k).set 2 (.lit (.int .i64 (w1 (w1 k))))
def Y2n (a:Zc) (k:Int):List V:=(Zhj a k).set 3 (.lit (.int .i64 (w1 (w1 (w1 k)))))
theorem Yjp (l:List Zc) (k:Int) (hl:l.length<=1152921504606846976):Zix Tryz.prog 56 false [.tr (l.map Zc.enc)] [.tr ((mkL Zcf l k).1.map Zc.enc)] k (mkL Zcf l k).2:=by
 refine Z4q (M:=Mo) fOk (fn:=Tryz.f56) (r0:=sqL (Qw Tryz.f56)) (r1:=sqL (sqL (sqR (Qw Tryz.f56)))) (body:=lpC (blC (sqR (sqL (sqR (Qw Tryz.f56)))))) (post:=sqR (sqR (Qw Tryz.f56))) (f:=Zcf) (by kernel_rfl) (by kernel_rfl) (by kernel_rfl) l k (Qp:=λ_=>True) (λ_ _=>trivial) hl (λts=>by kernel_rfl) (λl k z e ob bk bx u=>by kernel_rfl) (λl k z e ob bk bx u=>by kernel_rfl) (λl k z e i ob bk bx u=>by kernel_rfl) λl i a k z e ob bk bx u h hi hq=>
  Zjx (M:=Mo) fOk 100 [.t true,.row i (Zc.enc a),.put (Zc.enc a) (rs Zc.enc l i (Zhk a k)),.k,.row i (Zhk a k),.put (Zhk a k) (rs Zc.enc l i (Zhl a k)),.row i (Zhl a k),.put (Zhl a k) (rs Zc.enc l i (Zhj a k)),.row i (Zhj a k),.put (Zhj a k) ((l.set i (Zcf a k).1).map Zc.enc)]
   (p:=(decide ((i:Int) < ((l.map Zc.enc).length:Int))=true)/\(nn i)/\((l.map Zc.enc)[i]?=some (Zc.enc a))/\((l.map Zc.enc)[i]?=some (Zc.enc a))/\((l.map Zc.enc).set i (Zhk a k)=(rs Zc.enc l i (Zhk a k)))/\(nn i)/\((rs Zc.enc l i (Zhk a k))[i]?=some (Zhk a k))/\((rs Zc.enc l i (Zhk a k))[i]?=some (Zhk a k))/\((rs Zc.enc l i (Zhk a k)).set i (Zhl a k)=(rs Zc.enc l i (Zhl a k)))/\(nn i)/\((rs Zc.enc l i (Zhl a k))[i]?=some (Zhl a k))/\((rs Zc.enc l i (Zhl a k))[i]?=some (Zhl a k))/\((rs Zc.enc l i (Zhl a k)).set i (Zhj a k)=(rs Zc.enc l i (Zhj a k)))/\(nn i)/\((rs Zc.enc l i (Zhj a k))[i]?=some (Zhj a k))/\((rs Zc.enc l i (Zhj a k))[i]?=some (Zhj a k))/\((rs Zc.enc l i (Zhj a k)).set i (Y2n a k)=((l.set i (Zcf a k).1).map Zc.enc))/\True)
   ⟨Ydj h,Jy,Zq6 h,Zq6 h,rfl,Jy,Wg h _,Wg h _,Zzb,Jy,Wg h _,Wg h _,Zzb,Jy,Wg h _,Wg h _,set3 rfl,trivial⟩ (ts:=[0,1,5]) (ks:=[0]) (e:=.normal) (vs:=[.ob 0,.lit (.int .i64 (w1 (w1 (w1 (w1 k))))),.lit (.int .i64 (w1 (i:Int)))]) (bs:=[some ⟨true,z,e,((l.set i (Zcf a k).1).map Zc.enc)⟩]) (by kernel_rfl) (λs h1 h2=>⟨rfl,.of (by rw[h1,Yd0 hi];rfl) h2⟩)
def Zez (x:Zb) (k:Int):Zb×Int:=({x with write:=b3 (k),addr:=w1 k,size:=w1 (w1 k),burst:=w1 (w1 (w1 k)),lock:=b3 (w1 (w1 (w1 (w1 k)))),data_:=(mkL Zf4 x.data_ (w1 (w1 (w1 (w1 (w1 k)))))).1},(mkL Zf4 x.data_ (w1 (w1 (w1 (w1 (w1 k)))))).2)
def Zrl (a:Zb) (k:Int):List V:=(Zb.enc a).set 0 (.lit (.bool (b3 (k))))
def Zrb (a:Zb) (k:Int):List V:=(Zrl a k).set 1 (.lit (.int .i64 (w1 k)))
def Zsk (a:Zb) (k:Int):List V:=(Zrb a k).set 2 (.lit (.int .i64 (w1 (w1 k))))
def Zq1 (a:Zb) (k:Int):List V:=(Zsk a k).set 3 (.lit (.int .i64 (w1 (w1 (w1 k)))))
def Zle (a:Zb) (k:Int):List V:=(Zq1 a k).set 4 (.lit (.bool (b3 (w1 (w1 (w1 (w1 k)))))))
def rReq6 (a:Zb) (k:Int):List V:=(Zle a k).set 5 (.tr ((mkL Zf4 a.data_ (w1 (w1 (w1 (w1 (w1 k)))))).1.map Ze))
theorem Yq5 (l:List Zb) (k:Int) (hl:l.length<=1152921504606846976) (hq:∀x∈l,x.data_.length<=1152921504606846976):Zix Tryz.prog 18 false [.tr (l.map Zb.enc)] [.tr ((mkL Zez l k).1.map Zb.enc)] k (mkL Zez l k).2:=by
 refine Z4q (M:=Mo) fOk (fn:=Tryz.f18) (r0:=sqL (Qw Tryz.f18)) (r1:=sqL (sqL (sqR (Qw Tryz.f18)))) (body:=lpC (blC (sqR (sqL (sqR (Qw Tryz.f18)))))) (post:=sqR (sqR (Qw Tryz.f18))) (f:=Zez) (by kernel_rfl) (by kernel_rfl) (by kernel_rfl) l k (Qp:=λx=>x.data_.length<=1152921504606846976) hq hl (λts=>by kernel_rfl) (λl k z e ob bk bx u=>by kernel_rfl) (λl k z e ob bk bx u=>by kernel_rfl) (λl k z e i ob bk bx u=>by kernel_rfl) λl i a k z e ob bk bx u h hi hq=>
  Zjx (M:=Mo) fOk 100 [.t true,.k,.row i (Zb.enc a),.put (Zb.enc a) (rs Zb.enc l i (Zrl a k)),.row i (Zrl a k),.put (Zrl a k) (rs Zb.enc l i (Zrb a k)),.row i (Zrb a k),.put (Zrb a k) (rs Zb.enc l i (Zsk a k)),.row i (Zsk a k),.put (Zsk a k) (rs Zb.enc l i (Zq1 a k)),.k,.row i (Zq1 a k),.put (Zq1 a k) (rs Zb.enc l i (Zle a k)),.row i (Zle a k),.cell (Zle a k),.put (Zle a k) ((l.set i (Zez a k).1).map Zb.enc),.res (.lit (.int .i64 (mkL Zf4 a.data_ (w1 (w1 (w1 (w1 (w1 k)))))).2)) [.tr ((mkL Zf4 a.data_ (w1 (w1 (w1 (w1 (w1 k)))))).1.map Ze)]]
   (p:=(decide ((i:Int) < ((l.map Zb.enc).length:Int))=true)/\(nn i)/\((l.map Zb.enc)[i]?=some (Zb.enc a))/\((l.map Zb.enc)[i]?=some (Zb.enc a))/\((l.map Zb.enc).set i (Zrl a k)=(rs Zb.enc l i (Zrl a k)))/\(nn i)/\((rs Zb.enc l i (Zrl a k))[i]?=some (Zrl a k))/\((rs Zb.enc l i (Zrl a k))[i]?=some (Zrl a k))/\((rs Zb.enc l i (Zrl a k)).set i (Zrb a k)=(rs Zb.enc l i (Zrb a k)))/\(nn i)/\((rs Zb.enc l i (Zrb a k))[i]?=some (Zrb a k))/\((rs Zb.enc l i (Zrb a k))[i]?=some (Zrb a k))/\((rs Zb.enc l i (Zrb a k)).set i (Zsk a k)=(rs Zb.enc l i (Zsk a k)))/\(nn i)/\((rs Zb.enc l i (Zsk a k))[i]?=some (Zsk a k))/\((rs Zb.enc l i (Zsk a k))[i]?=some (Zsk a k))/\((rs Zb.enc l i (Zsk a k)).set i (Zq1 a k)=(rs Zb.enc l i (Zq1 a k)))/\(nn i)/\((rs Zb.enc l i (Zq1 a k))[i]?=some (Zq1 a k))/\((rs Zb.enc l i (Zq1 a k))[i]?=some (Zq1 a k))/\((rs Zb.enc l i (Zq1 a k)).set i (Zle a k)=(rs Zb.enc l i (Zle a k)))/\(nn i)/\((rs Zb.enc l i (Zle a k))[i]?=some (Zle a k))/\((rs Zb.enc l i (Zle a k))[i]?=some (Zle a k))/\((rs Zb.enc l i (Zle a k))[i]?=some (Zle a k))/\(Zix Tryz.prog 57 false [.tr (a.data_.map Ze)] [.tr ((mkL Zf4 a.data_ (w1 (w1 (w1 (w1 (w1 k)))))).1.map Ze)] (w1 (w1 (w1 (w1 (w1 k))))) (mkL Zf4 a.data_ (w1 (w1 (w1 (w1 (w1 k)))))).2)/\((rs Zb.enc l i (Zle a k)).set i (rReq6 a k)=((l.set i (Zez a k).1).map Zb.enc))/\True)
   ⟨Ydj h,Jy,Zq6 h,Zq6 h,rfl,Jy,Wg h _,Wg h _,Zzb,Jy,Wg h _,Wg h _,Zzb,Jy,Wg h _,Wg h _,Zzb,Jy,Wg h _,Wg h _,Zzb,Jy,Wg h _,Wg h _,Wg h _,Yqm _ _ hq,set3 rfl,trivial⟩ (ts:=[0,1,5]) (ks:=[0]) (e:=.normal) (vs:=[.ob 0,.lit (.int .i64 ((mkL Zf4 a.data_ (w1 (w1 (w1 (w1 (w1 k)))))).2)),.lit (.int .i64 (w1 (i:Int)))]) (bs:=[some ⟨true,z,e,((l.set i (Zez a k).1).map Zb.enc)⟩]) (by kernel_rfl) (λs h1 h2=>⟨rfl,.of (by rw[h1,Yd0 hi];rfl) h2⟩)
def Zh.mok (x:Zh):Prop:=(x.masters.length<=1152921504606846976)
def J5 (x:Zh) (k:Int):Zh×Int:=({x with masters:=(mkL Zcf x.masters (k)).1},(mkL Zcf x.masters (k)).2)
theorem Yq2 (x:Zh) (k:Int) (h:x.mok):Zix Tryz.prog 17 true (Zh.enc x) (Zh.enc (J5 x k).1) k (J5 x k).2:=by
 refine mk_ok fOk (fn:=Tryz.f17) (c:=Qw Tryz.f17) (rt:=4) (by kernel_rfl) (by kernel_rfl) (by kernel_rfl) (by show 6<=1000;decide) (.inl rfl) λts=>?_;exact Zjx (M:=Mo) fOk 100 [.res (.lit (.int .i64 (mkL Zcf x.masters (k)).2)) [.tr ((mkL Zcf x.masters (k)).1.map Zc.enc)]]
  (p:=(Zix Tryz.prog 56 false [.tr (x.masters.map Zc.enc)] [.tr ((mkL Zcf x.masters (k)).1.map Zc.enc)] (k) (mkL Zcf x.masters (k)).2)/\True)
  ⟨Yjp _ _ h,trivial⟩ (ts:=[4]) (ks:=[0]) (e:=.ret) (vs:=[.lit (.int .i64 (J5 x k).2)]) (bs:=[some ⟨true,(ts 0).1,(ts 0).2,((J5 x k).1.masters.map Zc.enc)⟩]) (by kernel_rfl)
  (λs h1 h2=>⟨rfl,by simpa using h1,by
   simp only[Va7,Vck,Vdn,and_true] at h2;exact⟨h2,rfl,rfl,rfl,rfl,rfl,trivial⟩⟩)
end
end Go.Proofs.YtagdmghmblplbaaGreat.Ev
namespace Go.Proofs.YtagdmghmblplbaaGreat.Ev
open Go Go.Proofs
theorem Zxt {n:Int} (h1:-9223372036854775808<=n) (h2:n < 9223372036854775808):IntKind.i64.wrap n=n:=w64_of h1 h2
theorem Yn {a b:Int} (h1:-9223372036854775808<=a+b) (h2:a+b < 9223372036854775808):Zu a b=a+b:=Zxt h1 h2
theorem Xa {a b:Int} (h1:-9223372036854775808<=a - b) (h2:a - b < 9223372036854775808):Y9 a b=a - b:=Zxt h1 h2
theorem Zfh {a b:Int} (h1:-9223372036854775808<=a*b) (h2:a*b < 9223372036854775808):Jm a b=a*b:=Zxt h1 h2
theorem X4 {k:Nat} (h:k < 4611686018427387904):Zu (k:Int) 1=((k+1:Nat):Int):=by rw[Yn (by omega) (by omega)];rfl
section
variable {α β σ ρ:Type}
theorem Xp {xs:List α} {k:Nat} (h:k < xs.length):idx xs (k:Int)=some xs[k]:=by
 simp[idx,h]
theorem Qe:4611686018427387904 < FU:=by decide
def Zvz (step:α->σ->Option (σ ⊕ ρ)) (fin:σ->Option ρ):List α->σ->Option ρ
 | [],s=>fin s
 | a::l,s=>(step a s).bind λr=>match r with|.inl s'=>Zvz step fin l s'|.inr x=>some x
def goL (k:σ->Option ρ):σ ⊕ ρ->Option ρ
 | .inl s=>k s
 | .inr x=>some x
theorem Yxy (xs:List α) (hl:xs.length < 4611686018427387904) (step:α->σ->Option (σ ⊕ ρ)) (fin:σ->Option ρ) (L:Nat->σ->Int->Option ρ)
  (hL:∀m s i,L (m+1) s i=if decide (i < (xs.length:Int))=true then (idx xs i).bind λa=>(step a s).bind (goL λs'=>L m s' (Zu i 1)) else fin s):
  ∀(m k:Nat) (s:σ),k<=xs.length->xs.length - k < m->L m s k=Zvz step fin (xs.drop k) s:=by
 intro m
 induction m with
 | zero=>intro k s _ h;omega
 | succ m ih=>
  intro k s hk hm;rw[hL];by_cases hc:k < xs.length
  .have h1:decide ((k:Int) < (xs.length:Int))=true:=by simpa using hc
   rw[ZZj h1,Xp hc,ZZa,Va2 hc];simp only[Zvz]
   congr 1
   funext r
   cases r with
   | inl s'=>
    simp only[goL];rw[X4 (by omega)];exact ih (k+1) s' (by omega) (by omega)
   | inr x=>rfl
  .have h1:¬decide ((k:Int) < (xs.length:Int))=true:=by simpa using hc
   rw[ZZi h1,Vba (by omega)];rfl
theorem Zze (xs:List α) (hl:xs.length < 4611686018427387904) (step:α->σ->Option (σ ⊕ ρ)) (fin:σ->Option ρ) (L:Nat->σ->Int->Option ρ)
  (hL:∀m s i,L (m+1) s i=if decide (i < (xs.length:Int))=true then (idx xs i).bind λa=>(step a s).bind (goL λs'=>L m s' (Zu i 1)) else fin s) (s:σ):
  L FU s 0=Zvz step fin xs s:=by
 have:=Yxy xs hl step fin L hL FU 0 s (Vbj _) (by have:=Qe;omega);simpa using this
theorem Yix (step:α->σ->Option (σ ⊕ ρ)) (fin:σ->Option ρ) (f:σ->α->σ) (I:List α->σ->Prop) (h:∀a l s,I (a::l) s->step a s=some (.inl (f s a))/\I l (f s a)):∀(xs:List α) (s:σ),I xs s->Zvz step fin xs s=fin (xs.foldl f s):=by
 intro xs
 induction xs with
 | nil=>intro s _;rfl
 | cons a l ih=>
  intro s hi;obtain⟨h1,h2⟩:=h a l s hi;simp only[Zvz,h1,ZZa,Vd7];exact ih _ h2
theorem Ybv (xs:List α) (g:α->β) (hl:xs.length < 4611686018427387904) (f:α->Option β) (hf:∀a∈xs,f a=some (g a)) (L:Nat->List β->Int->Option (List β))
  (hL:∀m v i,L (m+1) v i=if decide (i < (xs.length:Int))=true then (idx xs i).bind λa=>(f a).bind λb=>(idx v i).bind λ_=>(Qn v i b).bind λy=>L m y (Zu i 1) else some v) (v:List β) (hv:v.length=xs.length):L FU v 0=some (xs.map g):=by
 have key:∀(m k:Nat) (v:List β),k<=xs.length->xs.length - k < m->v.length=xs.length->v.take k=(xs.take k).map g->L m v k=some (xs.map g):=by
  intro m
  induction m with
  | zero=>intro k v _ h;omega
  | succ m ih=>
   intro k v hk hm hv ht;rw[hL];by_cases hc:k < xs.length
   .have h1:decide ((k:Int) < (xs.length:Int))=true:=by simpa using hc
    have hc2:k < v.length:=by omega
    rw[ZZj h1,Xp hc,ZZa,hf _ (Vao hc),ZZa,Xp hc2,ZZa];simp only[Qn,ZZa];rw[X4 (by omega)];refine ih (k+1) _ (by omega) (by omega) (by simp[hv]) ?_;rw[Vcb,List.take_add_one,List.take_add_one,Vcn,List.take_set_of_le (Vaw _),ht,Vec hc2,Vac hc];rfl
   .have h1:¬decide ((k:Int) < (xs.length:Int))=true:=by simpa using hc
    rw[ZZi h1];rw[Vbi (by omega),Vbi (by omega)] at ht;rw[ht]
 have:=key FU 0 v (Vbj _) (by have:=Qe;omega) hv (by simp);simpa using this
theorem Z2e {sz n:Nat} {z:α} (h1:n*sz<=70368744177664) (h2:n<=9223372036854775807):mkI sz (n:Int) z=some (List.replicate n z):=by
 simp[mkI,h1,h2]
theorem Wa {sz:Nat} {xs ys:List α} (h1:(xs.length+ys.length)*sz<=140737488355328) (h2:xs.length+ys.length<=9223372036854775807):Xt sz xs ys=some (xs++ys):=by
 unfold Xt;rw[ZZj ⟨h1,h2⟩]
end
section
variable {α:Type}
theorem Wt (xs:List α) (i:Int) (a:α):Qn xs i a=some (xs.set i.toNat a):=rfl
def atI [Inhabited α] (xs:List α) (i:Int):α:=xs.getD i.toNat default
theorem Wk [Inhabited α] {xs:List α} {k:Nat} (h:k < xs.length):atI xs (k:Int)=xs[k]:=by
 simp[atI,h]
theorem Xj [Inhabited α] {xs:List α} {i:Int} (h0:0<=i) (h1:i < (xs.length:Int)):idx xs i=some (atI xs i):=by
 obtain⟨k,rfl⟩:∃k:Nat,i=k:=⟨i.toNat,by omega⟩;have hk:k < xs.length:=by omega
 rw[Xp hk,Wk hk]
theorem Zjr [Inhabited α] {xs:List α} {i:Int} (h0:0<=i) (h1:i < (xs.length:Int)):atI xs i∈xs:=by
 obtain⟨k,rfl⟩:∃k:Nat,i=k:=⟨i.toNat,by omega⟩;have hk:k < xs.length:=by omega
 rw[Wk hk];exact Vao hk
theorem Zo6 [Inhabited α] {xs:List α} {i:Int} (a:α) (h0:0<=i) (h1:i < (xs.length:Int)):atI (xs.set i.toNat a) i=a:=by
 obtain⟨k,rfl⟩:∃k:Nat,i=k:=⟨i.toNat,by omega⟩;have hk:k < xs.length:=by omega
 rw[Wk (by simpa using hk)];simp
theorem Yih [Inhabited α] {xs:List α} {i j:Int} (a:α) (h0:0<=i) (h1:0<=j) (hn:i≠j):atI (xs.set i.toNat a) j=atI xs j:=by
 unfold atI;rw[Vax,Vax,List.getElem?_set_ne (by omega)]
theorem Zu3 {n:Int} (h:n≠0):nzI n=some ():=by unfold nzI;rw[ZZi h]
theorem Ywm {n:Int} (h:0<=n):nnI n=some ():=by unfold nnI;rw[ZZj h]
theorem Zd9 {a n:Int} (h0:0<=a):Zdh a n=a % n:=by unfold Zdh;rw[Int.tmod_eq_emod_of_nonneg h0]
theorem Z9a {a n:Int} (h0:0<=a) (h1:a < 9223372036854775808) (hn:1<=n):Zq4 a n=a / n:=by
 unfold Zq4;rw[Int.tdiv_eq_ediv_of_nonneg h0];have h2:0<=a / n:=Int.ediv_nonneg h0 (by omega);have h3:a / n<=a:=Int.ediv_le_self n h0;exact Zxt (by omega) (by omega)
theorem Z4p (xs:List α) (hl:xs.length < 4611686018427387904) (f:α->Option Bool) (q:α->Bool) (hf:∀a∈xs,f a=some (!q a)) (L:Nat->Int->Option Int)
  (hL:∀m i,L (m+1) i=if decide (i < (xs.length:Int))=true then (idx xs i).bind λa=>(f a).bind λr=>if r=true then some i else L m (Zu i 1) else some (-1)):
  (xs.all q=true/\L FU 0=some (-1))\/∃k:Nat,∃h:k < xs.length,L FU 0=some (k:Int)/\q xs[k]=false/\(xs.take k).all q=true:=by
 have key:∀(m k:Nat),k<=xs.length->xs.length - k < m->(xs.take k).all q=true->(xs.all q=true/\L m k=some (-1))\/∃j:Nat,∃h:j < xs.length,L m k=some (j:Int)/\q xs[j]=false/\(xs.take j).all q=true:=by
  intro m
  induction m with
  | zero=>intro k _ h;omega
  | succ m ih=>
   intro k hk hm ht;rw[hL];by_cases hc:k < xs.length
   .have h1:decide ((k:Int) < (xs.length:Int))=true:=by simpa using hc
    rw[ZZj h1,Xp hc,ZZa,hf _ (Vao hc),ZZa];by_cases hq:q xs[k]=true
    .have h2:¬(!q xs[k])=true:=by simp[hq]
     rw[ZZi h2,X4 (by omega)];refine ih (k+1) (by omega) (by omega) ?_;rw[List.take_succ_eq_append_getElem hc,List.all_append,ht];simp[hq]
    .have h2:(!q xs[k])=true:=by simpa using hq
     rw[ZZj h2];exact .inr ⟨k,hc,rfl,by simpa using hq,ht⟩
   .have h1:¬decide ((k:Int) < (xs.length:Int))=true:=by simpa using hc
    rw[ZZi h1];rw[Vbi (by omega)] at ht;exact .inl ⟨ht,rfl⟩
 exact key FU 0 (Vbj _) (by have:=Qe;omega) (by simp)
theorem Zvm (xs:List α) (hl:xs.length < 4611686018427387904) (f:α->Option Bool) (q:α->Bool) (hf:∀a∈xs,f a=some (!q a)) (L:Nat->Int->Option Int)
  (hL:∀m i,L (m+1) i=if decide (i < (xs.length:Int))=true then (idx xs i).bind λa=>(f a).bind λr=>if r=true then some i else L m (Zu i 1) else some (-1)):
  ((L FU 0).bind λr=>some (decide (r≥0)))=some (!xs.all q):=by
 rcases Z4p xs hl f q hf L hL with⟨h1,h2⟩|⟨k,hk,h1,h2,h3⟩
 .rw[h2,h1];rfl
 .rw[h1,ZZa]
  have:xs.all q=false:=by
   rw[Vdz];exact⟨xs[k],Vao hk,by simp[h2]⟩
  rw[this];have h4:((k:Nat):Int)≥0:=by omega
  simp[h4]
theorem Yps (xs:List α) (z:α) (hl:xs.length < 4611686018427387904) (f:α->Option Bool) (q:α->Bool) (hf:∀a∈xs,f a=some (!q a)) (I:Nat->Int->Option Int)
  (hI:∀m i,I (m+1) i=if decide (i < (xs.length:Int))=true then (idx xs i).bind λa=>(f a).bind λr=>if r=true then some i else I m (Zu i 1) else some (-1))
  (L:Nat->List α->Int->Int->Option (List α))
  (hL:∀m v i j,L (m+1) v i j=if decide (j < (v.length:Int))=true then (idx v j).bind λa=>(f a).bind λr=>if (!r)=true then (idx v i).bind λ_=>(Qn v i a).bind λy=>L m y (Zu i 1) (Zu j 1) else L m v i (Zu j 1)
   else (J4 v i (v.length:Int)).bind λ_=>(Z1m z v i (v.length:Int)).bind λy=>(J4 y 0 i).bind λs=>some s):
  ((I FU 0).bind λr=>if decide (r=(-1))=true then some xs else L FU xs r (Zu r 1))=some (xs.filter q):=by
 have key:∀(m i j:Nat) (v:List α),i<=j->j<=xs.length->xs.length - j < m->v.length=xs.length->v.take i=(xs.take j).filter q->v.drop j=xs.drop j->L m v i j=some (xs.filter q):=by
  intro m
  induction m with
  | zero=>intro i j v _ _ h;omega
  | succ m ih=>
   intro i j v hij hj hm hv ht hd;rw[hL];by_cases hc:j < v.length
   .have hc2:j < xs.length:=by omega
    have h1:decide ((j:Int) < (v.length:Int))=true:=by simpa using hc
    have e:v[j]=xs[j]:=by
     have:=congrArg List.head? hd;simpa [List.head?_drop,hc,hc2] using this
    have hd2:v.drop (j+1)=xs.drop (j+1):=by
     have:=congrArg (List.drop 1) hd;simpa [List.drop_drop] using this
    rw[ZZj h1,Xp hc,ZZa,e,hf _ (Vao hc2),ZZa,Vel];by_cases hq:q xs[j]=true
    .rw[ZZj hq,Xp (by omega:i < v.length),ZZa]
     simp only[Qn,ZZa];rw[X4 (by omega),X4 (by omega)];refine ih (i+1) (j+1) _ (by omega) (by omega) (by omega) (by simp[hv]) ?_ ?_
     .rw[Vcb,List.take_succ_eq_append_getElem (by simpa using (by omega:i < v.length)),List.take_set_of_le (Vaw _),ht,List.take_succ_eq_append_getElem hc2,Vc4]
      simp[hq]
     .rw[Vcb,List.drop_set_of_lt (by omega),hd2]
    .rw[ZZi hq,X4 (by omega)]
     refine ih i (j+1) v (by omega) (by omega) (by omega) hv ?_ hd2;rw[ht,List.take_succ_eq_append_getElem hc2,Vc4];simp[hq]
   .have h1:¬decide ((j:Int) < (v.length:Int))=true:=by simpa using hc
    have hjx:j=xs.length:=by omega
    rw[ZZi h1];have h2:J4 v (i:Int) (v.length:Int)=some ((v.drop i).take (v.length - i)):=by
     unfold J4;rw[ZZj ⟨by omega,by omega,by omega⟩];simp
    have h3:Z1m z v (i:Int) (v.length:Int)=some (v.take i++List.replicate (v.length - i) z++v.drop v.length):=by
     unfold Z1m;have:(i:Int).toNat+((v.length:Int).toNat - (i:Int).toNat)=v.length:=by omega
     rw[ZZj (by omega),this];simp
    rw[h2,ZZa,h3,ZZa];have h4:J4 (v.take i++List.replicate (v.length - i) z++v.drop v.length) 0 (i:Int)=some (v.take i):=by
     unfold J4;rw[ZZj ⟨by omega,by omega,by simp;omega⟩];have:(v.take i).length=i:=by rw[Vbr];omega
     simp[List.append_assoc,List.take_append,this]
    rw[h4,ZZa,ht,hjx,Vbl]
 rcases Z4p xs hl f q hf I hI with⟨h1,h2⟩|⟨k,hk,h1,h2,h3⟩
 .rw[h2,ZZa,ZZj (by decide)]
  congr 1
  exact (List.filter_eq_self.2 (λa ha=>ZZk.1 h1 a ha)).symm
 .rw[h1,ZZa,ZZi (by simp),X4 (by omega)]
  refine key FU k (k+1) xs (by omega) (by omega) (by have:=Qe;omega) rfl ?_ rfl;rw[List.take_succ_eq_append_getElem hk,Vc4,List.filter_eq_self.2 (λa ha=>ZZk.1 h3 a ha)];simp[h2]
theorem Yis (sz:Nat) (hz:sz<=1024) (xs:List α) (hl:xs.length < 1048577) (f:α->Option α) (hf:∀a∈xs,f a=some a) {ρ:Type} (fin:List α->Option ρ) (L:Nat->List α->Int->Option ρ)
  (hL:∀m v i,L (m+1) v i=if decide (i < (xs.length:Int))=true then (idx xs i).bind λa=>(f a).bind λb=>(Xt sz v [b]).bind λz=>L m z (Zu i 1) else fin v):L FU [] 0=fin xs:=by
 have key:∀(m k:Nat),k<=xs.length->xs.length - k < m->L m (xs.take k) k=fin xs:=by
  intro m
  induction m with
  | zero=>intro k _ h;omega
  | succ m ih=>
   intro k hk hm;rw[hL];by_cases hc:k < xs.length
   .have h1:decide ((k:Int) < (xs.length:Int))=true:=by simpa using hc
    have Yl:(xs.take k).length=k:=by rw[Vbr];omega
    have hb:(k+1)*sz<=140737488355328:=Vb4 (Nat.mul_le_mul (by omega:k+1<=1048577) hz) (by decide);rw[ZZj h1,Xp hc,ZZa,hf _ (Vao hc),ZZa,Wa (by simpa [Yl] using hb) (by simp[Yl];omega),ZZa,X4 (by omega),<-List.take_succ_eq_append_getElem hc];exact ih (k+1) (by omega) (by omega)
   .have h1:¬decide ((k:Int) < (xs.length:Int))=true:=by simpa using hc
    rw[ZZi h1,Vbi (by omega)]
 have:=key FU 0 (Vbj _) (by have:=Qe;omega);simpa using this
end
theorem Y24 (bs:ByteArray):∀(n i:Nat) (r:List UInt8),bs.size - i=n->ByteArray.toList.loop bs i r=r.reverse++bs.data.toList.drop i:=by
 intro n
 induction n with
 | zero=>
  intro i r h;unfold ByteArray.toList.loop;have hs:bs.data.toList.length=bs.size:=rfl;rw[ZZi (by omega),Vba (by omega)];simp
 | succ n ih=>
  intro i r h;unfold ByteArray.toList.loop;have hs:bs.data.toList.length=bs.size:=rfl;have hi:i < bs.data.toList.length:=by omega
  rw[ZZj (by omega),ih (i+1) _ (by omega),Va2 hi];have:bs.get! i=bs.data.toList[i]:=by
   have hi2:i < bs.data.size:=hi;simp[ByteArray.get!,getElem!_def,Vaf hi2]
  rw[this];simp
theorem Yig (bs:ByteArray):bs.toList=bs.data.toList:=by
 unfold ByteArray.toList;rw[Y24 bs _ 0 [] rfl];simp
theorem Ybk {β:Type} {c:Prop} [Decidable c] {x:β}:(if c then x else x)=x:=by split<;>rfl
theorem Zcb {σ ρ:Type} {n:Nat} (hn:n < 4611686018427387904) (st:Nat->σ) {B:(σ->Int->ρ)->σ->Int->ρ} {L:Nat->σ->Int->ρ} (hL:∀m s i,L (m+1) s i=B (L m) s i)
  (hs:∀k,k < n->∀κ,B κ (st k) (k:Int)=κ (st (k+1)) (Zu (k:Int) 1)) {r:ρ} (hf:∀κ,B κ (st n) (n:Int)=r):L FU (st 0) 0=r:=by
 have key:∀(m k:Nat),k<=n->n - k < m->L m (st k) (k:Int)=r:=by
  intro m
  induction m with
  | zero=>intro k _ h;omega
  | succ m ih=>
   intro k hk hm;rw[hL];by_cases hc:k < n
   .rw[hs k hc,X4 (by omega)]
    exact ih (k+1) (by omega) (by omega)
   .have:k=n:=by omega
    subst this;exact hf _
 have:=key FU 0 (Vbj _) (by have:=Qe;omega);simpa using this
theorem Yk5 {ρ:Type} {n:Nat} (hn:n < 4611686018427387904) {B:(Int->ρ)->Int->ρ} {L:Nat->Int->ρ} (hL:∀m i,L (m+1) i=B (L m) i)
  (hs:∀k,k < n->∀κ,B κ (k:Int)=κ (Zu (k:Int) 1)) {r:ρ} (hf:∀κ,B κ (n:Int)=r):L FU 0=r:=
 Zcb (σ:=Unit) hn (λ_=>()) (B:=λκ _ i=>B (κ ()) i) (L:=λm _ i=>L m i) (λm _ i=>hL m i) (λk hk κ=>hs k hk _) λκ=>hf _
theorem Ykg {k:Int} (h0:0<=k) (h1:k < 1152921504606846976):w1 k=k+1:=by
 simp[w1,IntKind.wrap,IntKind.bits,IntKind.signed];omega
theorem Y1z {k:Int}:Zu k 1=w1 k:=rfl
theorem b3_rem {k:Int}:decide (Zdh k 3=0)=b3 k:=rfl
def Inc {α:Type} (f:α->Int->α×Int) (w:α->Nat):Prop:=∀x k,0<=k->k+(w x:Int)<=1152921504606846976->(f x k).2=k+(w x:Int)
def Zmg {α:Type} (w:α->Nat) (l:List α):Nat:=(l.map w).sum
section
variable {α:Type} {f:α->Int->α×Int} {w:α->Nat}
theorem Zmd {x:α} {l:List α}:Zmg w (x::l)=w x+Zmg w l:=by simp[Zmg]
theorem Yr7 (hf:Inc f w):∀{j:Nat} {l:List α} {k:Int},0<=k->k+(Zmg w l:Int)<=1152921504606846976->(mkN f j l k).2=k+(Zmg w (l.take j):Int):=by
 intro j
 induction j with
 | zero=>intro l k _ _;simp[mkN,Zmg]
 | succ j ih=>
  intro l k h0 h1;cases l with
  | nil=>simp[mkN,Zmg]
  | cons x l=>
   rw[Zmd] at h1;have e:=hf x k h0 (by omega);simp only[mkN,Vdp,Zmd];rw[ih (by rw[e];omega) (by rw[e];omega),e];omega
theorem Z8y (hf:Inc f w) {l:List α} {k:Int} (h0:0<=k) (h1:k+(Zmg w l:Int)<=1152921504606846976):(mkL f l k).2=k+(Zmg w l:Int):=by
 rw[<-Z82,Yr7 hf h0 h1,Vbl]
theorem Y2s {l:List α} {k:Int}:(mkL f l k).1.length=l.length:=by rw[<-Z82,Ysi]
theorem Y2j:∀{j:Nat} {l:List α} {k:Int} {x:α},l[j]?=some x->(mkL f l k).1[j]?=some (f x (mkN f j l k).2).1/\(mkN f (j+1) l k).2=(f x (mkN f j l k).2).2:=by
 intro j
 induction j with
 | zero=>
  intro l k x h;cases l with
  | nil=>simp at h
  | cons y l=>
   have e:y=x:=by simpa using h
   subst e;exact⟨rfl,rfl⟩
 | succ j ih=>
  intro l k x h;cases l with
  | nil=>simp at h
  | cons y l=>
   obtain⟨h1,h2⟩:=ih (l:=l) (k:=(f y k).2) (x:=x) (by simpa using h);exact⟨by simpa [mkL,mkN] using h1,by simpa [mkN] using h2⟩
theorem Y2k {l:List α} {j:Nat} {x:α} (h:l[j]?=some x):Zmg w (l.take j)+w x<=Zmg w l:=by
 induction l generalizing j with
 | nil=>simp at h
 | cons y l ih=>
  cases j with
  | zero=>
   have e:y=x:=by simpa using h
   subst e;rw[Zmd];simp[Zmg]
  | succ j=>
   have:=ih (j:=j) (by simpa using h);rw[Vdp,Zmd,Zmd];omega
theorem Yw3 (hf:Inc f w) (l:List α) (k:Int) (hl:l.length < 1048577) (h0:0<=k) (h1:k+(Zmg w l:Int)<=1152921504606846976) {B:(Int->Int->Option Int)->Int->Int->Option Int} {L:Nat->Int->Int->Option Int} (hL:∀m s i,L (m+1) s i=B (L m) s i)
  (step:∀(κ:Int->Int->Option Int) (j:Nat) (x:α) (c:Int),(hj:j < (mkL f l k).1.length)->x∈l->0<=c->c+(w x:Int)<=1152921504606846976->(mkL f l k).1[j]=(f x c).1->B κ c (j:Int)=κ (f x c).2 (Zu (j:Int) 1))
  (fin:∀(κ:Int->Int->Option Int) (c:Int),B κ c ((mkL f l k).1.length:Int)=some c):L FU k 0=some (mkL f l k).2:=by
 have hn:(mkL f l k).1.length=l.length:=Y2s;refine Zcb (n:=(mkL f l k).1.length) (by omega) (λj=>(mkN f j l k).2) hL (λj hj κ=>?_) (λκ=>?_)
 .have hx:l[j]?=some (l[j]'(by omega)):=Vac (by omega)
  obtain⟨e1,e2⟩:=Y2j (f:=f) (k:=k) hx;have e3:(mkL f l k).1[j]=(f (l[j]'(by omega)) (mkN f j l k).2).1:=by
   rw[Vac hj] at e1;injection e1
  have e4:=Yr7 hf (j:=j) h0 h1;have e5:=Y2k (w:=w) hx;rw[e2];exact step κ j _ _ hj (Vao _) (by rw[e4];omega) (by rw[e4];omega) e3
 .rw[hn,Z82,<-hn];exact fin κ _
end
theorem Z40 {α:Type} (n:Nat) (l:List α):Zmg (λ_=>n) l=n*l.length:=by
 induction l with
 | nil=>rfl
 | cons x l ih=>rw[Zmd,ih,Vaa,Nat.mul_succ];omega
theorem Y1y:Inc Zf4 (λ_=>1):=λx k h0 h1=>by
 have h2:k+1<=1152921504606846976:=h1;simp only[Zf4];simp (discharger:=omega) only[Ykg];rfl
theorem Yne:Inc Xw (λ_=>7):=λx k h0 h1=>by
 have h2:k+7<=1152921504606846976:=h1;show _=k+7;simp only[Xw];simp (discharger:=omega) only[Ykg];omega
theorem Ywy:Inc Zcf (λ_=>4):=λx k h0 h1=>by
 have h2:k+4<=1152921504606846976:=h1;show _=k+4;simp only[Zcf];simp (discharger:=omega) only[Ykg];omega
def wReq (r:Zb):Nat:=5+r.data_.length
theorem Ywg {l:List Int} {k:Int} (h0:0<=k) (h1:k+(l.length:Int)<=1152921504606846976):(mkL Zf4 l k).2=k+(l.length:Int):=by
 have e:=Z40 (α:=Int) 1 l;have:=Z8y Y1y (l:=l) h0 (by rw[e];omega);rw[this,e];omega
theorem Y1j:Inc Zez wReq:=λx k h0 h1=>by
 have h2:k+5+(x.data_.length:Int)<=1152921504606846976:=by unfold wReq at h1;omega
 simp only[Zez];simp (discharger:=omega) only[Ykg];rw[Ywg (by omega) (by omega)];unfold wReq;omega
theorem Yrb (l:List Zm) (k:Int) (hl:l.length < 1048577) (h0:0<=k) (h1:k+7*(l.length:Int)<=1152921504606846976):Zpo (mkL Xw l k).1 k=some (mkL Xw l k).2:=by
 unfold Zpo;refine Yw3 Yne l k hl h0 (by rw[Z40];omega) (B:=λκ st j=>Zfo (mkL Xw l k).1 k κ st j) (λm s i=>rfl) (λκ j x c hj hx hc hm e=>?_) (λκ c=>?_)
 .unfold Zfo
  rw[ZZj (by simpa using hj),Xp hj,ZZa,e]
  try simp only[b3_rem]
  simp[Xw,Y1z]
 .unfold Zfo
  rw[ZZi (by simp)]
end Go.Proofs.YtagdmghmblplbaaGreat.Ev
namespace Go.Proofs.YtagdmghmblplbaaGreat.Ev
open Go Go.Proofs Go.RowKit KM
theorem Ztv {a:Int} (h:0<=a):decide (a < 0)=false:=by simp;omega
theorem dlt_t {a:Int} (h:a < 0):decide (a < 0)=true:=by simpa using h
theorem dne_f {a:Int}:decide (a≠a)=false:=by simp
theorem Ytq {a:Bool}:(a != a)=false:=by simp
theorem Ykn {a:Bool} (h:a=false):(a == false)=true:=by rw[h];rfl
section
variable [Anchor]
theorem Z9m (x0:Zh) (x1:List Zb) {l0:Int}  (hc0:Zrr x0 1048576=some l0) (hn1:l0 < 0):Zt Tryz.prog Mo (3,[.agg (Zh.enc x0),.tr (x1.map Zb.enc)],.lit (.bool true),[.undef,.undef]):=by
 refine Yni fOk (fn:=Tryz.f3) (c:=Qw Tryz.f3) (rt:=4) (b:=true) (xs:=[.agg (Zh.enc x0),.tr (x1.map Zb.enc)]) (by kernel_rfl) (by kernel_rfl) (by kernel_rfl) (by kernel_rfl) (by rfl) (of_decide_eq_true (by kernel_rfl)) ?_;exact Zjx (M:=Mo) fOk 300 [.res (Zco x0 1048576 l0).2.2.1 (Zco x0 1048576 l0).2.2.2,.t true]
  (p:=(Zt Tryz.prog Mo (Zco x0 1048576 l0))/\((decide (l0 < 0))=true)/\(True))
  ⟨Z4k hc0,(dlt_t hn1),trivial⟩ (ts:=[4]) (ks:=[]) (e:=.ret) (vs:=[.lit (.bool true)]) (bs:=[]) (by kernel_rfl) (λs h1 _=>⟨rfl,by simpa using h1⟩)
theorem Z9i (x0:Zh) (x1:List Zb) {l0 l1:Int}  (hc0:Zrr x0 1048576=some l0) (hz1:0<=l0) (hc2:Zxd x1 l0=some l1) (hn3:l1 < 0):Zt Tryz.prog Mo (3,[.agg (Zh.enc x0),.tr (x1.map Zb.enc)],.lit (.bool true),[.undef,.undef]):=by
 refine Yni fOk (fn:=Tryz.f3) (c:=Qw Tryz.f3) (rt:=4) (b:=true) (xs:=[.agg (Zh.enc x0),.tr (x1.map Zb.enc)]) (by kernel_rfl) (by kernel_rfl) (by kernel_rfl) (by kernel_rfl) (by rfl) (of_decide_eq_true (by kernel_rfl)) ?_;exact Zjx (M:=Mo) fOk 300 [.res (Zco x0 1048576 l0).2.2.1 (Zco x0 1048576 l0).2.2.2,.t false,.res (Zf2 x1 l0 l1).2.2.1 (Zf2 x1 l0 l1).2.2.2,.t true]
  (p:=(Zt Tryz.prog Mo (Zco x0 1048576 l0))/\((decide (l0 < 0))=false)/\(Zt Tryz.prog Mo (Zf2 x1 l0 l1))/\((decide (l1 < 0))=true)/\(True))
  ⟨Z4k hc0,(Ztv hz1),Yc6 hc2,(dlt_t hn3),trivial⟩ (ts:=[4]) (ks:=[]) (e:=.ret) (vs:=[.lit (.bool true)]) (bs:=[]) (by kernel_rfl) (λs h1 _=>⟨rfl,by simpa using h1⟩)
theorem Yel (x0:Zh) (x1:List Zb) {l0 l1:Int} (v0:List Zm) (v1:Bool) (hc0:Zrr x0 1048576=some l0) (hz1:0<=l0) (hc2:Zxd x1 l0=some l1) (hz3:0<=l1) (hc4:Zxf x0=some x0) (hc5:Zwn x1=some x1) (hc6:Z4r x0 x1=some (v0,v1)) (hc7:Z4u x0 x1=some (v0,v1)) (hc8:Zuf v0 v0=some true) (hc9:Zws x0 x0=some true) (hc10:Zw1 x1 x1=some true) (hm11:x0.mok) (hm12:x1.length<=1152921504606846976/\∀y∈x1,y.data_.length<=1152921504606846976) (Yo7:0<=(mkL Zez x1 ((J5 x0 1).2)).2) (hm14:v0.length<=1152921504606846976) (hc15:Zpo ((mkL Xw v0 1).1) 1=some ((mkL Xw v0 1).2)) (hz16:0<=(mkL Xw v0 1).2):Zt Tryz.prog Mo (3,[.agg (Zh.enc x0),.tr (x1.map Zb.enc)],.lit (.bool true),[.undef,.undef]):=by
 refine Yni fOk (fn:=Tryz.f3) (c:=Qw Tryz.f3) (rt:=4) (b:=true) (xs:=[.agg (Zh.enc x0),.tr (x1.map Zb.enc)]) (by kernel_rfl) (by kernel_rfl) (by kernel_rfl) (by kernel_rfl) (by rfl) (of_decide_eq_true (by kernel_rfl)) ?_;exact Zjx (M:=Mo) fOk 300 [.res (Zco x0 1048576 l0).2.2.1 (Zco x0 1048576 l0).2.2.2,.t false,.res (Zf2 x1 l0 l1).2.2.1 (Zf2 x1 l0 l1).2.2.2,.t false,.res (Ji x0 x0).2.2.1 (Ji x0 x0).2.2.2,.res (Kr x1 x1).2.2.1 (Kr x1 x1).2.2.2,.res (Ztb x0 x1 ((v0,v1))).2.2.1 (Ztb x0 x1 ((v0,v1))).2.2.2,.res (Ji x0 x0).2.2.1 (Ji x0 x0).2.2.2,.res (Kr x1 x1).2.2.1 (Kr x1 x1).2.2.2,.res (Zjc x0 x1 ((v0,v1))).2.2.1 (Zjc x0 x1 ((v0,v1))).2.2.2,.res (J8 v0 v0 true).2.2.1 (J8 v0 v0 true).2.2.2,.k,.k,.k,.k,.t false,.res (Ji x0 x0).2.2.1 (Ji x0 x0).2.2.2,.res (Zwx x0 x0 true).2.2.1 (Zwx x0 x0 true).2.2.2,.k,.res (Kr x1 x1).2.2.1 (Kr x1 x1).2.2.2,.res (Zr0 x1 x1 true).2.2.1 (Zr0 x1 x1 true).2.2.2,.k,.res (.lit (.int .i64 (J5 x0 1).2)) (Zh.enc (J5 x0 1).1),.res (.lit (.int .i64 (mkL Zez x1 ((J5 x0 1).2)).2)) [.tr ((mkL Zez x1 ((J5 x0 1).2)).1.map Zb.enc)],.t true,.t true,.t true,.res (J8 v0 v0 true).2.2.1 (J8 v0 v0 true).2.2.2,.t true,.t false,.k,.k,.k,.k,.t false,.res (.lit (.int .i64 (mkL Xw v0 1).2)) [.tr ((mkL Xw v0 1).1.map Zm.enc)],.res (Zbp ((mkL Xw v0 1).1) 1 ((mkL Xw v0 1).2)).2.2.1 (Zbp ((mkL Xw v0 1).1) 1 ((mkL Xw v0 1).2)).2.2.2,.t false,.t false,.res (Ji x0 x0).2.2.1 (Ji x0 x0).2.2.2,.res (Kr x1 x1).2.2.1 (Kr x1 x1).2.2.2,.res (Zjc x0 x1 ((v0,v1))).2.2.1 (Zjc x0 x1 ((v0,v1))).2.2.2,.res (J8 v0 v0 true).2.2.1 (J8 v0 v0 true).2.2.2,.k,.k,.k,.k,.t false,.res (Zbp ((mkL Xw v0 1).1) 1 ((mkL Xw v0 1).2)).2.2.1 (Zbp ((mkL Xw v0 1).1) 1 ((mkL Xw v0 1).2)).2.2.2,.t false,.t false]
  (p:=(Zt Tryz.prog Mo (Zco x0 1048576 l0))/\((decide (l0 < 0))=false)/\(Zt Tryz.prog Mo (Zf2 x1 l0 l1))/\((decide (l1 < 0))=false)/\(Zt Tryz.prog Mo (Ji x0 x0))/\(Zt Tryz.prog Mo (Kr x1 x1))/\(Zt Tryz.prog Mo (Ztb x0 x1 ((v0,v1))))/\(Zt Tryz.prog Mo (Ji x0 x0))/\(Zt Tryz.prog Mo (Kr x1 x1))/\(Zt Tryz.prog Mo (Zjc x0 x1 ((v0,v1))))/\(Zt Tryz.prog Mo (J8 v0 v0 true))/\((v1 != v1)=false)/\(Zt Tryz.prog Mo (Ji x0 x0))/\(Zt Tryz.prog Mo (Zwx x0 x0 true))/\(Zt Tryz.prog Mo (Kr x1 x1))/\(Zt Tryz.prog Mo (Zr0 x1 x1 true))/\(Zix Tryz.prog 17 true (Zh.enc x0) (Zh.enc (J5 x0 1).1) 1 (J5 x0 1).2)/\(Zix Tryz.prog 18 false [.tr (x1.map Zb.enc)] [.tr ((mkL Zez x1 ((J5 x0 1).2)).1.map Zb.enc)] ((J5 x0 1).2) (mkL Zez x1 ((J5 x0 1).2)).2)/\(((decide ((mkL Zez x1 ((J5 x0 1).2)).2 < 0)) == false)=true)/\(((decide ((mkL Zez x1 ((J5 x0 1).2)).2 < 0)) == false)=true)/\(((decide ((mkL Zez x1 ((J5 x0 1).2)).2 < 0)) == false)=true)/\(Zt Tryz.prog Mo (J8 v0 v0 true))/\(((decide ((mkL Zez x1 ((J5 x0 1).2)).2 < 0)) == false)=true)/\((decide ((mkL Zez x1 ((J5 x0 1).2)).2 < 0))=false)/\((v1 != v1)=false)/\(Zix Tryz.prog 19 false [.tr (v0.map Zm.enc)] [.tr ((mkL Xw v0 1).1.map Zm.enc)] 1 (mkL Xw v0 1).2)/\(Zt Tryz.prog Mo (Zbp ((mkL Xw v0 1).1) 1 ((mkL Xw v0 1).2)))/\((decide ((mkL Xw v0 1).2 < 0))=false)/\((decide ((mkL Xw v0 1).2≠(mkL Xw v0 1).2))=false)/\(Zt Tryz.prog Mo (Ji x0 x0))/\(Zt Tryz.prog Mo (Kr x1 x1))/\(Zt Tryz.prog Mo (Zjc x0 x1 ((v0,v1))))/\(Zt Tryz.prog Mo (J8 v0 v0 true))/\((v1 != v1)=false)/\(Zt Tryz.prog Mo (Zbp ((mkL Xw v0 1).1) 1 ((mkL Xw v0 1).2)))/\((decide ((mkL Xw v0 1).2 < 0))=false)/\((decide ((mkL Xw v0 1).2≠(mkL Xw v0 1).2))=false)/\(True))
  ⟨Z4k hc0,(Ztv hz1),Yc6 hc2,(Ztv hz3),Zw0 hc4,Zxh hc5,Y0k hc6,Zw0 hc4,Zxh hc5,Ylt hc7,Z1u hc8,(Ytq),Zw0 hc4,Yu1 hc9,Zxh hc5,Yu7 hc10,Yq2 _ _ hm11,Yq5 _ _ hm12.1 hm12.2,Ykn (Ztv Yo7),Ykn (Ztv Yo7),Ykn (Ztv Yo7),Z1u hc8,Ykn (Ztv Yo7),(Ztv Yo7),(Ytq),Ymf _ _ hm14,Z5t hc15,(Ztv hz16),(dne_f),Zw0 hc4,Zxh hc5,Ylt hc7,Z1u hc8,(Ytq),Z5t hc15,(Ztv hz16),(dne_f),trivial⟩ (ts:=[4]) (ks:=[]) (e:=.ret) (vs:=[.lit (.bool true)]) (bs:=[]) (by kernel_rfl) (λs h1 _=>⟨rfl,by simpa using h1⟩)
end
end Go.Proofs.YtagdmghmblplbaaGreat.Ev
