/- A part of the proof of FnExactRunOut: see the text YtagdmghmblplbaaGreatLawFnExactRunOut for what is proved and its conditions. Conditions here: those in each line. -/
import Derived.Test.YtagdmghmblplbaaGreatA8
import Derived.KernelRfl
set_option linter.unusedSimpArgs false
set_option linter.unusedVariables false
set_option linter.unusedSectionVars false
namespace Go.Proofs.YtagdmghmblplbaaGreat.Ev
open Go Go.Proofs Go.RowKit KM
abbrev w1 (k:Int):Int:=IntKind.i64.wrap (k+1)
abbrev b3 (k:Int):Bool:=decide (k.tmod 3=0)
def sqL:Code->Code
 | .seq a _=>a
 | c=>c
def sqR:Code->Code
 | .seq _ b=>b
 | c=>c
def blC:Code->Code
 | .block _ c=>c
 | c=>c
def lpC:Code->Code
 | .loop c=>c
 | c=>c
theorem Z0h {i:Nat} (h:i < 1152921504606846976):w1 (i:Int)=((i+1:Nat):Int):=by
 unfold w1;simp[IntKind.wrap,IntKind.bits,IntKind.signed];omega
abbrev rs {α:Type} (e:α->List V) (l:List α) (i:Nat) (r:List V):List (List V):=(l.map e).set i r
abbrev nn (i:Nat):Prop:=Xx (toV (.lit (.int .i64 (i:Int))))=some i
theorem Zzz {α:Type} {e:α->List V} {l:List α} {i:Nat} {a:α} (h:l[i]?=some a):decide ((i:Int) < ((l.map e).length:Int))=true:=by
 have:=(ZZh.1 h).1;simp;omega
theorem Zdy {α:Type} {e:α->List V} {l:List α} {i:Nat} {a:α} (h:l[i]?=some a):(l.map e)[i]?=some (e a):=by
 rw[Va7,h];rfl
section
variable [Anchor]
theorem Yj {α:Type} {e:α->List V} {l:List α} {i:Nat} {a:α} (h:l[i]?=some a) (r:List V):((l.map e).set i r)[i]?=some r:=set_at (Zdy h)
def Yd (_:Int) (k:Int):Int×Int:=(k,w1 k)
def rInt1 (a:Int) (k:Int):List V:=(Ze a).set 0 (.lit (.int .i64 (k)))
theorem Zhd {rows:List (List V)} {i:Nat} {r r':List V}:(rows.set i r).set i r'=rows.set i r':=by rw[Vej]
theorem Yjt {α:Type} {e:α->List V} {l:List α} {i:Nat} {a:α} {r r':List V} (h:e a=r'):((l.map e).set i r).set i r'=(l.set i a).map e:=by rw[Vej,map_set,h]
theorem Zec (l:List Int) (k:Int) (hl:l.length<=1152921504606846976):Q1 Tryz.prog 57 false [.tr (l.map Ze)] [.tr ((mkL Yd l k).1.map Ze)] k (mkL Yd l k).2:=by
 refine Zq5 (M:=Mo) fOk (fn:=Tryz.f57) (r0:=sqL (Xl Tryz.f57)) (r1:=sqL (sqL (sqR (Xl Tryz.f57)))) (body:=lpC (blC (sqR (sqL (sqR (Xl Tryz.f57)))))) (post:=sqR (sqR (Xl Tryz.f57))) (f:=Yd) (by kernel_rfl) (by kernel_rfl) (by kernel_rfl) l k (Qp:=λ_=>True) (λ_ _=>trivial) hl (λts=>by kernel_rfl) (λl k z e ob bk bx u=>by kernel_rfl) (λl k z e ob bk bx u=>by kernel_rfl) (λl k z e i ob bk bx u=>by kernel_rfl) λl i a k z e ob bk bx u h hi hq=>
  Zbm (M:=Mo) fOk 100 [.t true,.row i (Ze a),.put (Ze a) ((l.set i (Yd a k).1).map Ze)]
   (p:=(decide ((i:Int) < ((l.map Ze).length:Int))=true)/\(nn i)/\((l.map Ze)[i]?=some (Ze a))/\((l.map Ze)[i]?=some (Ze a))/\((l.map Ze).set i (rInt1 a k)=((l.set i (Yd a k).1).map Ze))/\True)
   ⟨Zzz h,Xv,Zdy h,Zdy h,map_set.symm,trivial⟩ (ts:=[0,1,5]) (ks:=[0]) (e:=.normal) (vs:=[.ob 0,.lit (.int .i64 (w1 k)),.lit (.int .i64 (w1 (i:Int)))]) (bs:=[some ⟨true,z,e,((l.set i (Yd a k).1).map Ze)⟩]) (by kernel_rfl) (λs h1 h2=>⟨rfl,.of (by rw[h1,Z0h hi];rfl) h2⟩)
def Zbg (x:Zm) (k:Int):Zm×Int:=({x with cycle:=k,who:=w1 k,write:=b3 (w1 (w1 k)),addr:=w1 (w1 (w1 k)),size:=w1 (w1 (w1 (w1 k))),value:=w1 (w1 (w1 (w1 (w1 k)))),resp:=w1 (w1 (w1 (w1 (w1 (w1 k)))))},w1 (w1 (w1 (w1 (w1 (w1 (w1 k)))))))
def Znm (a:Zm) (k:Int):List V:=(Zm.enc a).set 0 (.lit (.int .i64 (k)))
def Znv (a:Zm) (k:Int):List V:=(Znm a k).set 1 (.lit (.int .i64 (w1 k)))
def Znl (a:Zm) (k:Int):List V:=(Znv a k).set 2 (.lit (.bool (b3 (w1 (w1 k)))))
def Zmp (a:Zm) (k:Int):List V:=(Znl a k).set 3 (.lit (.int .i64 (w1 (w1 (w1 k)))))
def Zni (a:Zm) (k:Int):List V:=(Zmp a k).set 4 (.lit (.int .i64 (w1 (w1 (w1 (w1 k))))))
def Zm8 (a:Zm) (k:Int):List V:=(Zni a k).set 5 (.lit (.int .i64 (w1 (w1 (w1 (w1 (w1 k)))))))
def rDone7 (a:Zm) (k:Int):List V:=(Zm8 a k).set 6 (.lit (.int .i64 (w1 (w1 (w1 (w1 (w1 (w1 k))))))))
theorem Yp7 (l:List Zm) (k:Int) (hl:l.length<=1152921504606846976):Q1 Tryz.prog 19 false [.tr (l.map Zm.enc)] [.tr ((mkL Zbg l k).1.map Zm.enc)] k (mkL Zbg l k).2:=by
 refine Zq5 (M:=Mo) fOk (fn:=Tryz.f19) (r0:=sqL (Xl Tryz.f19)) (r1:=sqL (sqL (sqR (Xl Tryz.f19)))) (body:=lpC (blC (sqR (sqL (sqR (Xl Tryz.f19)))))) (post:=sqR (sqR (Xl Tryz.f19))) (f:=Zbg) (by kernel_rfl) (by kernel_rfl) (by kernel_rfl) l k (Qp:=λ_=>True) (λ_ _=>trivial) hl (λts=>by kernel_rfl) (λl k z e ob bk bx u=>by kernel_rfl) (λl k z e ob bk bx u=>by kernel_rfl) (λl k z e i ob bk bx u=>by kernel_rfl) λl i a k z e ob bk bx u h hi hq=>
  Zbm (M:=Mo) fOk 100 [.t true,.row i (Zm.enc a),.put (Zm.enc a) (rs Zm.enc l i (Znm a k)),.row i (Znm a k),.put (Znm a k) (rs Zm.enc l i (Znv a k)),.k,.row i (Znv a k),.put (Znv a k) (rs Zm.enc l i (Znl a k)),.row i (Znl a k),.put (Znl a k) (rs Zm.enc l i (Zmp a k)),.row i (Zmp a k),.put (Zmp a k) (rs Zm.enc l i (Zni a k)),.row i (Zni a k),.put (Zni a k) (rs Zm.enc l i (Zm8 a k)),.row i (Zm8 a k),.put (Zm8 a k) ((l.set i (Zbg a k).1).map Zm.enc)]
   (p:=(decide ((i:Int) < ((l.map Zm.enc).length:Int))=true)/\(nn i)/\((l.map Zm.enc)[i]?=some (Zm.enc a))/\((l.map Zm.enc)[i]?=some (Zm.enc a))/\((l.map Zm.enc).set i (Znm a k)=(rs Zm.enc l i (Znm a k)))/\(nn i)/\((rs Zm.enc l i (Znm a k))[i]?=some (Znm a k))/\((rs Zm.enc l i (Znm a k))[i]?=some (Znm a k))/\((rs Zm.enc l i (Znm a k)).set i (Znv a k)=(rs Zm.enc l i (Znv a k)))/\(nn i)/\((rs Zm.enc l i (Znv a k))[i]?=some (Znv a k))/\((rs Zm.enc l i (Znv a k))[i]?=some (Znv a k))/\((rs Zm.enc l i (Znv a k)).set i (Znl a k)=(rs Zm.enc l i (Znl a k)))/\(nn i)/\((rs Zm.enc l i (Znl a k))[i]?=some (Znl a k))/\((rs Zm.enc l i (Znl a k))[i]?=some (Znl a k))/\((rs Zm.enc l i (Znl a k)).set i (Zmp a k)=(rs Zm.enc l i (Zmp a k)))/\(nn i)/\((rs Zm.enc l i (Zmp a k))[i]?=some (Zmp a k))/\((rs Zm.enc l i (Zmp a k))[i]?=some (Zmp a k))/\((rs Zm.enc l i (Zmp a k)).set i (Zni a k)=(rs Zm.enc l i (Zni a k)))/\(nn i)/\((rs Zm.enc l i (Zni a k))[i]?=some (Zni a k))/\((rs Zm.enc l i (Zni a k))[i]?=some (Zni a k))/\((rs Zm.enc l i (Zni a k)).set i (Zm8 a k)=(rs Zm.enc l i (Zm8 a k)))/\(nn i)/\((rs Zm.enc l i (Zm8 a k))[i]?=some (Zm8 a k))/\((rs Zm.enc l i (Zm8 a k))[i]?=some (Zm8 a k))/\((rs Zm.enc l i (Zm8 a k)).set i (rDone7 a k)=((l.set i (Zbg a k).1).map Zm.enc))/\True)
   ⟨Zzz h,Xv,Zdy h,Zdy h,rfl,Xv,Yj h _,Yj h _,Zhd,Xv,Yj h _,Yj h _,Zhd,Xv,Yj h _,Yj h _,Zhd,Xv,Yj h _,Yj h _,Zhd,Xv,Yj h _,Yj h _,Zhd,Xv,Yj h _,Yj h _,Yjt rfl,trivial⟩ (ts:=[0,1,5]) (ks:=[0]) (e:=.normal) (vs:=[.ob 0,.lit (.int .i64 (w1 (w1 (w1 (w1 (w1 (w1 (w1 k)))))))),.lit (.int .i64 (w1 (i:Int)))]) (bs:=[some ⟨true,z,e,((l.set i (Zbg a k).1).map Zm.enc)⟩]) (by kernel_rfl) (λs h1 h2=>⟨rfl,.of (by rw[h1,Z0h hi];rfl) h2⟩)
def Xa (x:Zc) (k:Int):Zc×Int:=({x with tokens:=k,count:=w1 k},w1 (w1 k))
def Ze3 (a:Zc) (k:Int):List V:=(Zc.enc a).set 0 (.lit (.int .i64 (k)))
def Y39 (a:Zc) (k:Int):List V:=(Ze3 a k).set 1 (.lit (.int .i64 (w1 k)))
theorem Yj6 (l:List Zc) (k:Int) (hl:l.length<=1152921504606846976):Q1 Tryz.prog 75 false [.tr (l.map Zc.enc)] [.tr ((mkL Xa l k).1.map Zc.enc)] k (mkL Xa l k).2:=by
 refine Zq5 (M:=Mo) fOk (fn:=Tryz.f75) (r0:=sqL (Xl Tryz.f75)) (r1:=sqL (sqL (sqR (Xl Tryz.f75)))) (body:=lpC (blC (sqR (sqL (sqR (Xl Tryz.f75)))))) (post:=sqR (sqR (Xl Tryz.f75))) (f:=Xa) (by kernel_rfl) (by kernel_rfl) (by kernel_rfl) l k (Qp:=λ_=>True) (λ_ _=>trivial) hl (λts=>by kernel_rfl) (λl k z e ob bk bx u=>by kernel_rfl) (λl k z e ob bk bx u=>by kernel_rfl) (λl k z e i ob bk bx u=>by kernel_rfl) λl i a k z e ob bk bx u h hi hq=>
  Zbm (M:=Mo) fOk 100 [.t true,.row i (Zc.enc a),.put (Zc.enc a) (rs Zc.enc l i (Ze3 a k)),.row i (Ze3 a k),.put (Ze3 a k) ((l.set i (Xa a k).1).map Zc.enc)]
   (p:=(decide ((i:Int) < ((l.map Zc.enc).length:Int))=true)/\(nn i)/\((l.map Zc.enc)[i]?=some (Zc.enc a))/\((l.map Zc.enc)[i]?=some (Zc.enc a))/\((l.map Zc.enc).set i (Ze3 a k)=(rs Zc.enc l i (Ze3 a k)))/\(nn i)/\((rs Zc.enc l i (Ze3 a k))[i]?=some (Ze3 a k))/\((rs Zc.enc l i (Ze3 a k))[i]?=some (Ze3 a k))/\((rs Zc.enc l i (Ze3 a k)).set i (Y39 a k)=((l.set i (Xa a k).1).map Zc.enc))/\True)
   ⟨Zzz h,Xv,Zdy h,Zdy h,rfl,Xv,Yj h _,Yj h _,Yjt rfl,trivial⟩ (ts:=[0,1,5]) (ks:=[0]) (e:=.normal) (vs:=[.ob 0,.lit (.int .i64 (w1 (w1 k))),.lit (.int .i64 (w1 (i:Int)))]) (bs:=[some ⟨true,z,e,((l.set i (Xa a k).1).map Zc.enc)⟩]) (by kernel_rfl) (λs h1 h2=>⟨rfl,.of (by rw[h1,Z0h hi];rfl) h2⟩)
def Js (x:Zd) (k:Int):Zd×Int:=({x with weight:=k,prio:=b3 (w1 k),every:=w1 (w1 k),cap:=w1 (w1 (w1 k))},w1 (w1 (w1 (w1 k))))
def Zik (a:Zd) (k:Int):List V:=(Zd.enc a).set 0 (.lit (.int .i64 (k)))
def Ziq (a:Zd) (k:Int):List V:=(Zik a k).set 1 (.lit (.bool (b3 (w1 k))))
def Zir (a:Zd) (k:Int):List V:=(Ziq a k).set 2 (.lit (.int .i64 (w1 (w1 k))))
def Y63 (a:Zd) (k:Int):List V:=(Zir a k).set 3 (.lit (.int .i64 (w1 (w1 (w1 k)))))
theorem Ynf (l:List Zd) (k:Int) (hl:l.length<=1152921504606846976):Q1 Tryz.prog 56 false [.tr (l.map Zd.enc)] [.tr ((mkL Js l k).1.map Zd.enc)] k (mkL Js l k).2:=by
 refine Zq5 (M:=Mo) fOk (fn:=Tryz.f56) (r0:=sqL (Xl Tryz.f56)) (r1:=sqL (sqL (sqR (Xl Tryz.f56)))) (body:=lpC (blC (sqR (sqL (sqR (Xl Tryz.f56)))))) (post:=sqR (sqR (Xl Tryz.f56))) (f:=Js) (by kernel_rfl) (by kernel_rfl) (by kernel_rfl) l k (Qp:=λ_=>True) (λ_ _=>trivial) hl (λts=>by kernel_rfl) (λl k z e ob bk bx u=>by kernel_rfl) (λl k z e ob bk bx u=>by kernel_rfl) (λl k z e i ob bk bx u=>by kernel_rfl) λl i a k z e ob bk bx u h hi hq=>
  Zbm (M:=Mo) fOk 100 [.t true,.row i (Zd.enc a),.put (Zd.enc a) (rs Zd.enc l i (Zik a k)),.k,.row i (Zik a k),.put (Zik a k) (rs Zd.enc l i (Ziq a k)),.row i (Ziq a k),.put (Ziq a k) (rs Zd.enc l i (Zir a k)),.row i (Zir a k),.put (Zir a k) ((l.set i (Js a k).1).map Zd.enc)]
   (p:=(decide ((i:Int) < ((l.map Zd.enc).length:Int))=true)/\(nn i)/\((l.map Zd.enc)[i]?=some (Zd.enc a))/\((l.map Zd.enc)[i]?=some (Zd.enc a))/\((l.map Zd.enc).set i (Zik a k)=(rs Zd.enc l i (Zik a k)))/\(nn i)/\((rs Zd.enc l i (Zik a k))[i]?=some (Zik a k))/\((rs Zd.enc l i (Zik a k))[i]?=some (Zik a k))/\((rs Zd.enc l i (Zik a k)).set i (Ziq a k)=(rs Zd.enc l i (Ziq a k)))/\(nn i)/\((rs Zd.enc l i (Ziq a k))[i]?=some (Ziq a k))/\((rs Zd.enc l i (Ziq a k))[i]?=some (Ziq a k))/\((rs Zd.enc l i (Ziq a k)).set i (Zir a k)=(rs Zd.enc l i (Zir a k)))/\(nn i)/\((rs Zd.enc l i (Zir a k))[i]?=some (Zir a k))/\((rs Zd.enc l i (Zir a k))[i]?=some (Zir a k))/\((rs Zd.enc l i (Zir a k)).set i (Y63 a k)=((l.set i (Js a k).1).map Zd.enc))/\True)
   ⟨Zzz h,Xv,Zdy h,Zdy h,rfl,Xv,Yj h _,Yj h _,Zhd,Xv,Yj h _,Yj h _,Zhd,Xv,Yj h _,Yj h _,Yjt rfl,trivial⟩ (ts:=[0,1,5]) (ks:=[0]) (e:=.normal) (vs:=[.ob 0,.lit (.int .i64 (w1 (w1 (w1 (w1 k))))),.lit (.int .i64 (w1 (i:Int)))]) (bs:=[some ⟨true,z,e,((l.set i (Js a k).1).map Zd.enc)⟩]) (by kernel_rfl) (λs h1 h2=>⟨rfl,.of (by rw[h1,Z0h hi];rfl) h2⟩)
def Ks (x:Zg) (k:Int):Zg×Int:=({x with write:=b3 (k),addr:=w1 k,size:=w1 (w1 k),burst:=w1 (w1 (w1 k)),lock:=b3 (w1 (w1 (w1 (w1 k)))),data_:=(mkL Yd x.data_ (w1 (w1 (w1 (w1 (w1 k)))))).1},(mkL Yd x.data_ (w1 (w1 (w1 (w1 (w1 k)))))).2)
def Zs4 (a:Zg) (k:Int):List V:=(Zg.enc a).set 0 (.lit (.bool (b3 (k))))
def Zt0 (a:Zg) (k:Int):List V:=(Zs4 a k).set 1 (.lit (.int .i64 (w1 k)))
def Ztz (a:Zg) (k:Int):List V:=(Zt0 a k).set 2 (.lit (.int .i64 (w1 (w1 k))))
def Zt5 (a:Zg) (k:Int):List V:=(Ztz a k).set 3 (.lit (.int .i64 (w1 (w1 (w1 k)))))
def Zmc (a:Zg) (k:Int):List V:=(Zt5 a k).set 4 (.lit (.bool (b3 (w1 (w1 (w1 (w1 k)))))))
def rReq6 (a:Zg) (k:Int):List V:=(Zmc a k).set 5 (.tr ((mkL Yd a.data_ (w1 (w1 (w1 (w1 (w1 k)))))).1.map Ze))
theorem Yvj (l:List Zg) (k:Int) (hl:l.length<=1152921504606846976) (hq:∀x∈l,x.data_.length<=1152921504606846976):Q1 Tryz.prog 18 false [.tr (l.map Zg.enc)] [.tr ((mkL Ks l k).1.map Zg.enc)] k (mkL Ks l k).2:=by
 refine Zq5 (M:=Mo) fOk (fn:=Tryz.f18) (r0:=sqL (Xl Tryz.f18)) (r1:=sqL (sqL (sqR (Xl Tryz.f18)))) (body:=lpC (blC (sqR (sqL (sqR (Xl Tryz.f18)))))) (post:=sqR (sqR (Xl Tryz.f18))) (f:=Ks) (by kernel_rfl) (by kernel_rfl) (by kernel_rfl) l k (Qp:=λx=>x.data_.length<=1152921504606846976) hq hl (λts=>by kernel_rfl) (λl k z e ob bk bx u=>by kernel_rfl) (λl k z e ob bk bx u=>by kernel_rfl) (λl k z e i ob bk bx u=>by kernel_rfl) λl i a k z e ob bk bx u h hi hq=>
  Zbm (M:=Mo) fOk 100 [.t true,.k,.row i (Zg.enc a),.put (Zg.enc a) (rs Zg.enc l i (Zs4 a k)),.row i (Zs4 a k),.put (Zs4 a k) (rs Zg.enc l i (Zt0 a k)),.row i (Zt0 a k),.put (Zt0 a k) (rs Zg.enc l i (Ztz a k)),.row i (Ztz a k),.put (Ztz a k) (rs Zg.enc l i (Zt5 a k)),.k,.row i (Zt5 a k),.put (Zt5 a k) (rs Zg.enc l i (Zmc a k)),.row i (Zmc a k),.cell (Zmc a k),.put (Zmc a k) ((l.set i (Ks a k).1).map Zg.enc),.res (.lit (.int .i64 (mkL Yd a.data_ (w1 (w1 (w1 (w1 (w1 k)))))).2)) [.tr ((mkL Yd a.data_ (w1 (w1 (w1 (w1 (w1 k)))))).1.map Ze)]]
   (p:=(decide ((i:Int) < ((l.map Zg.enc).length:Int))=true)/\(nn i)/\((l.map Zg.enc)[i]?=some (Zg.enc a))/\((l.map Zg.enc)[i]?=some (Zg.enc a))/\((l.map Zg.enc).set i (Zs4 a k)=(rs Zg.enc l i (Zs4 a k)))/\(nn i)/\((rs Zg.enc l i (Zs4 a k))[i]?=some (Zs4 a k))/\((rs Zg.enc l i (Zs4 a k))[i]?=some (Zs4 a k))/\((rs Zg.enc l i (Zs4 a k)).set i (Zt0 a k)=(rs Zg.enc l i (Zt0 a k)))/\(nn i)/\((rs Zg.enc l i (Zt0 a k))[i]?=some (Zt0 a k))/\((rs Zg.enc l i (Zt0 a k))[i]?=some (Zt0 a k))/\((rs Zg.enc l i (Zt0 a k)).set i (Ztz a k)=(rs Zg.enc l i (Ztz a k)))/\(nn i)/\((rs Zg.enc l i (Ztz a k))[i]?=some (Ztz a k))/\((rs Zg.enc l i (Ztz a k))[i]?=some (Ztz a k))/\((rs Zg.enc l i (Ztz a k)).set i (Zt5 a k)=(rs Zg.enc l i (Zt5 a k)))/\(nn i)/\((rs Zg.enc l i (Zt5 a k))[i]?=some (Zt5 a k))/\((rs Zg.enc l i (Zt5 a k))[i]?=some (Zt5 a k))/\((rs Zg.enc l i (Zt5 a k)).set i (Zmc a k)=(rs Zg.enc l i (Zmc a k)))/\(nn i)/\((rs Zg.enc l i (Zmc a k))[i]?=some (Zmc a k))/\((rs Zg.enc l i (Zmc a k))[i]?=some (Zmc a k))/\((rs Zg.enc l i (Zmc a k))[i]?=some (Zmc a k))/\(Q1 Tryz.prog 57 false [.tr (a.data_.map Ze)] [.tr ((mkL Yd a.data_ (w1 (w1 (w1 (w1 (w1 k)))))).1.map Ze)] (w1 (w1 (w1 (w1 (w1 k))))) (mkL Yd a.data_ (w1 (w1 (w1 (w1 (w1 k)))))).2)/\((rs Zg.enc l i (Zmc a k)).set i (rReq6 a k)=((l.set i (Ks a k).1).map Zg.enc))/\True)
   ⟨Zzz h,Xv,Zdy h,Zdy h,rfl,Xv,Yj h _,Yj h _,Zhd,Xv,Yj h _,Yj h _,Zhd,Xv,Yj h _,Yj h _,Zhd,Xv,Yj h _,Yj h _,Zhd,Xv,Yj h _,Yj h _,Yj h _,Zec _ _ hq,Yjt rfl,trivial⟩ (ts:=[0,1,5]) (ks:=[0]) (e:=.normal) (vs:=[.ob 0,.lit (.int .i64 ((mkL Yd a.data_ (w1 (w1 (w1 (w1 (w1 k)))))).2)),.lit (.int .i64 (w1 (i:Int)))]) (bs:=[some ⟨true,z,e,((l.set i (Ks a k).1).map Zg.enc)⟩]) (by kernel_rfl) (λs h1 h2=>⟨rfl,.of (by rw[h1,Z0h hi];rfl) h2⟩)
def Qy (x:Zl) (k:Int):Zl×Int:=({x with at_:=k,who:=w1 k,req:={x.req with write:=b3 (w1 (w1 k)),addr:=w1 (w1 (w1 k)),size:=w1 (w1 (w1 (w1 k))),burst:=w1 (w1 (w1 (w1 (w1 k)))),lock:=b3 (w1 (w1 (w1 (w1 (w1 (w1 k)))))),data_:=(mkL Yd x.req.data_ (w1 (w1 (w1 (w1 (w1 (w1 (w1 k)))))))).1}},(mkL Yd x.req.data_ (w1 (w1 (w1 (w1 (w1 (w1 (w1 k)))))))).2)
def Zmz (a:Zl) (k:Int):List V:=(Zl.enc a).set 0 (.lit (.int .i64 (k)))
def Zm1 (a:Zl) (k:Int):List V:=(Zmz a k).set 1 (.lit (.int .i64 (w1 k)))
def Zm9 (a:Zl) (k:Int):List V:=(Zm1 a k).set 2 (.lit (.bool (b3 (w1 (w1 k)))))
def Zmx (a:Zl) (k:Int):List V:=(Zm9 a k).set 3 (.lit (.int .i64 (w1 (w1 (w1 k)))))
def Zmy (a:Zl) (k:Int):List V:=(Zmx a k).set 4 (.lit (.int .i64 (w1 (w1 (w1 (w1 k))))))
def Zn1 (a:Zl) (k:Int):List V:=(Zmy a k).set 5 (.lit (.int .i64 (w1 (w1 (w1 (w1 (w1 k)))))))
def Zgi (a:Zl) (k:Int):List V:=(Zn1 a k).set 6 (.lit (.bool (b3 (w1 (w1 (w1 (w1 (w1 (w1 k)))))))))
def rPost8 (a:Zl) (k:Int):List V:=(Zgi a k).set 7 (.tr ((mkL Yd a.req.data_ (w1 (w1 (w1 (w1 (w1 (w1 (w1 k)))))))).1.map Ze))
theorem Yqc (l:List Zl) (k:Int) (hl:l.length<=1152921504606846976) (hq:∀x∈l,x.req.data_.length<=1152921504606846976):Q1 Tryz.prog 73 false [.tr (l.map Zl.enc)] [.tr ((mkL Qy l k).1.map Zl.enc)] k (mkL Qy l k).2:=by
 refine Zq5 (M:=Mo) fOk (fn:=Tryz.f73) (r0:=sqL (Xl Tryz.f73)) (r1:=sqL (sqL (sqR (Xl Tryz.f73)))) (body:=lpC (blC (sqR (sqL (sqR (Xl Tryz.f73)))))) (post:=sqR (sqR (Xl Tryz.f73))) (f:=Qy) (by kernel_rfl) (by kernel_rfl) (by kernel_rfl) l k (Qp:=λx=>x.req.data_.length<=1152921504606846976) hq hl (λts=>by kernel_rfl) (λl k z e ob bk bx u=>by kernel_rfl) (λl k z e ob bk bx u=>by kernel_rfl) (λl k z e i ob bk bx u=>by kernel_rfl) λl i a k z e ob bk bx u h hi hq=>
  Zbm (M:=Mo) fOk 100 [.t true,.row i (Zl.enc a),.put (Zl.enc a) (rs Zl.enc l i (Zmz a k)),.row i (Zmz a k),.put (Zmz a k) (rs Zl.enc l i (Zm1 a k)),.k,.row i (Zm1 a k),.put (Zm1 a k) (rs Zl.enc l i (Zm9 a k)),.row i (Zm9 a k),.put (Zm9 a k) (rs Zl.enc l i (Zmx a k)),.row i (Zmx a k),.put (Zmx a k) (rs Zl.enc l i (Zmy a k)),.row i (Zmy a k),.put (Zmy a k) (rs Zl.enc l i (Zn1 a k)),.k,.row i (Zn1 a k),.put (Zn1 a k) (rs Zl.enc l i (Zgi a k)),.row i (Zgi a k),.cell (Zgi a k),.put (Zgi a k) ((l.set i (Qy a k).1).map Zl.enc),.res (.lit (.int .i64 (mkL Yd a.req.data_ (w1 (w1 (w1 (w1 (w1 (w1 (w1 k)))))))).2)) [.tr ((mkL Yd a.req.data_ (w1 (w1 (w1 (w1 (w1 (w1 (w1 k)))))))).1.map Ze)]]
   (p:=(decide ((i:Int) < ((l.map Zl.enc).length:Int))=true)/\(nn i)/\((l.map Zl.enc)[i]?=some (Zl.enc a))/\((l.map Zl.enc)[i]?=some (Zl.enc a))/\((l.map Zl.enc).set i (Zmz a k)=(rs Zl.enc l i (Zmz a k)))/\(nn i)/\((rs Zl.enc l i (Zmz a k))[i]?=some (Zmz a k))/\((rs Zl.enc l i (Zmz a k))[i]?=some (Zmz a k))/\((rs Zl.enc l i (Zmz a k)).set i (Zm1 a k)=(rs Zl.enc l i (Zm1 a k)))/\(nn i)/\((rs Zl.enc l i (Zm1 a k))[i]?=some (Zm1 a k))/\((rs Zl.enc l i (Zm1 a k))[i]?=some (Zm1 a k))/\((rs Zl.enc l i (Zm1 a k)).set i (Zm9 a k)=(rs Zl.enc l i (Zm9 a k)))/\(nn i)/\((rs Zl.enc l i (Zm9 a k))[i]?=some (Zm9 a k))/\((rs Zl.enc l i (Zm9 a k))[i]?=some (Zm9 a k))/\((rs Zl.enc l i (Zm9 a k)).set i (Zmx a k)=(rs Zl.enc l i (Zmx a k)))/\(nn i)/\((rs Zl.enc l i (Zmx a k))[i]?=some (Zmx a k))/\((rs Zl.enc l i (Zmx a k))[i]?=some (Zmx a k))/\((rs Zl.enc l i (Zmx a k)).set i (Zmy a k)=(rs Zl.enc l i (Zmy a k)))/\(nn i)/\((rs Zl.enc l i (Zmy a k))[i]?=some (Zmy a k))/\((rs Zl.enc l i (Zmy a k))[i]?=some (Zmy a k))/\((rs Zl.enc l i (Zmy a k)).set i (Zn1 a k)=(rs Zl.enc l i (Zn1 a k)))/\(nn i)/\((rs Zl.enc l i (Zn1 a k))[i]?=some (Zn1 a k))/\((rs Zl.enc l i (Zn1 a k))[i]?=some (Zn1 a k))/\((rs Zl.enc l i (Zn1 a k)).set i (Zgi a k)=(rs Zl.enc l i (Zgi a k)))/\(nn i)/\((rs Zl.enc l i (Zgi a k))[i]?=some (Zgi a k))/\((rs Zl.enc l i (Zgi a k))[i]?=some (Zgi a k))/\((rs Zl.enc l i (Zgi a k))[i]?=some (Zgi a k))/\(Q1 Tryz.prog 57 false [.tr (a.req.data_.map Ze)] [.tr ((mkL Yd a.req.data_ (w1 (w1 (w1 (w1 (w1 (w1 (w1 k)))))))).1.map Ze)] (w1 (w1 (w1 (w1 (w1 (w1 (w1 k))))))) (mkL Yd a.req.data_ (w1 (w1 (w1 (w1 (w1 (w1 (w1 k)))))))).2)/\((rs Zl.enc l i (Zgi a k)).set i (rPost8 a k)=((l.set i (Qy a k).1).map Zl.enc))/\True)
   ⟨Zzz h,Xv,Zdy h,Zdy h,rfl,Xv,Yj h _,Yj h _,Zhd,Xv,Yj h _,Yj h _,Zhd,Xv,Yj h _,Yj h _,Zhd,Xv,Yj h _,Yj h _,Zhd,Xv,Yj h _,Yj h _,Zhd,Xv,Yj h _,Yj h _,Zhd,Xv,Yj h _,Yj h _,Yj h _,Zec _ _ hq,Yjt rfl,trivial⟩ (ts:=[0,1,5]) (ks:=[0]) (e:=.normal) (vs:=[.ob 0,.lit (.int .i64 ((mkL Yd a.req.data_ (w1 (w1 (w1 (w1 (w1 (w1 (w1 k)))))))).2)),.lit (.int .i64 (w1 (i:Int)))]) (bs:=[some ⟨true,z,e,((l.set i (Qy a k).1).map Zl.enc)⟩]) (by kernel_rfl) (λs h1 h2=>⟨rfl,.of (by rw[h1,Z0h hi];rfl) h2⟩)
def Wl (x:Zb) (k:Int):Zb×Int:=({x with queue:=(mkL Ks x.queue (k)).1,beat:=(mkL Ks x.queue (k)).2,done:=w1 ((mkL Ks x.queue (k)).2),tries:=w1 (w1 ((mkL Ks x.queue (k)).2)),parted:=b3 (w1 (w1 (w1 ((mkL Ks x.queue (k)).2)))),broken:=b3 (w1 (w1 (w1 (w1 ((mkL Ks x.queue (k)).2)))))},w1 (w1 (w1 (w1 (w1 ((mkL Ks x.queue (k)).2))))))
def Ztr (a:Zb) (k:Int):List V:=(Zb.enc a).set 0 (.tr ((mkL Ks a.queue (k)).1.map Zg.enc))
def Zsj (a:Zb) (k:Int):List V:=(Ztr a k).set 1 (.lit (.int .i64 ((mkL Ks a.queue (k)).2)))
def Zs3 (a:Zb) (k:Int):List V:=(Zsj a k).set 2 (.lit (.int .i64 (w1 ((mkL Ks a.queue (k)).2))))
def Zt1 (a:Zb) (k:Int):List V:=(Zs3 a k).set 3 (.lit (.int .i64 (w1 (w1 ((mkL Ks a.queue (k)).2)))))
def Zsv (a:Zb) (k:Int):List V:=(Zt1 a k).set 4 (.lit (.bool (b3 (w1 (w1 (w1 ((mkL Ks a.queue (k)).2)))))))
def rMst6 (a:Zb) (k:Int):List V:=(Zsv a k).set 5 (.lit (.bool (b3 (w1 (w1 (w1 (w1 ((mkL Ks a.queue (k)).2))))))))
theorem Yui (l:List Zb) (k:Int) (hl:l.length<=1152921504606846976) (hq:∀x∈l,x.queue.length<=1152921504606846976/\∀y∈x.queue,y.data_.length<=1152921504606846976):Q1 Tryz.prog 74 false [.tr (l.map Zb.enc)] [.tr ((mkL Wl l k).1.map Zb.enc)] k (mkL Wl l k).2:=by
 refine Zq5 (M:=Mo) fOk (fn:=Tryz.f74) (r0:=sqL (Xl Tryz.f74)) (r1:=sqL (sqL (sqR (Xl Tryz.f74)))) (body:=lpC (blC (sqR (sqL (sqR (Xl Tryz.f74)))))) (post:=sqR (sqR (Xl Tryz.f74))) (f:=Wl) (by kernel_rfl) (by kernel_rfl) (by kernel_rfl) l k (Qp:=λx=>x.queue.length<=1152921504606846976/\∀y∈x.queue,y.data_.length<=1152921504606846976) hq hl (λts=>by kernel_rfl) (λl k z e ob bk bx u=>by kernel_rfl) (λl k z e ob bk bx u=>by kernel_rfl) (λl k z e i ob bk bx u=>by kernel_rfl) λl i a k z e ob bk bx u h hi hq=>
  Zbm (M:=Mo) fOk 100 [.t true,.row i (Zb.enc a),.cell (Zb.enc a),.put (Zb.enc a) (rs Zb.enc l i (Ztr a k)),.res (.lit (.int .i64 (mkL Ks a.queue (k)).2)) [.tr ((mkL Ks a.queue (k)).1.map Zg.enc)],.row i (Ztr a k),.put (Ztr a k) (rs Zb.enc l i (Zsj a k)),.row i (Zsj a k),.put (Zsj a k) (rs Zb.enc l i (Zs3 a k)),.row i (Zs3 a k),.put (Zs3 a k) (rs Zb.enc l i (Zt1 a k)),.k,.row i (Zt1 a k),.put (Zt1 a k) (rs Zb.enc l i (Zsv a k)),.k,.row i (Zsv a k),.put (Zsv a k) ((l.set i (Wl a k).1).map Zb.enc)]
   (p:=(decide ((i:Int) < ((l.map Zb.enc).length:Int))=true)/\(nn i)/\((l.map Zb.enc)[i]?=some (Zb.enc a))/\((l.map Zb.enc)[i]?=some (Zb.enc a))/\((l.map Zb.enc)[i]?=some (Zb.enc a))/\(Q1 Tryz.prog 18 false [.tr (a.queue.map Zg.enc)] [.tr ((mkL Ks a.queue (k)).1.map Zg.enc)] (k) (mkL Ks a.queue (k)).2)/\((l.map Zb.enc).set i (Ztr a k)=(rs Zb.enc l i (Ztr a k)))/\(nn i)/\((rs Zb.enc l i (Ztr a k))[i]?=some (Ztr a k))/\((rs Zb.enc l i (Ztr a k))[i]?=some (Ztr a k))/\((rs Zb.enc l i (Ztr a k)).set i (Zsj a k)=(rs Zb.enc l i (Zsj a k)))/\(nn i)/\((rs Zb.enc l i (Zsj a k))[i]?=some (Zsj a k))/\((rs Zb.enc l i (Zsj a k))[i]?=some (Zsj a k))/\((rs Zb.enc l i (Zsj a k)).set i (Zs3 a k)=(rs Zb.enc l i (Zs3 a k)))/\(nn i)/\((rs Zb.enc l i (Zs3 a k))[i]?=some (Zs3 a k))/\((rs Zb.enc l i (Zs3 a k))[i]?=some (Zs3 a k))/\((rs Zb.enc l i (Zs3 a k)).set i (Zt1 a k)=(rs Zb.enc l i (Zt1 a k)))/\(nn i)/\((rs Zb.enc l i (Zt1 a k))[i]?=some (Zt1 a k))/\((rs Zb.enc l i (Zt1 a k))[i]?=some (Zt1 a k))/\((rs Zb.enc l i (Zt1 a k)).set i (Zsv a k)=(rs Zb.enc l i (Zsv a k)))/\(nn i)/\((rs Zb.enc l i (Zsv a k))[i]?=some (Zsv a k))/\((rs Zb.enc l i (Zsv a k))[i]?=some (Zsv a k))/\((rs Zb.enc l i (Zsv a k)).set i (rMst6 a k)=((l.set i (Wl a k).1).map Zb.enc))/\True)
   ⟨Zzz h,Xv,Zdy h,Zdy h,Zdy h,Yvj _ _ hq.1 hq.2,rfl,Xv,Yj h _,Yj h _,Zhd,Xv,Yj h _,Yj h _,Zhd,Xv,Yj h _,Yj h _,Zhd,Xv,Yj h _,Yj h _,Zhd,Xv,Yj h _,Yj h _,Yjt rfl,trivial⟩ (ts:=[0,1,5]) (ks:=[0]) (e:=.normal) (vs:=[.ob 0,.lit (.int .i64 (w1 (w1 (w1 (w1 (w1 ((mkL Ks a.queue (k)).2))))))),.lit (.int .i64 (w1 (i:Int)))]) (bs:=[some ⟨true,z,e,((l.set i (Wl a k).1).map Zb.enc)⟩]) (by kernel_rfl) (λs h1 h2=>⟨rfl,.of (by rw[h1,Z0h hi];rfl) h2⟩)
def Zk.mok (x:Zk):Prop:=(x.masters.length<=1152921504606846976)
def Xp (x:Zk) (k:Int):Zk×Int:=({x with masters:=(mkL Js x.masters (k)).1},(mkL Js x.masters (k)).2)
theorem Ytr (x:Zk) (k:Int) (h:x.mok):Q1 Tryz.prog 17 true (Zk.enc x) (Zk.enc (Xp x k).1) k (Xp x k).2:=by
 refine mk_ok fOk (fn:=Tryz.f17) (c:=Xl Tryz.f17) (rt:=4) (by kernel_rfl) (by kernel_rfl) (by kernel_rfl) (by show 6<=1000;decide) (.inl rfl) λts=>?_;exact Zbm (M:=Mo) fOk 100 [.res (.lit (.int .i64 (mkL Js x.masters (k)).2)) [.tr ((mkL Js x.masters (k)).1.map Zd.enc)]]
  (p:=(Q1 Tryz.prog 56 false [.tr (x.masters.map Zd.enc)] [.tr ((mkL Js x.masters (k)).1.map Zd.enc)] (k) (mkL Js x.masters (k)).2)/\True)
  ⟨Ynf _ _ h,trivial⟩ (ts:=[4]) (ks:=[0]) (e:=.ret) (vs:=[.lit (.int .i64 (Xp x k).2)]) (bs:=[some ⟨true,(ts 0).1,(ts 0).2,((Xp x k).1.masters.map Zd.enc)⟩]) (by kernel_rfl)
  (λs h1 h2=>⟨rfl,by simpa using h1,by
   simp only[Va1,Vbw,Vcc,and_true] at h2;exact⟨h2,rfl,rfl,rfl,rfl,rfl,trivial⟩⟩)
def Zo.mok (x:Zo):Prop:=(x.regs.length<=1152921504606846976)/\(x.fifo.length<=1152921504606846976)
def Zoo (x:Zo) (k:Int):Zo×Int:=({x with regs:=(mkL Yd x.regs (k)).1,fifo:=(mkL Yd x.fifo ((mkL Yd x.regs (k)).2)).1},(mkL Yd x.fifo ((mkL Yd x.regs (k)).2)).2)
theorem Yxn (x:Zo) (k:Int) (h:x.mok):Q1 Tryz.prog 129 true (Zo.enc x) (Zo.enc (Zoo x k).1) k (Zoo x k).2:=by
 refine mk_ok fOk (fn:=Tryz.f129) (c:=Xl Tryz.f129) (rt:=4) (by kernel_rfl) (by kernel_rfl) (by kernel_rfl) (by show 3<=1000;decide) (.inl rfl) λts=>?_;exact Zbm (M:=Mo) fOk 100 [.res (.lit (.int .i64 (mkL Yd x.regs (k)).2)) [.tr ((mkL Yd x.regs (k)).1.map Ze)],.res (.lit (.int .i64 (mkL Yd x.fifo ((mkL Yd x.regs (k)).2)).2)) [.tr ((mkL Yd x.fifo ((mkL Yd x.regs (k)).2)).1.map Ze)]]
  (p:=(Q1 Tryz.prog 57 false [.tr (x.regs.map Ze)] [.tr ((mkL Yd x.regs (k)).1.map Ze)] (k) (mkL Yd x.regs (k)).2)/\(Q1 Tryz.prog 57 false [.tr (x.fifo.map Ze)] [.tr ((mkL Yd x.fifo ((mkL Yd x.regs (k)).2)).1.map Ze)] ((mkL Yd x.regs (k)).2) (mkL Yd x.fifo ((mkL Yd x.regs (k)).2)).2)/\True)
  ⟨Zec _ _ h.1,Zec _ _ h.2,trivial⟩ (ts:=[4]) (ks:=[0,2]) (e:=.ret) (vs:=[.lit (.int .i64 (Zoo x k).2)]) (bs:=[some ⟨true,(ts 0).1,(ts 0).2,((Zoo x k).1.regs.map Ze)⟩,some ⟨true,(ts 2).1,(ts 2).2,((Zoo x k).1.fifo.map Ze)⟩]) (by kernel_rfl)
  (λs h1 h2=>⟨rfl,by simpa using h1,by
   simp only[Va1,Vbw,Vcc,and_true] at h2;exact⟨h2.1,rfl,h2.2,trivial⟩⟩)
def Zi.mok (x:Zi):Prop:=(x.mem.length<=1152921504606846976)/\Zo.mok x.dev
def Ja (x:Zi) (k:Int):Zi×Int:=({x with mem:=(mkL Yd x.mem (k)).1,dev:=(Zoo x.dev ((mkL Yd x.mem (k)).2)).1},(Zoo x.dev ((mkL Yd x.mem (k)).2)).2)
theorem Yo4 (x:Zi) (k:Int) (h:x.mok):Q1 Tryz.prog 76 true (Zi.enc x) (Zi.enc (Ja x k).1) k (Ja x k).2:=by
 refine mk_ok fOk (fn:=Tryz.f76) (c:=Xl Tryz.f76) (rt:=4) (by kernel_rfl) (by kernel_rfl) (by kernel_rfl) (by show 4<=1000;decide) (.inl rfl) λts=>?_;exact Zbm (M:=Mo) fOk 100 [.res (.lit (.int .i64 (mkL Yd x.mem (k)).2)) [.tr ((mkL Yd x.mem (k)).1.map Ze)],.res (.lit (.int .i64 (Zoo x.dev ((mkL Yd x.mem (k)).2)).2)) (Zo.enc (Zoo x.dev ((mkL Yd x.mem (k)).2)).1)]
  (p:=(Q1 Tryz.prog 57 false [.tr (x.mem.map Ze)] [.tr ((mkL Yd x.mem (k)).1.map Ze)] (k) (mkL Yd x.mem (k)).2)/\(Q1 Tryz.prog 129 true (Zo.enc x.dev) (Zo.enc (Zoo x.dev ((mkL Yd x.mem (k)).2)).1) ((mkL Yd x.mem (k)).2) (Zoo x.dev ((mkL Yd x.mem (k)).2)).2)/\True)
  ⟨Zec _ _ h.1,Yxn _ _ h.2,trivial⟩ (ts:=[4]) (ks:=[0,1,3]) (e:=.ret) (vs:=[.lit (.int .i64 (Ja x k).2)]) (bs:=[some ⟨true,(ts 0).1,(ts 0).2,((Ja x k).1.mem.map Ze)⟩,some ⟨true,(ts 1).1,(ts 1).2,((Ja x k).1.dev.regs.map Ze)⟩,some ⟨true,(ts 3).1,(ts 3).2,((Ja x k).1.dev.fifo.map Ze)⟩]) (by kernel_rfl)
  (λs h1 h2=>⟨rfl,by simpa using h1,by
   simp only[Va1,Vbw,Vcc,and_true] at h2;exact⟨h2.1,h2.2.1,rfl,h2.2.2,trivial⟩⟩)
def Zf.mok (x:Zf):Prop:=(x.posts.length<=1152921504606846976/\∀y∈x.posts,y.req.data_.length<=1152921504606846976)/\(x.waits.length<=1152921504606846976)/\(x.says.length<=1152921504606846976)
def Kz (x:Zf) (k:Int):Zf×Int:=({x with posts:=(mkL Qy x.posts (k)).1,waits:=(mkL Yd x.waits ((mkL Qy x.posts (k)).2)).1,says:=(mkL Yd x.says ((mkL Yd x.waits ((mkL Qy x.posts (k)).2)).2)).1},(mkL Yd x.says ((mkL Yd x.waits ((mkL Qy x.posts (k)).2)).2)).2)
theorem Ymu (x:Zf) (k:Int) (h:x.mok):Q1 Tryz.prog 27 true (Zf.enc x) (Zf.enc (Kz x k).1) k (Kz x k).2:=by
 refine mk_ok fOk (fn:=Tryz.f27) (c:=Xl Tryz.f27) (rt:=4) (by kernel_rfl) (by kernel_rfl) (by kernel_rfl) (by show 3<=1000;decide) (.inl rfl) λts=>?_;exact Zbm (M:=Mo) fOk 100 [.res (.lit (.int .i64 (mkL Qy x.posts (k)).2)) [.tr ((mkL Qy x.posts (k)).1.map Zl.enc)],.res (.lit (.int .i64 (mkL Yd x.waits ((mkL Qy x.posts (k)).2)).2)) [.tr ((mkL Yd x.waits ((mkL Qy x.posts (k)).2)).1.map Ze)],.res (.lit (.int .i64 (mkL Yd x.says ((mkL Yd x.waits ((mkL Qy x.posts (k)).2)).2)).2)) [.tr ((mkL Yd x.says ((mkL Yd x.waits ((mkL Qy x.posts (k)).2)).2)).1.map Ze)]]
  (p:=(Q1 Tryz.prog 73 false [.tr (x.posts.map Zl.enc)] [.tr ((mkL Qy x.posts (k)).1.map Zl.enc)] (k) (mkL Qy x.posts (k)).2)/\(Q1 Tryz.prog 57 false [.tr (x.waits.map Ze)] [.tr ((mkL Yd x.waits ((mkL Qy x.posts (k)).2)).1.map Ze)] ((mkL Qy x.posts (k)).2) (mkL Yd x.waits ((mkL Qy x.posts (k)).2)).2)/\(Q1 Tryz.prog 57 false [.tr (x.says.map Ze)] [.tr ((mkL Yd x.says ((mkL Yd x.waits ((mkL Qy x.posts (k)).2)).2)).1.map Ze)] ((mkL Yd x.waits ((mkL Qy x.posts (k)).2)).2) (mkL Yd x.says ((mkL Yd x.waits ((mkL Qy x.posts (k)).2)).2)).2)/\True)
  ⟨Yqc _ _ h.1.1 h.1.2,Zec _ _ h.2.1,Zec _ _ h.2.2,trivial⟩ (ts:=[4]) (ks:=[0,1,2]) (e:=.ret) (vs:=[.lit (.int .i64 (Kz x k).2)]) (bs:=[some ⟨true,(ts 0).1,(ts 0).2,((Kz x k).1.posts.map Zl.enc)⟩,some ⟨true,(ts 1).1,(ts 1).2,((Kz x k).1.waits.map Ze)⟩,some ⟨true,(ts 2).1,(ts 2).2,((Kz x k).1.says.map Ze)⟩]) (by kernel_rfl)
  (λs h1 h2=>⟨rfl,by simpa using h1,by
   simp only[Va1,Vbw,Vcc,and_true] at h2;exact⟨h2.1,h2.2.1,h2.2.2,trivial⟩⟩)
def Za.mok (x:Za):Prop:=Zk.mok x.conf/\(x.m.length<=1152921504606846976/\∀z∈x.m,z.queue.length<=1152921504606846976/\∀y∈z.queue,y.data_.length<=1152921504606846976)/\(x.buckets.length<=1152921504606846976)/\(x.splits.length<=1152921504606846976)/\Zi.mok x.model/\(x.log.length<=1152921504606846976)
def Xb (x:Za) (k:Int):Za×Int:=({x with conf:=(Xp x.conf (k)).1,m:=(mkL Wl x.m ((Xp x.conf (k)).2)).1,buckets:=(mkL Xa x.buckets ((mkL Wl x.m ((Xp x.conf (k)).2)).2)).1,splits:=(mkL Yd x.splits ((mkL Xa x.buckets ((mkL Wl x.m ((Xp x.conf (k)).2)).2)).2)).1,model:=(Ja x.model ((mkL Yd x.splits ((mkL Xa x.buckets ((mkL Wl x.m ((Xp x.conf (k)).2)).2)).2)).2)).1,log:=(mkL Zbg x.log ((Ja x.model ((mkL Yd x.splits ((mkL Xa x.buckets ((mkL Wl x.m ((Xp x.conf (k)).2)).2)).2)).2)).2)).1},(mkL Zbg x.log ((Ja x.model ((mkL Yd x.splits ((mkL Xa x.buckets ((mkL Wl x.m ((Xp x.conf (k)).2)).2)).2)).2)).2)).2)
theorem Yhd (x:Za) (k:Int) (h:x.mok):Q1 Tryz.prog 28 true (Za.enc x) (Za.enc (Xb x k).1) k (Xb x k).2:=by
 refine mk_ok fOk (fn:=Tryz.f28) (c:=Xl Tryz.f28) (rt:=4) (by kernel_rfl) (by kernel_rfl) (by kernel_rfl) (by show 37<=1000;decide) (.inl rfl) λts=>?_;exact Zbm (M:=Mo) fOk 100 [.res (.lit (.int .i64 (Xp x.conf (k)).2)) (Zk.enc (Xp x.conf (k)).1),.res (.lit (.int .i64 (mkL Wl x.m ((Xp x.conf (k)).2)).2)) [.tr ((mkL Wl x.m ((Xp x.conf (k)).2)).1.map Zb.enc)],.res (.lit (.int .i64 (mkL Xa x.buckets ((mkL Wl x.m ((Xp x.conf (k)).2)).2)).2)) [.tr ((mkL Xa x.buckets ((mkL Wl x.m ((Xp x.conf (k)).2)).2)).1.map Zc.enc)],.res (.lit (.int .i64 (mkL Yd x.splits ((mkL Xa x.buckets ((mkL Wl x.m ((Xp x.conf (k)).2)).2)).2)).2)) [.tr ((mkL Yd x.splits ((mkL Xa x.buckets ((mkL Wl x.m ((Xp x.conf (k)).2)).2)).2)).1.map Ze)],.res (.lit (.int .i64 (Ja x.model ((mkL Yd x.splits ((mkL Xa x.buckets ((mkL Wl x.m ((Xp x.conf (k)).2)).2)).2)).2)).2)) (Zi.enc (Ja x.model ((mkL Yd x.splits ((mkL Xa x.buckets ((mkL Wl x.m ((Xp x.conf (k)).2)).2)).2)).2)).1),.res (.lit (.int .i64 (mkL Zbg x.log ((Ja x.model ((mkL Yd x.splits ((mkL Xa x.buckets ((mkL Wl x.m ((Xp x.conf (k)).2)).2)).2)).2)).2)).2)) [.tr ((mkL Zbg x.log ((Ja x.model ((mkL Yd x.splits ((mkL Xa x.buckets ((mkL Wl x.m ((Xp x.conf (k)).2)).2)).2)).2)).2)).1.map Zm.enc)]]
  (p:=(Q1 Tryz.prog 17 true (Zk.enc x.conf) (Zk.enc (Xp x.conf (k)).1) (k) (Xp x.conf (k)).2)/\(Q1 Tryz.prog 74 false [.tr (x.m.map Zb.enc)] [.tr ((mkL Wl x.m ((Xp x.conf (k)).2)).1.map Zb.enc)] ((Xp x.conf (k)).2) (mkL Wl x.m ((Xp x.conf (k)).2)).2)/\(Q1 Tryz.prog 75 false [.tr (x.buckets.map Zc.enc)] [.tr ((mkL Xa x.buckets ((mkL Wl x.m ((Xp x.conf (k)).2)).2)).1.map Zc.enc)] ((mkL Wl x.m ((Xp x.conf (k)).2)).2) (mkL Xa x.buckets ((mkL Wl x.m ((Xp x.conf (k)).2)).2)).2)/\(Q1 Tryz.prog 57 false [.tr (x.splits.map Ze)] [.tr ((mkL Yd x.splits ((mkL Xa x.buckets ((mkL Wl x.m ((Xp x.conf (k)).2)).2)).2)).1.map Ze)] ((mkL Xa x.buckets ((mkL Wl x.m ((Xp x.conf (k)).2)).2)).2) (mkL Yd x.splits ((mkL Xa x.buckets ((mkL Wl x.m ((Xp x.conf (k)).2)).2)).2)).2)/\(Q1 Tryz.prog 76 true (Zi.enc x.model) (Zi.enc (Ja x.model ((mkL Yd x.splits ((mkL Xa x.buckets ((mkL Wl x.m ((Xp x.conf (k)).2)).2)).2)).2)).1) ((mkL Yd x.splits ((mkL Xa x.buckets ((mkL Wl x.m ((Xp x.conf (k)).2)).2)).2)).2) (Ja x.model ((mkL Yd x.splits ((mkL Xa x.buckets ((mkL Wl x.m ((Xp x.conf (k)).2)).2)).2)).2)).2)/\(Q1 Tryz.prog 19 false [.tr (x.log.map Zm.enc)] [.tr ((mkL Zbg x.log ((Ja x.model ((mkL Yd x.splits ((mkL Xa x.buckets ((mkL Wl x.m ((Xp x.conf (k)).2)).2)).2)).2)).2)).1.map Zm.enc)] ((Ja x.model ((mkL Yd x.splits ((mkL Xa x.buckets ((mkL Wl x.m ((Xp x.conf (k)).2)).2)).2)).2)).2) (mkL Zbg x.log ((Ja x.model ((mkL Yd x.splits ((mkL Xa x.buckets ((mkL Wl x.m ((Xp x.conf (k)).2)).2)).2)).2)).2)).2)/\True)
  ⟨Ytr _ _ h.1,Yui _ _ h.2.1.1 h.2.1.2,Yj6 _ _ h.2.2.1,Zec _ _ h.2.2.2.1,Yo4 _ _ h.2.2.2.2.1,Yp7 _ _ h.2.2.2.2.2,trivial⟩ (ts:=[4]) (ks:=[0,7,10,11,31,32,34,36]) (e:=.ret) (vs:=[.lit (.int .i64 (Xb x k).2)]) (bs:=[some ⟨true,(ts 0).1,(ts 0).2,((Xb x k).1.conf.masters.map Zd.enc)⟩,some ⟨true,(ts 7).1,(ts 7).2,((Xb x k).1.m.map Zb.enc)⟩,some ⟨true,(ts 10).1,(ts 10).2,((Xb x k).1.buckets.map Zc.enc)⟩,some ⟨true,(ts 11).1,(ts 11).2,((Xb x k).1.splits.map Ze)⟩,some ⟨true,(ts 31).1,(ts 31).2,((Xb x k).1.model.mem.map Ze)⟩,some ⟨true,(ts 32).1,(ts 32).2,((Xb x k).1.model.dev.regs.map Ze)⟩,some ⟨true,(ts 34).1,(ts 34).2,((Xb x k).1.model.dev.fifo.map Ze)⟩,some ⟨true,(ts 36).1,(ts 36).2,((Xb x k).1.log.map Zm.enc)⟩]) (by kernel_rfl)
  (λs h1 h2=>⟨rfl,by simpa using h1,by
   simp only[Va1,Vbw,Vcc,and_true] at h2;exact⟨h2.1,rfl,rfl,rfl,rfl,rfl,rfl,h2.2.1,rfl,rfl,h2.2.2.1,h2.2.2.2.1,rfl,rfl,rfl,rfl,rfl,rfl,rfl,rfl,rfl,rfl,rfl,rfl,rfl,rfl,rfl,rfl,rfl,rfl,rfl,h2.2.2.2.2.1,h2.2.2.2.2.2.1,rfl,h2.2.2.2.2.2.2.1,rfl,h2.2.2.2.2.2.2.2,trivial⟩⟩)
end
end Go.Proofs.YtagdmghmblplbaaGreat.Ev
namespace Go.Proofs.YtagdmghmblplbaaGreat.Ev
open Go Go.Proofs
theorem Zzo {n:Int} (h1:-9223372036854775808<=n) (h2:n < 9223372036854775808):IntKind.i64.wrap n=n:=w64_of h1 h2
theorem Yq {a b:Int} (h1:-9223372036854775808<=a+b) (h2:a+b < 9223372036854775808):Zs a b=a+b:=Zzo h1 h2
theorem Xe {a b:Int} (h1:-9223372036854775808<=a - b) (h2:a - b < 9223372036854775808):Y8 a b=a - b:=Zzo h1 h2
theorem Zfy {a b:Int} (h1:-9223372036854775808<=a*b) (h2:a*b < 9223372036854775808):Jw a b=a*b:=Zzo h1 h2
theorem Wj {k:Nat} (h:k < 4611686018427387904):Zs (k:Int) 1=((k+1:Nat):Int):=by rw[Yq (by omega) (by omega)];rfl
theorem ok_i64 {n:Int} (h:(Lit.int .i64 n).wf=true):-9223372036854775808<=n/\n < 9223372036854775808:=by
 simp[Lit.wf,IntKind.min,IntKind.max,IntKind.signed,IntKind.bits] at h;omega
section
variable {α β σ ρ:Type}
theorem Xs {xs:List α} {k:Nat} (h:k < xs.length):idx xs (k:Int)=some xs[k]:=by
 simp[idx,h]
theorem Qx:4611686018427387904 < FU:=by decide
def Zxr (step:α->σ->Option (σ ⊕ ρ)) (fin:σ->Option ρ):List α->σ->Option ρ
 | [],s=>fin s
 | a::l,s=>(step a s).bind λr=>match r with|.inl s'=>Zxr step fin l s'|.inr x=>some x
def goL (k:σ->Option ρ):σ ⊕ ρ->Option ρ
 | .inl s=>k s
 | .inr x=>some x
theorem Y19 (xs:List α) (hl:xs.length < 4611686018427387904) (step:α->σ->Option (σ ⊕ ρ)) (fin:σ->Option ρ) (L:Nat->σ->Int->Option ρ)
  (hL:∀m s i,L (m+1) s i=if decide (i < (xs.length:Int))=true then (idx xs i).bind λa=>(step a s).bind (goL λs'=>L m s' (Zs i 1)) else fin s):
  ∀(m k:Nat) (s:σ),k<=xs.length->xs.length - k < m->L m s k=Zxr step fin (xs.drop k) s:=by
 intro m
 induction m with
 | zero=>intro k s _ h;omega
 | succ m ih=>
  intro k s hk hm;rw[hL];by_cases hc:k < xs.length
  .have h1:decide ((k:Int) < (xs.length:Int))=true:=by simpa using hc
   rw[ZZj h1,Xs hc,ZZa,Va2 hc];simp only[Zxr]
   congr 1
   funext r
   cases r with
   | inl s'=>
    simp only[goL];rw[Wj (by omega)];exact ih (k+1) s' (by omega) (by omega)
   | inr x=>rfl
  .have h1:¬decide ((k:Int) < (xs.length:Int))=true:=by simpa using hc
   rw[ZZi h1,Va9 (by omega)];rfl
theorem Zz9 (xs:List α) (hl:xs.length < 4611686018427387904) (step:α->σ->Option (σ ⊕ ρ)) (fin:σ->Option ρ) (L:Nat->σ->Int->Option ρ)
  (hL:∀m s i,L (m+1) s i=if decide (i < (xs.length:Int))=true then (idx xs i).bind λa=>(step a s).bind (goL λs'=>L m s' (Zs i 1)) else fin s) (s:σ):
  L FU s 0=Zxr step fin xs s:=by
 have:=Y19 xs hl step fin L hL FU 0 s (Vbk _) (by have:=Qx;omega);simpa using this
theorem Ylm (step:α->σ->Option (σ ⊕ ρ)) (fin:σ->Option ρ) (f:σ->α->σ) (I:List α->σ->Prop) (h:∀a l s,I (a::l) s->step a s=some (.inl (f s a))/\I l (f s a)):∀(xs:List α) (s:σ),I xs s->Zxr step fin xs s=fin (xs.foldl f s):=by
 intro xs
 induction xs with
 | nil=>intro s _;rfl
 | cons a l ih=>
  intro s hi;obtain⟨h1,h2⟩:=h a l s hi;simp only[Zxr,h1,ZZa,Vd6];exact ih _ h2
theorem Zq1 (xs:List α) (g:α->β) (hl:xs.length < 4611686018427387904) (f:α->Option β) (hf:∀a∈xs,f a=some (g a)) (L:Nat->List β->Int->Option (List β))
  (hL:∀m v i,L (m+1) v i=if decide (i < (xs.length:Int))=true then (idx xs i).bind λa=>(f a).bind λb=>(idx v i).bind λ_=>(Qc v i b).bind λy=>L m y (Zs i 1) else some v) (v:List β) (hv:v.length=xs.length):L FU v 0=some (xs.map g):=by
 have key:∀(m k:Nat) (v:List β),k<=xs.length->xs.length - k < m->v.length=xs.length->v.take k=(xs.take k).map g->L m v k=some (xs.map g):=by
  intro m
  induction m with
  | zero=>intro k v _ h;omega
  | succ m ih=>
   intro k v hk hm hv ht;rw[hL];by_cases hc:k < xs.length
   .have h1:decide ((k:Int) < (xs.length:Int))=true:=by simpa using hc
    have hc2:k < v.length:=by omega
    rw[ZZj h1,Xs hc,ZZa,hf _ (Vaq hc),ZZa,Xs hc2,ZZa];simp only[Qc,ZZa];rw[Wj (by omega)];refine ih (k+1) _ (by omega) (by omega) (by simp[hv]) ?_;rw[Vcd,List.take_add_one,List.take_add_one,Vdl,List.take_set_of_le (Vav _),ht,Veb hc2,Vab hc];rfl
   .have h1:¬decide ((k:Int) < (xs.length:Int))=true:=by simpa using hc
    rw[ZZi h1];rw[Vbi (by omega),Vbi (by omega)] at ht;rw[ht]
 have:=key FU 0 v (Vbk _) (by have:=Qx;omega) hv (by simp);simpa using this
theorem Zw8 {sz n:Nat} {z:α} (h1:n*sz<=70368744177664) (h2:n<=9223372036854775807):mkI sz (n:Int) z=some (List.replicate n z):=by
 simp[mkI,h1,h2]
theorem Kh {sz:Nat} {xs ys:List α} (h1:(xs.length+ys.length)*sz<=140737488355328) (h2:xs.length+ys.length<=9223372036854775807):We sz xs ys=some (xs++ys):=by
 unfold We;rw[ZZj ⟨h1,h2⟩]
end
section
variable {α:Type}
theorem Wy (xs:List α) (i:Int) (a:α):Qc xs i a=some (xs.set i.toNat a):=rfl
def atI [Inhabited α] (xs:List α) (i:Int):α:=xs.getD i.toNat default
theorem Qk [Inhabited α] {xs:List α} {k:Nat} (h:k < xs.length):atI xs (k:Int)=xs[k]:=by
 simp[atI,h]
theorem Xq [Inhabited α] {xs:List α} {i:Int} (h0:0<=i) (h1:i < (xs.length:Int)):idx xs i=some (atI xs i):=by
 obtain⟨k,rfl⟩:∃k:Nat,i=k:=⟨i.toNat,by omega⟩;have hk:k < xs.length:=by omega
 rw[Xs hk,Qk hk]
theorem Zkq [Inhabited α] {xs:List α} {i:Int} (h0:0<=i) (h1:i < (xs.length:Int)):atI xs i∈xs:=by
 obtain⟨k,rfl⟩:∃k:Nat,i=k:=⟨i.toNat,by omega⟩;have hk:k < xs.length:=by omega
 rw[Qk hk];exact Vaq hk
theorem Zp8 [Inhabited α] {xs:List α} {i:Int} (a:α) (h0:0<=i) (h1:i < (xs.length:Int)):atI (xs.set i.toNat a) i=a:=by
 obtain⟨k,rfl⟩:∃k:Nat,i=k:=⟨i.toNat,by omega⟩;have hk:k < xs.length:=by omega
 rw[Qk (by simpa using hk)];simp
theorem Ylc [Inhabited α] {xs:List α} {i j:Int} (a:α) (h0:0<=i) (h1:0<=j) (hn:i≠j):atI (xs.set i.toNat a) j=atI xs j:=by
 unfold atI;rw[Vaw,Vaw,List.getElem?_set_ne (by omega)]
theorem Zw6 {n:Int} (h:n≠0):nzI n=some ():=by unfold nzI;rw[ZZi h]
theorem Y06 {n:Int} (h:0<=n):nnI n=some ():=by unfold nnI;rw[ZZj h]
theorem Zeq {a n:Int} (h0:0<=a):Za4 a n=a % n:=by unfold Za4;rw[Int.tmod_eq_emod_of_nonneg h0]
theorem Ybe {a n:Int} (h0:0<=a) (h1:a < 9223372036854775808) (hn:1<=n):Zss a n=a / n:=by
 unfold Zss;rw[Int.tdiv_eq_ediv_of_nonneg h0];have h2:0<=a / n:=Int.ediv_nonneg h0 (by omega);have h3:a / n<=a:=Int.ediv_le_self n h0;exact Zzo (by omega) (by omega)
theorem Z5y (xs:List α) (hl:xs.length < 4611686018427387904) (f:α->Option Bool) (q:α->Bool) (hf:∀a∈xs,f a=some (!q a)) (L:Nat->Int->Option Int)
  (hL:∀m i,L (m+1) i=if decide (i < (xs.length:Int))=true then (idx xs i).bind λa=>(f a).bind λr=>if r=true then some i else L m (Zs i 1) else some (-1)):
  (xs.all q=true/\L FU 0=some (-1))\/∃k:Nat,∃h:k < xs.length,L FU 0=some (k:Int)/\q xs[k]=false/\(xs.take k).all q=true:=by
 have key:∀(m k:Nat),k<=xs.length->xs.length - k < m->(xs.take k).all q=true->(xs.all q=true/\L m k=some (-1))\/∃j:Nat,∃h:j < xs.length,L m k=some (j:Int)/\q xs[j]=false/\(xs.take j).all q=true:=by
  intro m
  induction m with
  | zero=>intro k _ h;omega
  | succ m ih=>
   intro k hk hm ht;rw[hL];by_cases hc:k < xs.length
   .have h1:decide ((k:Int) < (xs.length:Int))=true:=by simpa using hc
    rw[ZZj h1,Xs hc,ZZa,hf _ (Vaq hc),ZZa];by_cases hq:q xs[k]=true
    .have h2:¬(!q xs[k])=true:=by simp[hq]
     rw[ZZi h2,Wj (by omega)];refine ih (k+1) (by omega) (by omega) ?_;rw[List.take_succ_eq_append_getElem hc,List.all_append,ht];simp[hq]
    .have h2:(!q xs[k])=true:=by simpa using hq
     rw[ZZj h2];exact .inr ⟨k,hc,rfl,by simpa using hq,ht⟩
   .have h1:¬decide ((k:Int) < (xs.length:Int))=true:=by simpa using hc
    rw[ZZi h1];rw[Vbi (by omega)] at ht;exact .inl ⟨ht,rfl⟩
 exact key FU 0 (Vbk _) (by have:=Qx;omega) (by simp)
theorem Z1j (xs:List α) (hl:xs.length < 4611686018427387904) (f:α->Option Bool) (q:α->Bool) (hf:∀a∈xs,f a=some (!q a)) (L:Nat->Int->Option Int)
  (hL:∀m i,L (m+1) i=if decide (i < (xs.length:Int))=true then (idx xs i).bind λa=>(f a).bind λr=>if r=true then some i else L m (Zs i 1) else some (-1)):
  ((L FU 0).bind λr=>some (decide (r≥0)))=some (!xs.all q):=by
 rcases Z5y xs hl f q hf L hL with⟨h1,h2⟩|⟨k,hk,h1,h2,h3⟩
 .rw[h2,h1];rfl
 .rw[h1,ZZa]
  have:xs.all q=false:=by
   rw[List.all_eq_false];exact⟨xs[k],Vaq hk,by simp[h2]⟩
  rw[this];have h4:((k:Nat):Int)≥0:=by omega
  simp[h4]
theorem Yvl (xs:List α) (z:α) (hl:xs.length < 4611686018427387904) (f:α->Option Bool) (q:α->Bool) (hf:∀a∈xs,f a=some (!q a)) (I:Nat->Int->Option Int)
  (hI:∀m i,I (m+1) i=if decide (i < (xs.length:Int))=true then (idx xs i).bind λa=>(f a).bind λr=>if r=true then some i else I m (Zs i 1) else some (-1))
  (L:Nat->List α->Int->Int->Option (List α))
  (hL:∀m v i j,L (m+1) v i j=if decide (j < (v.length:Int))=true then (idx v j).bind λa=>(f a).bind λr=>if (!r)=true then (idx v i).bind λ_=>(Qc v i a).bind λy=>L m y (Zs i 1) (Zs j 1) else L m v i (Zs j 1)
   else (Zad v i (v.length:Int)).bind λ_=>(Z29 z v i (v.length:Int)).bind λy=>(Zad y 0 i).bind λs=>some s):
  ((I FU 0).bind λr=>if decide (r=(-1))=true then some xs else L FU xs r (Zs r 1))=some (xs.filter q):=by
 have key:∀(m i j:Nat) (v:List α),i<=j->j<=xs.length->xs.length - j < m->v.length=xs.length->v.take i=(xs.take j).filter q->v.drop j=xs.drop j->L m v i j=some (xs.filter q):=by
  intro m
  induction m with
  | zero=>intro i j v _ _ h;omega
  | succ m ih=>
   intro i j v hij hj hm hv ht hd;rw[hL];by_cases hc:j < v.length
   .have hc2:j < xs.length:=by omega
    have h1:decide ((j:Int) < (v.length:Int))=true:=by simpa using hc
    have e:v[j]=xs[j]:=by
     have:=congrArg List.head? hd;simpa [List.head?_drop,hc,hc2] using this
    have hd2:v.drop (j+1)=xs.drop (j+1):=by
     have:=congrArg (List.drop 1) hd;simpa [List.drop_drop] using this
    rw[ZZj h1,Xs hc,ZZa,e,hf _ (Vaq hc2),ZZa,Vek];by_cases hq:q xs[j]=true
    .rw[ZZj hq,Xs (by omega:i < v.length),ZZa]
     simp only[Qc,ZZa];rw[Wj (by omega),Wj (by omega)];refine ih (i+1) (j+1) _ (by omega) (by omega) (by omega) (by simp[hv]) ?_ ?_
     .rw[Vcd,List.take_succ_eq_append_getElem (by simpa using (by omega:i < v.length)),List.take_set_of_le (Vav _),ht,List.take_succ_eq_append_getElem hc2,Vc3]
      simp[hq]
     .rw[Vcd,List.drop_set_of_lt (by omega),hd2]
    .rw[ZZi hq,Wj (by omega)]
     refine ih i (j+1) v (by omega) (by omega) (by omega) hv ?_ hd2;rw[ht,List.take_succ_eq_append_getElem hc2,Vc3];simp[hq]
   .have h1:¬decide ((j:Int) < (v.length:Int))=true:=by simpa using hc
    have hjx:j=xs.length:=by omega
    rw[ZZi h1];have h2:Zad v (i:Int) (v.length:Int)=some ((v.drop i).take (v.length - i)):=by
     unfold Zad;rw[ZZj ⟨by omega,by omega,by omega⟩];simp
    have h3:Z29 z v (i:Int) (v.length:Int)=some (v.take i++List.replicate (v.length - i) z++v.drop v.length):=by
     unfold Z29;have:(i:Int).toNat+((v.length:Int).toNat - (i:Int).toNat)=v.length:=by omega
     rw[ZZj (by omega),this];simp
    rw[h2,ZZa,h3,ZZa];have h4:Zad (v.take i++List.replicate (v.length - i) z++v.drop v.length) 0 (i:Int)=some (v.take i):=by
     unfold Zad;rw[ZZj ⟨by omega,by omega,by simp;omega⟩];have:(v.take i).length=i:=by rw[Vbu];omega
     simp[List.append_assoc,List.take_append,this]
    rw[h4,ZZa,ht,hjx,Vbx]
 rcases Z5y xs hl f q hf I hI with⟨h1,h2⟩|⟨k,hk,h1,h2,h3⟩
 .rw[h2,ZZa,ZZj (by decide)]
  congr 1
  exact (List.filter_eq_self.2 (λa ha=>ZZk.1 h1 a ha)).symm
 .rw[h1,ZZa,ZZi (by simp),Wj (by omega)]
  refine key FU k (k+1) xs (by omega) (by omega) (by have:=Qx;omega) rfl ?_ rfl;rw[List.take_succ_eq_append_getElem hk,Vc3,List.filter_eq_self.2 (λa ha=>ZZk.1 h3 a ha)];simp[h2]
theorem Ylg (sz:Nat) (hz:sz<=1024) (xs:List α) (hl:xs.length < 1048577) (f:α->Option α) (hf:∀a∈xs,f a=some a) {ρ:Type} (fin:List α->Option ρ) (L:Nat->List α->Int->Option ρ)
  (hL:∀m v i,L (m+1) v i=if decide (i < (xs.length:Int))=true then (idx xs i).bind λa=>(f a).bind λb=>(We sz v [b]).bind λz=>L m z (Zs i 1) else fin v):L FU [] 0=fin xs:=by
 have key:∀(m k:Nat),k<=xs.length->xs.length - k < m->L m (xs.take k) k=fin xs:=by
  intro m
  induction m with
  | zero=>intro k _ h;omega
  | succ m ih=>
   intro k hk hm;rw[hL];by_cases hc:k < xs.length
   .have h1:decide ((k:Int) < (xs.length:Int))=true:=by simpa using hc
    have Yo:(xs.take k).length=k:=by rw[Vbu];omega
    have hb:(k+1)*sz<=140737488355328:=Vb5 (Nat.mul_le_mul (by omega:k+1<=1048577) hz) (by decide);rw[ZZj h1,Xs hc,ZZa,hf _ (Vaq hc),ZZa,Kh (by simpa [Yo] using hb) (by simp[Yo];omega),ZZa,Wj (by omega),<-List.take_succ_eq_append_getElem hc];exact ih (k+1) (by omega) (by omega)
   .have h1:¬decide ((k:Int) < (xs.length:Int))=true:=by simpa using hc
    rw[ZZi h1,Vbi (by omega)]
 have:=key FU 0 (Vbk _) (by have:=Qx;omega);simpa using this
end
theorem Y6v (bs:ByteArray):∀(n i:Nat) (r:List UInt8),bs.size - i=n->ByteArray.toList.loop bs i r=r.reverse++bs.data.toList.drop i:=by
 intro n
 induction n with
 | zero=>
  intro i r h;unfold ByteArray.toList.loop;have hs:bs.data.toList.length=bs.size:=rfl;rw[ZZi (by omega),Va9 (by omega)];simp
 | succ n ih=>
  intro i r h;unfold ByteArray.toList.loop;have hs:bs.data.toList.length=bs.size:=rfl;have hi:i < bs.data.toList.length:=by omega
  rw[ZZj (by omega),ih (i+1) _ (by omega),Va2 hi];have:bs.get! i=bs.data.toList[i]:=by
   have hi2:i < bs.data.size:=hi;simp[ByteArray.get!,getElem!_def,Vae hi2]
  rw[this];simp
theorem Ylr (bs:ByteArray):bs.toList=bs.data.toList:=by
 unfold ByteArray.toList;rw[Y6v bs _ 0 [] rfl];simp
theorem Yea {β:Type} {c:Prop} [Decidable c] {x:β}:(if c then x else x)=x:=by split<;>rfl
theorem Zfx {σ ρ:Type} {n:Nat} (hn:n < 4611686018427387904) (st:Nat->σ) {B:(σ->Int->ρ)->σ->Int->ρ} {L:Nat->σ->Int->ρ} (hL:∀m s i,L (m+1) s i=B (L m) s i)
  (hs:∀k,k < n->∀κ,B κ (st k) (k:Int)=κ (st (k+1)) (Zs (k:Int) 1)) {r:ρ} (hf:∀κ,B κ (st n) (n:Int)=r):L FU (st 0) 0=r:=by
 have key:∀(m k:Nat),k<=n->n - k < m->L m (st k) (k:Int)=r:=by
  intro m
  induction m with
  | zero=>intro k _ h;omega
  | succ m ih=>
   intro k hk hm;rw[hL];by_cases hc:k < n
   .rw[hs k hc,Wj (by omega)]
    exact ih (k+1) (by omega) (by omega)
   .have:k=n:=by omega
    subst this;exact hf _
 have:=key FU 0 (Vbk _) (by have:=Qx;omega);simpa using this
theorem Yq1 {ρ:Type} {n:Nat} (hn:n < 4611686018427387904) {B:(Int->ρ)->Int->ρ} {L:Nat->Int->ρ} (hL:∀m i,L (m+1) i=B (L m) i)
  (hs:∀k,k < n->∀κ,B κ (k:Int)=κ (Zs (k:Int) 1)) {r:ρ} (hf:∀κ,B κ (n:Int)=r):L FU 0=r:=
 Zfx (σ:=Unit) hn (λ_=>()) (B:=λκ _ i=>B (κ ()) i) (L:=λm _ i=>L m i) (λm _ i=>hL m i) (λk hk κ=>hs k hk _) λκ=>hf _
theorem Z2a {k:Int} (h0:0<=k) (h1:k < 1152921504606846976):w1 k=k+1:=by
 simp[w1,IntKind.wrap,IntKind.bits,IntKind.signed];omega
theorem Zy5 {k:Int}:Zs k 1=w1 k:=rfl
theorem Z86 {k:Int}:decide (Za4 k 3=0)=b3 k:=rfl
def Inc {α:Type} (f:α->Int->α×Int) (w:α->Nat):Prop:=∀x k,0<=k->k+(w x:Int)<=1152921504606846976->(f x k).2=k+(w x:Int)
def Ky {α:Type} (w:α->Nat) (l:List α):Nat:=(l.map w).sum
section
variable {α:Type} {f:α->Int->α×Int} {w:α->Nat}
theorem Znk {x:α} {l:List α}:Ky w (x::l)=w x+Ky w l:=by simp[Ky]
theorem Yv8 (hf:Inc f w):∀{j:Nat} {l:List α} {k:Int},0<=k->k+(Ky w l:Int)<=1152921504606846976->(mkN f j l k).2=k+(Ky w (l.take j):Int):=by
 intro j
 induction j with
 | zero=>intro l k _ _;simp[mkN,Ky]
 | succ j ih=>
  intro l k h0 h1;cases l with
  | nil=>simp[mkN,Ky]
  | cons x l=>
   rw[Znk] at h1;have e:=hf x k h0 (by omega);simp only[mkN,Vdp,Znk];rw[ih (by rw[e];omega) (by rw[e];omega),e];omega
theorem Zrh (hf:Inc f w) {l:List α} {k:Int} (h0:0<=k) (h1:k+(Ky w l:Int)<=1152921504606846976):(mkL f l k).2=k+(Ky w l:Int):=by
 rw[<-Ybk,Yv8 hf h0 h1,Vbx]
theorem Y6s {l:List α} {k:Int}:(mkL f l k).1.length=l.length:=by rw[<-Ybk,Yvu]
theorem Y5z:∀{j:Nat} {l:List α} {k:Int} {x:α},l[j]?=some x->(mkL f l k).1[j]?=some (f x (mkN f j l k).2).1/\(mkN f (j+1) l k).2=(f x (mkN f j l k).2).2:=by
 intro j
 induction j with
 | zero=>
  intro l k x h;cases l with
  | nil=>simp at h
  | cons y l=>
   have e:y=x:=by simpa using h
   subst e;exact⟨rfl,rfl⟩
 | succ j ih=>
  intro l k x h;cases l with
  | nil=>simp at h
  | cons y l=>
   obtain⟨h1,h2⟩:=ih (l:=l) (k:=(f y k).2) (x:=x) (by simpa using h);exact⟨by simpa [mkL,mkN] using h1,by simpa [mkN] using h2⟩
theorem Y7h {l:List α} {j:Nat} {x:α} (h:l[j]?=some x):Ky w (l.take j)+w x<=Ky w l:=by
 induction l generalizing j with
 | nil=>simp at h
 | cons y l ih=>
  cases j with
  | zero=>
   have e:y=x:=by simpa using h
   subst e;rw[Znk];simp[Ky]
  | succ j=>
   have:=ih (j:=j) (by simpa using h);rw[Vdp,Znk,Znk];omega
theorem Zrs (hf:Inc f w) (l:List α) (k:Int) (hl:l.length < 1048577) (h0:0<=k) (h1:k+(Ky w l:Int)<=1152921504606846976) {B:(Int->Int->Option Int)->Int->Int->Option Int} {L:Nat->Int->Int->Option Int} (hL:∀m s i,L (m+1) s i=B (L m) s i)
  (step:∀(κ:Int->Int->Option Int) (j:Nat) (x:α) (c:Int),(hj:j < (mkL f l k).1.length)->x∈l->0<=c->c+(w x:Int)<=1152921504606846976->(mkL f l k).1[j]=(f x c).1->B κ c (j:Int)=κ (f x c).2 (Zs (j:Int) 1))
  (fin:∀(κ:Int->Int->Option Int) (c:Int),B κ c ((mkL f l k).1.length:Int)=some c):L FU k 0=some (mkL f l k).2:=by
 have hn:(mkL f l k).1.length=l.length:=Y6s;refine Zfx (n:=(mkL f l k).1.length) (by omega) (λj=>(mkN f j l k).2) hL (λj hj κ=>?_) (λκ=>?_)
 .have hx:l[j]?=some (l[j]'(by omega)):=Vab (by omega)
  obtain⟨e1,e2⟩:=Y5z (f:=f) (k:=k) hx;have e3:(mkL f l k).1[j]=(f (l[j]'(by omega)) (mkN f j l k).2).1:=by
   rw[Vab hj] at e1;injection e1
  have e4:=Yv8 hf (j:=j) h0 h1;have e5:=Y7h (w:=w) hx;rw[e2];exact step κ j _ _ hj (Vaq _) (by rw[e4];omega) (by rw[e4];omega) e3
 .rw[hn,Ybk,<-hn];exact fin κ _
end
theorem Zm0 {α:Type} (n:Nat) (l:List α):Ky (λ_=>n) l=n*l.length:=by
 induction l with
 | nil=>rfl
 | cons x l ih=>rw[Znk,ih,Vag,Nat.mul_succ];omega
theorem Ywf:Inc Yd (λ_=>1):=λx k h0 h1=>by
 have h2:k+1<=1152921504606846976:=h1;simp only[Yd];simp (discharger:=omega) only[Z2a];rfl
theorem Yof:Inc Zbg (λ_=>7):=λx k h0 h1=>by
 have h2:k+7<=1152921504606846976:=h1;show _=k+7;simp only[Zbg];simp (discharger:=omega) only[Z2a];omega
theorem Yh0:Inc Xa (λ_=>2):=λx k h0 h1=>by
 have h2:k+2<=1152921504606846976:=h1;show _=k+2;simp only[Xa];simp (discharger:=omega) only[Z2a];omega
theorem Yk6:Inc Js (λ_=>4):=λx k h0 h1=>by
 have h2:k+4<=1152921504606846976:=h1;show _=k+4;simp only[Js];simp (discharger:=omega) only[Z2a];omega
def Z3o (r:Zg):Nat:=5+r.data_.length
theorem Zg2 {l:List Int} {k:Int} (h0:0<=k) (h1:k+(l.length:Int)<=1152921504606846976):(mkL Yd l k).2=k+(l.length:Int):=by
 have e:=Zm0 (α:=Int) 1 l;have:=Zrh Ywf (l:=l) h0 (by rw[e];omega);rw[this,e];omega
theorem Yke:Inc Ks Z3o:=λx k h0 h1=>by
 have h2:k+5+(x.data_.length:Int)<=1152921504606846976:=by unfold Z3o at h1;omega
 simp only[Ks];simp (discharger:=omega) only[Z2a];rw[Zg2 (by omega) (by omega)];unfold Z3o;omega
def Zh6 (m:Zb):Nat:=Ky Z3o m.queue+5
theorem Ywk:Inc Wl Zh6:=λx k h0 h1=>by
 have h2:k+(Ky Z3o x.queue:Int)+5<=1152921504606846976:=by unfold Zh6 at h1;omega
 have e:=Zrh Yke (l:=x.queue) h0 (by omega);simp only[Wl,e];simp (discharger:=omega) only[Z2a];unfold Zh6;omega
theorem Zry (l:List Int) (k:Int) (hl:l.length < 1048577) (h0:0<=k) (h1:k+(l.length:Int)<=1152921504606846976):Zc5 (mkL Yd l k).1 k=some (mkL Yd l k).2:=by
 unfold Zc5;refine Zrs Ywf l k hl h0 (by rw[Zm0];omega) (B:=λκ st j=>Zh4 (mkL Yd l k).1 k κ st j) (λm s i=>rfl) (λκ j x c hj hx hc hm e=>?_) (λκ c=>?_)
 .unfold Zh4
  rw[ZZj (by simpa using hj),Xs hj,ZZa,e];simp[Yd,Zy5]
 .unfold Zh4
  rw[ZZi (by simp)]
theorem Ytg (l:List Zm) (k:Int) (hl:l.length < 1048577) (h0:0<=k) (h1:k+7*(l.length:Int)<=1152921504606846976):Zqt (mkL Zbg l k).1 k=some (mkL Zbg l k).2:=by
 unfold Zqt;refine Zrs Yof l k hl h0 (by rw[Zm0];omega) (B:=λκ st j=>Zgu (mkL Zbg l k).1 k κ st j) (λm s i=>rfl) (λκ j x c hj hx hc hm e=>?_) (λκ c=>?_)
 .unfold Zgu
  rw[ZZj (by simpa using hj),Xs hj,ZZa,e]
  try simp only[Z86]
  simp[Zbg,Zy5]
 .unfold Zgu
  rw[ZZi (by simp)]
theorem Ynb (l:List Zc) (k:Int) (hl:l.length < 1048577) (h0:0<=k) (h1:k+2*(l.length:Int)<=1152921504606846976):Zmg (mkL Xa l k).1 k=some (mkL Xa l k).2:=by
 unfold Zmg;refine Zrs Yh0 l k hl h0 (by rw[Zm0];omega) (B:=λκ st j=>Zd3 (mkL Xa l k).1 k κ st j) (λm s i=>rfl) (λκ j x c hj hx hc hm e=>?_) (λκ c=>?_)
 .unfold Zd3
  rw[ZZj (by simpa using hj),Xs hj,ZZa,e]
  try simp only[Z86]
  simp[Xa,Zy5]
 .unfold Zd3
  rw[ZZi (by simp)]
theorem Yom (l:List Zd) (k:Int) (hl:l.length < 1048577) (h0:0<=k) (h1:k+4*(l.length:Int)<=1152921504606846976):Zo5 (mkL Js l k).1 k=some (mkL Js l k).2:=by
 unfold Zo5;refine Zrs Yk6 l k hl h0 (by rw[Zm0];omega) (B:=λκ st j=>Zfl (mkL Js l k).1 k κ st j) (λm s i=>rfl) (λκ j x c hj hx hc hm e=>?_) (λκ c=>?_)
 .unfold Zfl
  rw[ZZj (by simpa using hj),Xs hj,ZZa,e]
  try simp only[Z86]
  simp[Js,Zy5]
 .unfold Zfl
  rw[ZZi (by simp)]
theorem Yxl (l:List Zg) (k:Int) (hl:l.length < 1048577) (hd:∀r∈l,r.data_.length < 1048577) (h0:0<=k) (h1:k+(Ky Z3o l:Int)<=1152921504606846976):Ztb (mkL Ks l k).1 k=some (mkL Ks l k).2:=by
 unfold Ztb;refine Zrs Yke l k hl h0 h1 (B:=λκ st j=>Zhr (mkL Ks l k).1 k κ st j) (λm s i=>rfl) (λκ j x c hj hx hc hm e=>?_) (λκ c=>?_)
 .have h2:c+5+(x.data_.length:Int)<=1152921504606846976:=by unfold Z3o at hm;omega
  have e5:w1 (w1 (w1 (w1 (w1 c))))=c+5:=by
   simp (discharger:=omega) only[Z2a];omega
  have e6:=Zg2 (l:=x.data_) (k:=c+5) (by omega) (by omega);have e7:=Zry x.data_ (c+5) (hd x hx) (by omega) (by omega);unfold Zhr;rw[ZZj (by simpa using hj),Xs hj,ZZa,e];have e8:Zs (Zs (Zs (Zs (Zs c 1) 1) 1) 1) 1=c+5:=e5
  try simp only[Z86]
  simp only[Ks,e8,e5,e7,ZZa,e6];rw[ZZi (show ¬decide (c+5+(x.data_.length:Int) < 0)=true by simp;omega)];simp[Zy5]
 .unfold Zhr
  rw[ZZi (by simp)]
theorem Yyn (l:List Zb) (k:Int) (hl:l.length < 1048577) (hd:∀m∈l,m.queue.length < 1048577/\∀r∈m.queue,r.data_.length < 1048577) (h0:0<=k) (h1:k+(Ky Zh6 l:Int)<=1152921504606846976):Ztf (mkL Wl l k).1 k=some (mkL Wl l k).2:=by
 unfold Ztf;refine Zrs Ywk l k hl h0 h1 (B:=λκ st j=>Zhw (mkL Wl l k).1 k κ st j) (λm s i=>rfl) (λκ j x c hj hx hc hm e=>?_) (λκ c=>?_)
 .have h2:c+(Ky Z3o x.queue:Int)+5<=1152921504606846976:=by unfold Zh6 at hm;omega
  have e6:=Zrh Yke (l:=x.queue) (k:=c) hc (by omega);have e7:=Yxl x.queue c (hd x hx).1 (hd x hx).2 hc (by omega);unfold Zhw;rw[ZZj (by simpa using hj),Xs hj,ZZa,e]
  try simp only[Z86]
  simp only[Wl,e7,ZZa];rw[ZZi (show ¬decide ((mkL Ks x.queue c).2 < 0)=true by rw[e6];simp;omega)];simp[Zy5]
 .unfold Zhw
  rw[ZZi (by simp)]
end Go.Proofs.YtagdmghmblplbaaGreat.Ev
namespace Go.Proofs.YtagdmghmblplbaaGreat.Ev
open Go Go.Proofs Go.RowKit KM
theorem Zvd {a:Int} (h:0<=a):decide (a < 0)=false:=by simp;omega
theorem dlt_t {a:Int} (h:a < 0):decide (a < 0)=true:=by simpa using h
theorem Yhk {a:Int}:decide (a≠a)=false:=by simp
theorem Ynr {a:Bool} (h:a=false):(a == false)=true:=by rw[h];rfl
section
variable [Anchor]
theorem Z7w (x0:Za) (x1:Zf) {l0:Int}  (hc0:Zwu x0 1048576=some l0) (hn1:l0 < 0):Zu Tryz.prog Mo (6,[.agg (Za.enc x0),.agg (Zf.enc x1)],.lit (.bool true),[.undef,.undef]):=by
 refine Ypz fOk (fn:=Tryz.f6) (c:=Xl Tryz.f6) (rt:=4) (b:=true) (xs:=[.agg (Za.enc x0),.agg (Zf.enc x1)]) (by kernel_rfl) (by kernel_rfl) (by kernel_rfl) (by kernel_rfl) (by rfl) (of_decide_eq_true (by kernel_rfl)) ?_;exact Zbm (M:=Mo) fOk 300 [.res (Zei x0 1048576 l0).2.2.1 (Zei x0 1048576 l0).2.2.2,.t true]
  (p:=(Zu Tryz.prog Mo (Zei x0 1048576 l0))/\((decide (l0 < 0))=true)/\(True))
  ⟨Z9m hc0,(dlt_t hn1),trivial⟩ (ts:=[4]) (ks:=[]) (e:=.ret) (vs:=[.lit (.bool true)]) (bs:=[]) (by kernel_rfl) (λs h1 _=>⟨rfl,by simpa using h1⟩)
theorem Z7u (x0:Za) (x1:Zf) {l0 l1:Int}  (hc0:Zwu x0 1048576=some l0) (hz1:0<=l0) (hc2:Zs7 x1 l0=some l1) (hn3:l1 < 0):Zu Tryz.prog Mo (6,[.agg (Za.enc x0),.agg (Zf.enc x1)],.lit (.bool true),[.undef,.undef]):=by
 refine Ypz fOk (fn:=Tryz.f6) (c:=Xl Tryz.f6) (rt:=4) (b:=true) (xs:=[.agg (Za.enc x0),.agg (Zf.enc x1)]) (by kernel_rfl) (by kernel_rfl) (by kernel_rfl) (by kernel_rfl) (by rfl) (of_decide_eq_true (by kernel_rfl)) ?_;exact Zbm (M:=Mo) fOk 300 [.res (Zei x0 1048576 l0).2.2.1 (Zei x0 1048576 l0).2.2.2,.t false,.res (Zes x1 l0 l1).2.2.1 (Zes x1 l0 l1).2.2.2,.t true]
  (p:=(Zu Tryz.prog Mo (Zei x0 1048576 l0))/\((decide (l0 < 0))=false)/\(Zu Tryz.prog Mo (Zes x1 l0 l1))/\((decide (l1 < 0))=true)/\(True))
  ⟨Z9m hc0,(Zvd hz1),Z94 hc2,(dlt_t hn3),trivial⟩ (ts:=[4]) (ks:=[]) (e:=.ret) (vs:=[.lit (.bool true)]) (bs:=[]) (by kernel_rfl) (λs h1 _=>⟨rfl,by simpa using h1⟩)
theorem Ybt (x0:Za) (x1:Zf) {l0 l1:Int} (v0:Za) (v1:Int) (hc0:Zwu x0 1048576=some l0) (hz1:0<=l0) (hc2:Zs7 x1 l0=some l1) (hz3:0<=l1) (hc4:Z2n x0=some x0) (hc5:Ztq x1=some x1) (hc6:Zyg x0 x1=some (v0,v1)) (hc7:Zx4 x0 x1=some (v0,v1)) (hc8:Zrp v0 v0=some true) (hc9:Zrp x0 x0=some true) (hc10:Zs1 x1 x1=some true) (hm11:x0.mok) (hm12:x1.mok) (Ysn:0<=(Kz x1 ((Xb x0 1).2)).2) (hm14:v0.mok) (hc15:Zp6 ((Xb v0 1).1) 1=some ((Xb v0 1).2)) (hz16:0<=(Xb v0 1).2):Zu Tryz.prog Mo (6,[.agg (Za.enc x0),.agg (Zf.enc x1)],.lit (.bool true),[.undef,.undef]):=by
 refine Ypz fOk (fn:=Tryz.f6) (c:=Xl Tryz.f6) (rt:=4) (b:=true) (xs:=[.agg (Za.enc x0),.agg (Zf.enc x1)]) (by kernel_rfl) (by kernel_rfl) (by kernel_rfl) (by kernel_rfl) (by rfl) (of_decide_eq_true (by kernel_rfl)) ?_;exact Zbm (M:=Mo) fOk 300 [.res (Zei x0 1048576 l0).2.2.1 (Zei x0 1048576 l0).2.2.2,.t false,.res (Zes x1 l0 l1).2.2.1 (Zes x1 l0 l1).2.2.2,.t false,.res (Zay x0 x0).2.2.1 (Zay x0 x0).2.2.2,.res (Q3 x1 x1).2.2.1 (Q3 x1 x1).2.2.2,.res (Zka x0 x1 ((v0,v1))).2.2.1 (Zka x0 x1 ((v0,v1))).2.2.2,.res (Zay x0 x0).2.2.1 (Zay x0 x0).2.2.2,.res (Q3 x1 x1).2.2.1 (Q3 x1 x1).2.2.2,.res (Zd9 x0 x1 ((v0,v1))).2.2.1 (Zd9 x0 x1 ((v0,v1))).2.2.2,.res (Zat v0 v0 true).2.2.1 (Zat v0 v0 true).2.2.2,.k,.k,.k,.k,.t false,.res (Zay x0 x0).2.2.1 (Zay x0 x0).2.2.2,.res (Zat x0 x0 true).2.2.1 (Zat x0 x0 true).2.2.2,.k,.res (Q3 x1 x1).2.2.1 (Q3 x1 x1).2.2.2,.res (Ztp x1 x1 true).2.2.1 (Ztp x1 x1 true).2.2.2,.k,.res (.lit (.int .i64 (Xb x0 1).2)) (Za.enc (Xb x0 1).1),.res (.lit (.int .i64 (Kz x1 ((Xb x0 1).2)).2)) (Zf.enc (Kz x1 ((Xb x0 1).2)).1),.t true,.t true,.t true,.res (Zat v0 v0 true).2.2.1 (Zat v0 v0 true).2.2.2,.t true,.t false,.k,.k,.k,.k,.t false,.res (.lit (.int .i64 (Xb v0 1).2)) (Za.enc (Xb v0 1).1),.res (Zhf ((Xb v0 1).1) 1 ((Xb v0 1).2)).2.2.1 (Zhf ((Xb v0 1).1) 1 ((Xb v0 1).2)).2.2.2,.t false,.t false,.res (Zay x0 x0).2.2.1 (Zay x0 x0).2.2.2,.res (Q3 x1 x1).2.2.1 (Q3 x1 x1).2.2.2,.res (Zd9 x0 x1 ((v0,v1))).2.2.1 (Zd9 x0 x1 ((v0,v1))).2.2.2,.res (Zat v0 v0 true).2.2.1 (Zat v0 v0 true).2.2.2,.k,.k,.k,.k,.t false,.res (Zhf ((Xb v0 1).1) 1 ((Xb v0 1).2)).2.2.1 (Zhf ((Xb v0 1).1) 1 ((Xb v0 1).2)).2.2.2,.t false,.t false]
  (p:=(Zu Tryz.prog Mo (Zei x0 1048576 l0))/\((decide (l0 < 0))=false)/\(Zu Tryz.prog Mo (Zes x1 l0 l1))/\((decide (l1 < 0))=false)/\(Zu Tryz.prog Mo (Zay x0 x0))/\(Zu Tryz.prog Mo (Q3 x1 x1))/\(Zu Tryz.prog Mo (Zka x0 x1 ((v0,v1))))/\(Zu Tryz.prog Mo (Zay x0 x0))/\(Zu Tryz.prog Mo (Q3 x1 x1))/\(Zu Tryz.prog Mo (Zd9 x0 x1 ((v0,v1))))/\(Zu Tryz.prog Mo (Zat v0 v0 true))/\((decide (v1≠v1))=false)/\(Zu Tryz.prog Mo (Zay x0 x0))/\(Zu Tryz.prog Mo (Zat x0 x0 true))/\(Zu Tryz.prog Mo (Q3 x1 x1))/\(Zu Tryz.prog Mo (Ztp x1 x1 true))/\(Q1 Tryz.prog 28 true (Za.enc x0) (Za.enc (Xb x0 1).1) 1 (Xb x0 1).2)/\(Q1 Tryz.prog 27 true (Zf.enc x1) (Zf.enc (Kz x1 ((Xb x0 1).2)).1) ((Xb x0 1).2) (Kz x1 ((Xb x0 1).2)).2)/\(((decide ((Kz x1 ((Xb x0 1).2)).2 < 0)) == false)=true)/\(((decide ((Kz x1 ((Xb x0 1).2)).2 < 0)) == false)=true)/\(((decide ((Kz x1 ((Xb x0 1).2)).2 < 0)) == false)=true)/\(Zu Tryz.prog Mo (Zat v0 v0 true))/\(((decide ((Kz x1 ((Xb x0 1).2)).2 < 0)) == false)=true)/\((decide ((Kz x1 ((Xb x0 1).2)).2 < 0))=false)/\((decide (v1≠v1))=false)/\(Q1 Tryz.prog 28 true (Za.enc v0) (Za.enc (Xb v0 1).1) 1 (Xb v0 1).2)/\(Zu Tryz.prog Mo (Zhf ((Xb v0 1).1) 1 ((Xb v0 1).2)))/\((decide ((Xb v0 1).2 < 0))=false)/\((decide ((Xb v0 1).2≠(Xb v0 1).2))=false)/\(Zu Tryz.prog Mo (Zay x0 x0))/\(Zu Tryz.prog Mo (Q3 x1 x1))/\(Zu Tryz.prog Mo (Zd9 x0 x1 ((v0,v1))))/\(Zu Tryz.prog Mo (Zat v0 v0 true))/\((decide (v1≠v1))=false)/\(Zu Tryz.prog Mo (Zhf ((Xb v0 1).1) 1 ((Xb v0 1).2)))/\((decide ((Xb v0 1).2 < 0))=false)/\((decide ((Xb v0 1).2≠(Xb v0 1).2))=false)/\(True))
  ⟨Z9m hc0,(Zvd hz1),Z94 hc2,(Zvd hz3),Z1z hc4,Ztk hc5,Yyl hc6,Z1z hc4,Ztk hc5,Yio hc7,Z2w hc8,(Yhk),Z1z hc4,Z2w hc9,Ztk hc5,Yos hc10,Yhd _ _ hm11,Ymu _ _ hm12,Ynr (Zvd Ysn),Ynr (Zvd Ysn),Ynr (Zvd Ysn),Z2w hc8,Ynr (Zvd Ysn),(Zvd Ysn),(Yhk),Yhd _ _ hm14,Ydh hc15,(Zvd hz16),(Yhk),Z1z hc4,Ztk hc5,Yio hc7,Z2w hc8,(Yhk),Ydh hc15,(Zvd hz16),(Yhk),trivial⟩ (ts:=[4]) (ks:=[]) (e:=.ret) (vs:=[.lit (.bool true)]) (bs:=[]) (by kernel_rfl) (λs h1 _=>⟨rfl,by simpa using h1⟩)
end
end Go.Proofs.YtagdmghmblplbaaGreat.Ev
