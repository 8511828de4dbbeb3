/- A part of the proof of FnExactBusStep: see the text YtagdmghmblplbaaGreatLawFnExactBusStep for what is proved and its conditions. Conditions here: those in each line. -/
import Derived.Test.YtagdmghmblplbaaGreatA8
import Derived.KernelRfl
set_option linter.unusedSimpArgs false
set_option linter.unusedVariables false
set_option linter.unusedSectionVars false
namespace Go.Proofs.YtagdmghmblplbaaGreat.Ev
open Go Go.Proofs Go.RowKit KM
abbrev w1 (k:Int):Int:=IntKind.i64.wrap (k+1)
abbrev b3 (k:Int):Bool:=decide (k.tmod 3=0)
def sqL:Code->Code
 | .seq a _=>a
 | c=>c
def sqR:Code->Code
 | .seq _ b=>b
 | c=>c
def blC:Code->Code
 | .block _ c=>c
 | c=>c
def lpC:Code->Code
 | .loop c=>c
 | c=>c
theorem Zy6 {i:Nat} (h:i < 1152921504606846976):w1 (i:Int)=((i+1:Nat):Int):=by
 unfold w1;simp[IntKind.wrap,IntKind.bits,IntKind.signed];omega
abbrev rs {α:Type} (e:α->List V) (l:List α) (i:Nat) (r:List V):List (List V):=(l.map e).set i r
abbrev nn (i:Nat):Prop:=Xx (toV (.lit (.int .i64 (i:Int))))=some i
theorem Zyx {α:Type} {e:α->List V} {l:List α} {i:Nat} {a:α} (h:l[i]?=some a):decide ((i:Int) < ((l.map e).length:Int))=true:=by
 have:=(ZZh.1 h).1;simp;omega
theorem Zdr {α:Type} {e:α->List V} {l:List α} {i:Nat} {a:α} (h:l[i]?=some a):(l.map e)[i]?=some (e a):=by
 rw[Va7,h];rfl
section
variable [Anchor]
theorem Yj {α:Type} {e:α->List V} {l:List α} {i:Nat} {a:α} (h:l[i]?=some a) (r:List V):((l.map e).set i r)[i]?=some r:=set_at (Zdr h)
def Yd (_:Int) (k:Int):Int×Int:=(k,w1 k)
def rInt1 (a:Int) (k:Int):List V:=(Ze a).set 0 (.lit (.int .i64 (k)))
theorem Zgr {rows:List (List V)} {i:Nat} {r r':List V}:(rows.set i r).set i r'=rows.set i r':=by rw[Vei]
theorem Yii {α:Type} {e:α->List V} {l:List α} {i:Nat} {a:α} {r r':List V} (h:e a=r'):((l.map e).set i r).set i r'=(l.set i a).map e:=by rw[Vei,map_set,h]
theorem Zd4 (l:List Int) (k:Int) (hl:l.length<=1152921504606846976):Qx Tryz.prog 57 false [.tr (l.map Ze)] [.tr ((mkL Yd l k).1.map Ze)] k (mkL Yd l k).2:=by
 refine Zqj (M:=Mo) fOk (fn:=Tryz.f57) (r0:=sqL (Xl Tryz.f57)) (r1:=sqL (sqL (sqR (Xl Tryz.f57)))) (body:=lpC (blC (sqR (sqL (sqR (Xl Tryz.f57)))))) (post:=sqR (sqR (Xl Tryz.f57))) (f:=Yd) (by kernel_rfl) (by kernel_rfl) (by kernel_rfl) l k (Qp:=λ_=>True) (λ_ _=>trivial) hl (λts=>by kernel_rfl) (λl k z e ob bk bx u=>by kernel_rfl) (λl k z e ob bk bx u=>by kernel_rfl) (λl k z e i ob bk bx u=>by kernel_rfl) λl i a k z e ob bk bx u h hi hq=>
  Zbb (M:=Mo) fOk 100 [.t true,.row i (Ze a),.put (Ze a) ((l.set i (Yd a k).1).map Ze)]
   (p:=(decide ((i:Int) < ((l.map Ze).length:Int))=true)/\(nn i)/\((l.map Ze)[i]?=some (Ze a))/\((l.map Ze)[i]?=some (Ze a))/\((l.map Ze).set i (rInt1 a k)=((l.set i (Yd a k).1).map Ze))/\True)
   ⟨Zyx h,Xw,Zdr h,Zdr h,map_set.symm,trivial⟩ (ts:=[0,1,5]) (ks:=[0]) (e:=.normal) (vs:=[.ob 0,.lit (.int .i64 (w1 k)),.lit (.int .i64 (w1 (i:Int)))]) (bs:=[some ⟨true,z,e,((l.set i (Yd a k).1).map Ze)⟩]) (by kernel_rfl) (λs h1 h2=>⟨rfl,.of (by rw[h1,Zy6 hi];rfl) h2⟩)
def Zbe (x:Zm) (k:Int):Zm×Int:=({x with cycle:=k,who:=w1 k,write:=b3 (w1 (w1 k)),addr:=w1 (w1 (w1 k)),size:=w1 (w1 (w1 (w1 k))),value:=w1 (w1 (w1 (w1 (w1 k)))),resp:=w1 (w1 (w1 (w1 (w1 (w1 k)))))},w1 (w1 (w1 (w1 (w1 (w1 (w1 k)))))))
def Zmn (a:Zm) (k:Int):List V:=(Zm.enc a).set 0 (.lit (.int .i64 (k)))
def Zmu (a:Zm) (k:Int):List V:=(Zmn a k).set 1 (.lit (.int .i64 (w1 k)))
def Zma (a:Zm) (k:Int):List V:=(Zmu a k).set 2 (.lit (.bool (b3 (w1 (w1 k)))))
def Znd (a:Zm) (k:Int):List V:=(Zma a k).set 3 (.lit (.int .i64 (w1 (w1 (w1 k)))))
def Zmy (a:Zm) (k:Int):List V:=(Znd a k).set 4 (.lit (.int .i64 (w1 (w1 (w1 (w1 k))))))
def Zl6 (a:Zm) (k:Int):List V:=(Zmy a k).set 5 (.lit (.int .i64 (w1 (w1 (w1 (w1 (w1 k)))))))
def rDone7 (a:Zm) (k:Int):List V:=(Zl6 a k).set 6 (.lit (.int .i64 (w1 (w1 (w1 (w1 (w1 (w1 k))))))))
theorem Ym6 (l:List Zm) (k:Int) (hl:l.length<=1152921504606846976):Qx Tryz.prog 19 false [.tr (l.map Zm.enc)] [.tr ((mkL Zbe l k).1.map Zm.enc)] k (mkL Zbe l k).2:=by
 refine Zqj (M:=Mo) fOk (fn:=Tryz.f19) (r0:=sqL (Xl Tryz.f19)) (r1:=sqL (sqL (sqR (Xl Tryz.f19)))) (body:=lpC (blC (sqR (sqL (sqR (Xl Tryz.f19)))))) (post:=sqR (sqR (Xl Tryz.f19))) (f:=Zbe) (by kernel_rfl) (by kernel_rfl) (by kernel_rfl) l k (Qp:=λ_=>True) (λ_ _=>trivial) hl (λts=>by kernel_rfl) (λl k z e ob bk bx u=>by kernel_rfl) (λl k z e ob bk bx u=>by kernel_rfl) (λl k z e i ob bk bx u=>by kernel_rfl) λl i a k z e ob bk bx u h hi hq=>
  Zbb (M:=Mo) fOk 100 [.t true,.row i (Zm.enc a),.put (Zm.enc a) (rs Zm.enc l i (Zmn a k)),.row i (Zmn a k),.put (Zmn a k) (rs Zm.enc l i (Zmu a k)),.k,.row i (Zmu a k),.put (Zmu a k) (rs Zm.enc l i (Zma a k)),.row i (Zma a k),.put (Zma a k) (rs Zm.enc l i (Znd a k)),.row i (Znd a k),.put (Znd a k) (rs Zm.enc l i (Zmy a k)),.row i (Zmy a k),.put (Zmy a k) (rs Zm.enc l i (Zl6 a k)),.row i (Zl6 a k),.put (Zl6 a k) ((l.set i (Zbe a k).1).map Zm.enc)]
   (p:=(decide ((i:Int) < ((l.map Zm.enc).length:Int))=true)/\(nn i)/\((l.map Zm.enc)[i]?=some (Zm.enc a))/\((l.map Zm.enc)[i]?=some (Zm.enc a))/\((l.map Zm.enc).set i (Zmn a k)=(rs Zm.enc l i (Zmn a k)))/\(nn i)/\((rs Zm.enc l i (Zmn a k))[i]?=some (Zmn a k))/\((rs Zm.enc l i (Zmn a k))[i]?=some (Zmn a k))/\((rs Zm.enc l i (Zmn a k)).set i (Zmu a k)=(rs Zm.enc l i (Zmu a k)))/\(nn i)/\((rs Zm.enc l i (Zmu a k))[i]?=some (Zmu a k))/\((rs Zm.enc l i (Zmu a k))[i]?=some (Zmu a k))/\((rs Zm.enc l i (Zmu a k)).set i (Zma a k)=(rs Zm.enc l i (Zma a k)))/\(nn i)/\((rs Zm.enc l i (Zma a k))[i]?=some (Zma a k))/\((rs Zm.enc l i (Zma a k))[i]?=some (Zma a k))/\((rs Zm.enc l i (Zma a k)).set i (Znd a k)=(rs Zm.enc l i (Znd a k)))/\(nn i)/\((rs Zm.enc l i (Znd a k))[i]?=some (Znd a k))/\((rs Zm.enc l i (Znd a k))[i]?=some (Znd a k))/\((rs Zm.enc l i (Znd a k)).set i (Zmy a k)=(rs Zm.enc l i (Zmy a k)))/\(nn i)/\((rs Zm.enc l i (Zmy a k))[i]?=some (Zmy a k))/\((rs Zm.enc l i (Zmy a k))[i]?=some (Zmy a k))/\((rs Zm.enc l i (Zmy a k)).set i (Zl6 a k)=(rs Zm.enc l i (Zl6 a k)))/\(nn i)/\((rs Zm.enc l i (Zl6 a k))[i]?=some (Zl6 a k))/\((rs Zm.enc l i (Zl6 a k))[i]?=some (Zl6 a k))/\((rs Zm.enc l i (Zl6 a k)).set i (rDone7 a k)=((l.set i (Zbe a k).1).map Zm.enc))/\True)
   ⟨Zyx h,Xw,Zdr h,Zdr h,rfl,Xw,Yj h _,Yj h _,Zgr,Xw,Yj h _,Yj h _,Zgr,Xw,Yj h _,Yj h _,Zgr,Xw,Yj h _,Yj h _,Zgr,Xw,Yj h _,Yj h _,Zgr,Xw,Yj h _,Yj h _,Yii rfl,trivial⟩ (ts:=[0,1,5]) (ks:=[0]) (e:=.normal) (vs:=[.ob 0,.lit (.int .i64 (w1 (w1 (w1 (w1 (w1 (w1 (w1 k)))))))),.lit (.int .i64 (w1 (i:Int)))]) (bs:=[some ⟨true,z,e,((l.set i (Zbe a k).1).map Zm.enc)⟩]) (by kernel_rfl) (λs h1 h2=>⟨rfl,.of (by rw[h1,Zy6 hi];rfl) h2⟩)
def Xa (x:Zc) (k:Int):Zc×Int:=({x with tokens:=k,count:=w1 k},w1 (w1 k))
def Zen (a:Zc) (k:Int):List V:=(Zc.enc a).set 0 (.lit (.int .i64 (k)))
def Y3n (a:Zc) (k:Int):List V:=(Zen a k).set 1 (.lit (.int .i64 (w1 k)))
theorem Yig (l:List Zc) (k:Int) (hl:l.length<=1152921504606846976):Qx Tryz.prog 75 false [.tr (l.map Zc.enc)] [.tr ((mkL Xa l k).1.map Zc.enc)] k (mkL Xa l k).2:=by
 refine Zqj (M:=Mo) fOk (fn:=Tryz.f75) (r0:=sqL (Xl Tryz.f75)) (r1:=sqL (sqL (sqR (Xl Tryz.f75)))) (body:=lpC (blC (sqR (sqL (sqR (Xl Tryz.f75)))))) (post:=sqR (sqR (Xl Tryz.f75))) (f:=Xa) (by kernel_rfl) (by kernel_rfl) (by kernel_rfl) l k (Qp:=λ_=>True) (λ_ _=>trivial) hl (λts=>by kernel_rfl) (λl k z e ob bk bx u=>by kernel_rfl) (λl k z e ob bk bx u=>by kernel_rfl) (λl k z e i ob bk bx u=>by kernel_rfl) λl i a k z e ob bk bx u h hi hq=>
  Zbb (M:=Mo) fOk 100 [.t true,.row i (Zc.enc a),.put (Zc.enc a) (rs Zc.enc l i (Zen a k)),.row i (Zen a k),.put (Zen a k) ((l.set i (Xa a k).1).map Zc.enc)]
   (p:=(decide ((i:Int) < ((l.map Zc.enc).length:Int))=true)/\(nn i)/\((l.map Zc.enc)[i]?=some (Zc.enc a))/\((l.map Zc.enc)[i]?=some (Zc.enc a))/\((l.map Zc.enc).set i (Zen a k)=(rs Zc.enc l i (Zen a k)))/\(nn i)/\((rs Zc.enc l i (Zen a k))[i]?=some (Zen a k))/\((rs Zc.enc l i (Zen a k))[i]?=some (Zen a k))/\((rs Zc.enc l i (Zen a k)).set i (Y3n a k)=((l.set i (Xa a k).1).map Zc.enc))/\True)
   ⟨Zyx h,Xw,Zdr h,Zdr h,rfl,Xw,Yj h _,Yj h _,Yii rfl,trivial⟩ (ts:=[0,1,5]) (ks:=[0]) (e:=.normal) (vs:=[.ob 0,.lit (.int .i64 (w1 (w1 k))),.lit (.int .i64 (w1 (i:Int)))]) (bs:=[some ⟨true,z,e,((l.set i (Xa a k).1).map Zc.enc)⟩]) (by kernel_rfl) (λs h1 h2=>⟨rfl,.of (by rw[h1,Zy6 hi];rfl) h2⟩)
def Jt (x:Zd) (k:Int):Zd×Int:=({x with weight:=k,prio:=b3 (w1 k),every:=w1 (w1 k),cap:=w1 (w1 (w1 k))},w1 (w1 (w1 (w1 k))))
def Zh7 (a:Zd) (k:Int):List V:=(Zd.enc a).set 0 (.lit (.int .i64 (k)))
def Zhz (a:Zd) (k:Int):List V:=(Zh7 a k).set 1 (.lit (.bool (b3 (w1 k))))
def Zhu (a:Zd) (k:Int):List V:=(Zhz a k).set 2 (.lit (.int .i64 (w1 (w1 k))))
def Y5z (a:Zd) (k:Int):List V:=(Zhu a k).set 3 (.lit (.int .i64 (w1 (w1 (w1 k)))))
theorem Yl4 (l:List Zd) (k:Int) (hl:l.length<=1152921504606846976):Qx Tryz.prog 56 false [.tr (l.map Zd.enc)] [.tr ((mkL Jt l k).1.map Zd.enc)] k (mkL Jt l k).2:=by
 refine Zqj (M:=Mo) fOk (fn:=Tryz.f56) (r0:=sqL (Xl Tryz.f56)) (r1:=sqL (sqL (sqR (Xl Tryz.f56)))) (body:=lpC (blC (sqR (sqL (sqR (Xl Tryz.f56)))))) (post:=sqR (sqR (Xl Tryz.f56))) (f:=Jt) (by kernel_rfl) (by kernel_rfl) (by kernel_rfl) l k (Qp:=λ_=>True) (λ_ _=>trivial) hl (λts=>by kernel_rfl) (λl k z e ob bk bx u=>by kernel_rfl) (λl k z e ob bk bx u=>by kernel_rfl) (λl k z e i ob bk bx u=>by kernel_rfl) λl i a k z e ob bk bx u h hi hq=>
  Zbb (M:=Mo) fOk 100 [.t true,.row i (Zd.enc a),.put (Zd.enc a) (rs Zd.enc l i (Zh7 a k)),.k,.row i (Zh7 a k),.put (Zh7 a k) (rs Zd.enc l i (Zhz a k)),.row i (Zhz a k),.put (Zhz a k) (rs Zd.enc l i (Zhu a k)),.row i (Zhu a k),.put (Zhu a k) ((l.set i (Jt a k).1).map Zd.enc)]
   (p:=(decide ((i:Int) < ((l.map Zd.enc).length:Int))=true)/\(nn i)/\((l.map Zd.enc)[i]?=some (Zd.enc a))/\((l.map Zd.enc)[i]?=some (Zd.enc a))/\((l.map Zd.enc).set i (Zh7 a k)=(rs Zd.enc l i (Zh7 a k)))/\(nn i)/\((rs Zd.enc l i (Zh7 a k))[i]?=some (Zh7 a k))/\((rs Zd.enc l i (Zh7 a k))[i]?=some (Zh7 a k))/\((rs Zd.enc l i (Zh7 a k)).set i (Zhz a k)=(rs Zd.enc l i (Zhz a k)))/\(nn i)/\((rs Zd.enc l i (Zhz a k))[i]?=some (Zhz a k))/\((rs Zd.enc l i (Zhz a k))[i]?=some (Zhz a k))/\((rs Zd.enc l i (Zhz a k)).set i (Zhu a k)=(rs Zd.enc l i (Zhu a k)))/\(nn i)/\((rs Zd.enc l i (Zhu a k))[i]?=some (Zhu a k))/\((rs Zd.enc l i (Zhu a k))[i]?=some (Zhu a k))/\((rs Zd.enc l i (Zhu a k)).set i (Y5z a k)=((l.set i (Jt a k).1).map Zd.enc))/\True)
   ⟨Zyx h,Xw,Zdr h,Zdr h,rfl,Xw,Yj h _,Yj h _,Zgr,Xw,Yj h _,Yj h _,Zgr,Xw,Yj h _,Yj h _,Yii rfl,trivial⟩ (ts:=[0,1,5]) (ks:=[0]) (e:=.normal) (vs:=[.ob 0,.lit (.int .i64 (w1 (w1 (w1 (w1 k))))),.lit (.int .i64 (w1 (i:Int)))]) (bs:=[some ⟨true,z,e,((l.set i (Jt a k).1).map Zd.enc)⟩]) (by kernel_rfl) (λs h1 h2=>⟨rfl,.of (by rw[h1,Zy6 hi];rfl) h2⟩)
def Kj (x:Zf) (k:Int):Zf×Int:=({x with write:=b3 (k),addr:=w1 k,size:=w1 (w1 k),burst:=w1 (w1 (w1 k)),lock:=b3 (w1 (w1 (w1 (w1 k)))),data_:=(mkL Yd x.data_ (w1 (w1 (w1 (w1 (w1 k)))))).1},(mkL Yd x.data_ (w1 (w1 (w1 (w1 (w1 k)))))).2)
def Zsn (a:Zf) (k:Int):List V:=(Zf.enc a).set 0 (.lit (.bool (b3 (k))))
def Zsx (a:Zf) (k:Int):List V:=(Zsn a k).set 1 (.lit (.int .i64 (w1 k)))
def Zrf (a:Zf) (k:Int):List V:=(Zsx a k).set 2 (.lit (.int .i64 (w1 (w1 k))))
def Zst (a:Zf) (k:Int):List V:=(Zrf a k).set 3 (.lit (.int .i64 (w1 (w1 (w1 k)))))
def Zlj (a:Zf) (k:Int):List V:=(Zst a k).set 4 (.lit (.bool (b3 (w1 (w1 (w1 (w1 k)))))))
def rReq6 (a:Zf) (k:Int):List V:=(Zlj a k).set 5 (.tr ((mkL Yd a.data_ (w1 (w1 (w1 (w1 (w1 k)))))).1.map Ze))
theorem Yrd (l:List Zf) (k:Int) (hl:l.length<=1152921504606846976) (hq:∀x∈l,x.data_.length<=1152921504606846976):Qx Tryz.prog 18 false [.tr (l.map Zf.enc)] [.tr ((mkL Kj l k).1.map Zf.enc)] k (mkL Kj l k).2:=by
 refine Zqj (M:=Mo) fOk (fn:=Tryz.f18) (r0:=sqL (Xl Tryz.f18)) (r1:=sqL (sqL (sqR (Xl Tryz.f18)))) (body:=lpC (blC (sqR (sqL (sqR (Xl Tryz.f18)))))) (post:=sqR (sqR (Xl Tryz.f18))) (f:=Kj) (by kernel_rfl) (by kernel_rfl) (by kernel_rfl) l k (Qp:=λx=>x.data_.length<=1152921504606846976) hq hl (λts=>by kernel_rfl) (λl k z e ob bk bx u=>by kernel_rfl) (λl k z e ob bk bx u=>by kernel_rfl) (λl k z e i ob bk bx u=>by kernel_rfl) λl i a k z e ob bk bx u h hi hq=>
  Zbb (M:=Mo) fOk 100 [.t true,.k,.row i (Zf.enc a),.put (Zf.enc a) (rs Zf.enc l i (Zsn a k)),.row i (Zsn a k),.put (Zsn a k) (rs Zf.enc l i (Zsx a k)),.row i (Zsx a k),.put (Zsx a k) (rs Zf.enc l i (Zrf a k)),.row i (Zrf a k),.put (Zrf a k) (rs Zf.enc l i (Zst a k)),.k,.row i (Zst a k),.put (Zst a k) (rs Zf.enc l i (Zlj a k)),.row i (Zlj a k),.cell (Zlj a k),.put (Zlj a k) ((l.set i (Kj a k).1).map Zf.enc),.res (.lit (.int .i64 (mkL Yd a.data_ (w1 (w1 (w1 (w1 (w1 k)))))).2)) [.tr ((mkL Yd a.data_ (w1 (w1 (w1 (w1 (w1 k)))))).1.map Ze)]]
   (p:=(decide ((i:Int) < ((l.map Zf.enc).length:Int))=true)/\(nn i)/\((l.map Zf.enc)[i]?=some (Zf.enc a))/\((l.map Zf.enc)[i]?=some (Zf.enc a))/\((l.map Zf.enc).set i (Zsn a k)=(rs Zf.enc l i (Zsn a k)))/\(nn i)/\((rs Zf.enc l i (Zsn a k))[i]?=some (Zsn a k))/\((rs Zf.enc l i (Zsn a k))[i]?=some (Zsn a k))/\((rs Zf.enc l i (Zsn a k)).set i (Zsx a k)=(rs Zf.enc l i (Zsx a k)))/\(nn i)/\((rs Zf.enc l i (Zsx a k))[i]?=some (Zsx a k))/\((rs Zf.enc l i (Zsx a k))[i]?=some (Zsx a k))/\((rs Zf.enc l i (Zsx a k)).set i (Zrf a k)=(rs Zf.enc l i (Zrf a k)))/\(nn i)/\((rs Zf.enc l i (Zrf a k))[i]?=some (Zrf a k))/\((rs Zf.enc l i (Zrf a k))[i]?=some (Zrf a k))/\((rs Zf.enc l i (Zrf a k)).set i (Zst a k)=(rs Zf.enc l i (Zst a k)))/\(nn i)/\((rs Zf.enc l i (Zst a k))[i]?=some (Zst a k))/\((rs Zf.enc l i (Zst a k))[i]?=some (Zst a k))/\((rs Zf.enc l i (Zst a k)).set i (Zlj a k)=(rs Zf.enc l i (Zlj a k)))/\(nn i)/\((rs Zf.enc l i (Zlj a k))[i]?=some (Zlj a k))/\((rs Zf.enc l i (Zlj a k))[i]?=some (Zlj a k))/\((rs Zf.enc l i (Zlj a k))[i]?=some (Zlj a k))/\(Qx Tryz.prog 57 false [.tr (a.data_.map Ze)] [.tr ((mkL Yd a.data_ (w1 (w1 (w1 (w1 (w1 k)))))).1.map Ze)] (w1 (w1 (w1 (w1 (w1 k))))) (mkL Yd a.data_ (w1 (w1 (w1 (w1 (w1 k)))))).2)/\((rs Zf.enc l i (Zlj a k)).set i (rReq6 a k)=((l.set i (Kj a k).1).map Zf.enc))/\True)
   ⟨Zyx h,Xw,Zdr h,Zdr h,rfl,Xw,Yj h _,Yj h _,Zgr,Xw,Yj h _,Yj h _,Zgr,Xw,Yj h _,Yj h _,Zgr,Xw,Yj h _,Yj h _,Zgr,Xw,Yj h _,Yj h _,Yj h _,Zd4 _ _ hq,Yii rfl,trivial⟩ (ts:=[0,1,5]) (ks:=[0]) (e:=.normal) (vs:=[.ob 0,.lit (.int .i64 ((mkL Yd a.data_ (w1 (w1 (w1 (w1 (w1 k)))))).2)),.lit (.int .i64 (w1 (i:Int)))]) (bs:=[some ⟨true,z,e,((l.set i (Kj a k).1).map Zf.enc)⟩]) (by kernel_rfl) (λs h1 h2=>⟨rfl,.of (by rw[h1,Zy6 hi];rfl) h2⟩)
def Qt (x:Zl) (k:Int):Zl×Int:=({x with at_:=k,who:=w1 k,req:={x.req with write:=b3 (w1 (w1 k)),addr:=w1 (w1 (w1 k)),size:=w1 (w1 (w1 (w1 k))),burst:=w1 (w1 (w1 (w1 (w1 k)))),lock:=b3 (w1 (w1 (w1 (w1 (w1 (w1 k)))))),data_:=(mkL Yd x.req.data_ (w1 (w1 (w1 (w1 (w1 (w1 (w1 k)))))))).1}},(mkL Yd x.req.data_ (w1 (w1 (w1 (w1 (w1 (w1 (w1 k)))))))).2)
def Zm2 (a:Zl) (k:Int):List V:=(Zl.enc a).set 0 (.lit (.int .i64 (k)))
def Zmt (a:Zl) (k:Int):List V:=(Zm2 a k).set 1 (.lit (.int .i64 (w1 k)))
def Zmq (a:Zl) (k:Int):List V:=(Zmt a k).set 2 (.lit (.bool (b3 (w1 (w1 k)))))
def Zna (a:Zl) (k:Int):List V:=(Zmq a k).set 3 (.lit (.int .i64 (w1 (w1 (w1 k)))))
def Zmi (a:Zl) (k:Int):List V:=(Zna a k).set 4 (.lit (.int .i64 (w1 (w1 (w1 (w1 k))))))
def Zl9 (a:Zl) (k:Int):List V:=(Zmi a k).set 5 (.lit (.int .i64 (w1 (w1 (w1 (w1 (w1 k)))))))
def Zga (a:Zl) (k:Int):List V:=(Zl9 a k).set 6 (.lit (.bool (b3 (w1 (w1 (w1 (w1 (w1 (w1 k)))))))))
def rPost8 (a:Zl) (k:Int):List V:=(Zga a k).set 7 (.tr ((mkL Yd a.req.data_ (w1 (w1 (w1 (w1 (w1 (w1 (w1 k)))))))).1.map Ze))
theorem Yn8 (l:List Zl) (k:Int) (hl:l.length<=1152921504606846976) (hq:∀x∈l,x.req.data_.length<=1152921504606846976):Qx Tryz.prog 73 false [.tr (l.map Zl.enc)] [.tr ((mkL Qt l k).1.map Zl.enc)] k (mkL Qt l k).2:=by
 refine Zqj (M:=Mo) fOk (fn:=Tryz.f73) (r0:=sqL (Xl Tryz.f73)) (r1:=sqL (sqL (sqR (Xl Tryz.f73)))) (body:=lpC (blC (sqR (sqL (sqR (Xl Tryz.f73)))))) (post:=sqR (sqR (Xl Tryz.f73))) (f:=Qt) (by kernel_rfl) (by kernel_rfl) (by kernel_rfl) l k (Qp:=λx=>x.req.data_.length<=1152921504606846976) hq hl (λts=>by kernel_rfl) (λl k z e ob bk bx u=>by kernel_rfl) (λl k z e ob bk bx u=>by kernel_rfl) (λl k z e i ob bk bx u=>by kernel_rfl) λl i a k z e ob bk bx u h hi hq=>
  Zbb (M:=Mo) fOk 100 [.t true,.row i (Zl.enc a),.put (Zl.enc a) (rs Zl.enc l i (Zm2 a k)),.row i (Zm2 a k),.put (Zm2 a k) (rs Zl.enc l i (Zmt a k)),.k,.row i (Zmt a k),.put (Zmt a k) (rs Zl.enc l i (Zmq a k)),.row i (Zmq a k),.put (Zmq a k) (rs Zl.enc l i (Zna a k)),.row i (Zna a k),.put (Zna a k) (rs Zl.enc l i (Zmi a k)),.row i (Zmi a k),.put (Zmi a k) (rs Zl.enc l i (Zl9 a k)),.k,.row i (Zl9 a k),.put (Zl9 a k) (rs Zl.enc l i (Zga a k)),.row i (Zga a k),.cell (Zga a k),.put (Zga a k) ((l.set i (Qt a k).1).map Zl.enc),.res (.lit (.int .i64 (mkL Yd a.req.data_ (w1 (w1 (w1 (w1 (w1 (w1 (w1 k)))))))).2)) [.tr ((mkL Yd a.req.data_ (w1 (w1 (w1 (w1 (w1 (w1 (w1 k)))))))).1.map Ze)]]
   (p:=(decide ((i:Int) < ((l.map Zl.enc).length:Int))=true)/\(nn i)/\((l.map Zl.enc)[i]?=some (Zl.enc a))/\((l.map Zl.enc)[i]?=some (Zl.enc a))/\((l.map Zl.enc).set i (Zm2 a k)=(rs Zl.enc l i (Zm2 a k)))/\(nn i)/\((rs Zl.enc l i (Zm2 a k))[i]?=some (Zm2 a k))/\((rs Zl.enc l i (Zm2 a k))[i]?=some (Zm2 a k))/\((rs Zl.enc l i (Zm2 a k)).set i (Zmt a k)=(rs Zl.enc l i (Zmt a k)))/\(nn i)/\((rs Zl.enc l i (Zmt a k))[i]?=some (Zmt a k))/\((rs Zl.enc l i (Zmt a k))[i]?=some (Zmt a k))/\((rs Zl.enc l i (Zmt a k)).set i (Zmq a k)=(rs Zl.enc l i (Zmq a k)))/\(nn i)/\((rs Zl.enc l i (Zmq a k))[i]?=some (Zmq a k))/\((rs Zl.enc l i (Zmq a k))[i]?=some (Zmq a k))/\((rs Zl.enc l i (Zmq a k)).set i (Zna a k)=(rs Zl.enc l i (Zna a k)))/\(nn i)/\((rs Zl.enc l i (Zna a k))[i]?=some (Zna a k))/\((rs Zl.enc l i (Zna a k))[i]?=some (Zna a k))/\((rs Zl.enc l i (Zna a k)).set i (Zmi a k)=(rs Zl.enc l i (Zmi a k)))/\(nn i)/\((rs Zl.enc l i (Zmi a k))[i]?=some (Zmi a k))/\((rs Zl.enc l i (Zmi a k))[i]?=some (Zmi a k))/\((rs Zl.enc l i (Zmi a k)).set i (Zl9 a k)=(rs Zl.enc l i (Zl9 a k)))/\(nn i)/\((rs Zl.enc l i (Zl9 a k))[i]?=some (Zl9 a k))/\((rs Zl.enc l i (Zl9 a k))[i]?=some (Zl9 a k))/\((rs Zl.enc l i (Zl9 a k)).set i (Zga a k)=(rs Zl.enc l i (Zga a k)))/\(nn i)/\((rs Zl.enc l i (Zga a k))[i]?=some (Zga a k))/\((rs Zl.enc l i (Zga a k))[i]?=some (Zga a k))/\((rs Zl.enc l i (Zga a k))[i]?=some (Zga a k))/\(Qx Tryz.prog 57 false [.tr (a.req.data_.map Ze)] [.tr ((mkL Yd a.req.data_ (w1 (w1 (w1 (w1 (w1 (w1 (w1 k)))))))).1.map Ze)] (w1 (w1 (w1 (w1 (w1 (w1 (w1 k))))))) (mkL Yd a.req.data_ (w1 (w1 (w1 (w1 (w1 (w1 (w1 k)))))))).2)/\((rs Zl.enc l i (Zga a k)).set i (rPost8 a k)=((l.set i (Qt a k).1).map Zl.enc))/\True)
   ⟨Zyx h,Xw,Zdr h,Zdr h,rfl,Xw,Yj h _,Yj h _,Zgr,Xw,Yj h _,Yj h _,Zgr,Xw,Yj h _,Yj h _,Zgr,Xw,Yj h _,Yj h _,Zgr,Xw,Yj h _,Yj h _,Zgr,Xw,Yj h _,Yj h _,Zgr,Xw,Yj h _,Yj h _,Yj h _,Zd4 _ _ hq,Yii rfl,trivial⟩ (ts:=[0,1,5]) (ks:=[0]) (e:=.normal) (vs:=[.ob 0,.lit (.int .i64 ((mkL Yd a.req.data_ (w1 (w1 (w1 (w1 (w1 (w1 (w1 k)))))))).2)),.lit (.int .i64 (w1 (i:Int)))]) (bs:=[some ⟨true,z,e,((l.set i (Qt a k).1).map Zl.enc)⟩]) (by kernel_rfl) (λs h1 h2=>⟨rfl,.of (by rw[h1,Zy6 hi];rfl) h2⟩)
def Wj (x:Zb) (k:Int):Zb×Int:=({x with queue:=(mkL Kj x.queue (k)).1,beat:=(mkL Kj x.queue (k)).2,done:=w1 ((mkL Kj x.queue (k)).2),tries:=w1 (w1 ((mkL Kj x.queue (k)).2)),parted:=b3 (w1 (w1 (w1 ((mkL Kj x.queue (k)).2)))),broken:=b3 (w1 (w1 (w1 (w1 ((mkL Kj x.queue (k)).2)))))},w1 (w1 (w1 (w1 (w1 ((mkL Kj x.queue (k)).2))))))
def Zsl (a:Zb) (k:Int):List V:=(Zb.enc a).set 0 (.tr ((mkL Kj a.queue (k)).1.map Zf.enc))
def Zr8 (a:Zb) (k:Int):List V:=(Zsl a k).set 1 (.lit (.int .i64 ((mkL Kj a.queue (k)).2)))
def Zrx (a:Zb) (k:Int):List V:=(Zr8 a k).set 2 (.lit (.int .i64 (w1 ((mkL Kj a.queue (k)).2))))
def Ztm (a:Zb) (k:Int):List V:=(Zrx a k).set 3 (.lit (.int .i64 (w1 (w1 ((mkL Kj a.queue (k)).2)))))
def Zru (a:Zb) (k:Int):List V:=(Ztm a k).set 4 (.lit (.bool (b3 (w1 (w1 (w1 ((mkL Kj a.queue (k)).2)))))))
def rMst6 (a:Zb) (k:Int):List V:=(Zru a k).set 5 (.lit (.bool (b3 (w1 (w1 (w1 (w1 ((mkL Kj a.queue (k)).2))))))))
theorem Yte (l:List Zb) (k:Int) (hl:l.length<=1152921504606846976) (hq:∀x∈l,x.queue.length<=1152921504606846976/\∀y∈x.queue,y.data_.length<=1152921504606846976):Qx Tryz.prog 74 false [.tr (l.map Zb.enc)] [.tr ((mkL Wj l k).1.map Zb.enc)] k (mkL Wj l k).2:=by
 refine Zqj (M:=Mo) fOk (fn:=Tryz.f74) (r0:=sqL (Xl Tryz.f74)) (r1:=sqL (sqL (sqR (Xl Tryz.f74)))) (body:=lpC (blC (sqR (sqL (sqR (Xl Tryz.f74)))))) (post:=sqR (sqR (Xl Tryz.f74))) (f:=Wj) (by kernel_rfl) (by kernel_rfl) (by kernel_rfl) l k (Qp:=λx=>x.queue.length<=1152921504606846976/\∀y∈x.queue,y.data_.length<=1152921504606846976) hq hl (λts=>by kernel_rfl) (λl k z e ob bk bx u=>by kernel_rfl) (λl k z e ob bk bx u=>by kernel_rfl) (λl k z e i ob bk bx u=>by kernel_rfl) λl i a k z e ob bk bx u h hi hq=>
  Zbb (M:=Mo) fOk 100 [.t true,.row i (Zb.enc a),.cell (Zb.enc a),.put (Zb.enc a) (rs Zb.enc l i (Zsl a k)),.res (.lit (.int .i64 (mkL Kj a.queue (k)).2)) [.tr ((mkL Kj a.queue (k)).1.map Zf.enc)],.row i (Zsl a k),.put (Zsl a k) (rs Zb.enc l i (Zr8 a k)),.row i (Zr8 a k),.put (Zr8 a k) (rs Zb.enc l i (Zrx a k)),.row i (Zrx a k),.put (Zrx a k) (rs Zb.enc l i (Ztm a k)),.k,.row i (Ztm a k),.put (Ztm a k) (rs Zb.enc l i (Zru a k)),.k,.row i (Zru a k),.put (Zru a k) ((l.set i (Wj a k).1).map Zb.enc)]
   (p:=(decide ((i:Int) < ((l.map Zb.enc).length:Int))=true)/\(nn i)/\((l.map Zb.enc)[i]?=some (Zb.enc a))/\((l.map Zb.enc)[i]?=some (Zb.enc a))/\((l.map Zb.enc)[i]?=some (Zb.enc a))/\(Qx Tryz.prog 18 false [.tr (a.queue.map Zf.enc)] [.tr ((mkL Kj a.queue (k)).1.map Zf.enc)] (k) (mkL Kj a.queue (k)).2)/\((l.map Zb.enc).set i (Zsl a k)=(rs Zb.enc l i (Zsl a k)))/\(nn i)/\((rs Zb.enc l i (Zsl a k))[i]?=some (Zsl a k))/\((rs Zb.enc l i (Zsl a k))[i]?=some (Zsl a k))/\((rs Zb.enc l i (Zsl a k)).set i (Zr8 a k)=(rs Zb.enc l i (Zr8 a k)))/\(nn i)/\((rs Zb.enc l i (Zr8 a k))[i]?=some (Zr8 a k))/\((rs Zb.enc l i (Zr8 a k))[i]?=some (Zr8 a k))/\((rs Zb.enc l i (Zr8 a k)).set i (Zrx a k)=(rs Zb.enc l i (Zrx a k)))/\(nn i)/\((rs Zb.enc l i (Zrx a k))[i]?=some (Zrx a k))/\((rs Zb.enc l i (Zrx a k))[i]?=some (Zrx a k))/\((rs Zb.enc l i (Zrx a k)).set i (Ztm a k)=(rs Zb.enc l i (Ztm a k)))/\(nn i)/\((rs Zb.enc l i (Ztm a k))[i]?=some (Ztm a k))/\((rs Zb.enc l i (Ztm a k))[i]?=some (Ztm a k))/\((rs Zb.enc l i (Ztm a k)).set i (Zru a k)=(rs Zb.enc l i (Zru a k)))/\(nn i)/\((rs Zb.enc l i (Zru a k))[i]?=some (Zru a k))/\((rs Zb.enc l i (Zru a k))[i]?=some (Zru a k))/\((rs Zb.enc l i (Zru a k)).set i (rMst6 a k)=((l.set i (Wj a k).1).map Zb.enc))/\True)
   ⟨Zyx h,Xw,Zdr h,Zdr h,Zdr h,Yrd _ _ hq.1 hq.2,rfl,Xw,Yj h _,Yj h _,Zgr,Xw,Yj h _,Yj h _,Zgr,Xw,Yj h _,Yj h _,Zgr,Xw,Yj h _,Yj h _,Zgr,Xw,Yj h _,Yj h _,Yii rfl,trivial⟩ (ts:=[0,1,5]) (ks:=[0]) (e:=.normal) (vs:=[.ob 0,.lit (.int .i64 (w1 (w1 (w1 (w1 (w1 ((mkL Kj a.queue (k)).2))))))),.lit (.int .i64 (w1 (i:Int)))]) (bs:=[some ⟨true,z,e,((l.set i (Wj a k).1).map Zb.enc)⟩]) (by kernel_rfl) (λs h1 h2=>⟨rfl,.of (by rw[h1,Zy6 hi];rfl) h2⟩)
def Zk.mok (x:Zk):Prop:=(x.masters.length<=1152921504606846976)
def Xq (x:Zk) (k:Int):Zk×Int:=({x with masters:=(mkL Jt x.masters (k)).1},(mkL Jt x.masters (k)).2)
theorem Ytv (x:Zk) (k:Int) (h:x.mok):Qx Tryz.prog 17 true (Zk.enc x) (Zk.enc (Xq x k).1) k (Xq x k).2:=by
 refine mk_ok fOk (fn:=Tryz.f17) (c:=Xl Tryz.f17) (rt:=4) (by kernel_rfl) (by kernel_rfl) (by kernel_rfl) (by show 6<=1000;decide) (.inl rfl) λts=>?_;exact Zbb (M:=Mo) fOk 100 [.res (.lit (.int .i64 (mkL Jt x.masters (k)).2)) [.tr ((mkL Jt x.masters (k)).1.map Zd.enc)]]
  (p:=(Qx Tryz.prog 56 false [.tr (x.masters.map Zd.enc)] [.tr ((mkL Jt x.masters (k)).1.map Zd.enc)] (k) (mkL Jt x.masters (k)).2)/\True)
  ⟨Yl4 _ _ h,trivial⟩ (ts:=[4]) (ks:=[0]) (e:=.ret) (vs:=[.lit (.int .i64 (Xq x k).2)]) (bs:=[some ⟨true,(ts 0).1,(ts 0).2,((Xq x k).1.masters.map Zd.enc)⟩]) (by kernel_rfl)
  (λs h1 h2=>⟨rfl,by simpa using h1,by
   simp only[Va1,Vbw,Vcc,and_true] at h2;exact⟨h2,rfl,rfl,rfl,rfl,rfl,trivial⟩⟩)
def Zn.mok (x:Zn):Prop:=(x.regs.length<=1152921504606846976)/\(x.fifo.length<=1152921504606846976)
def Zn4 (x:Zn) (k:Int):Zn×Int:=({x with regs:=(mkL Yd x.regs (k)).1,fifo:=(mkL Yd x.fifo ((mkL Yd x.regs (k)).2)).1},(mkL Yd x.fifo ((mkL Yd x.regs (k)).2)).2)
theorem Yws (x:Zn) (k:Int) (h:x.mok):Qx Tryz.prog 129 true (Zn.enc x) (Zn.enc (Zn4 x k).1) k (Zn4 x k).2:=by
 refine mk_ok fOk (fn:=Tryz.f129) (c:=Xl Tryz.f129) (rt:=4) (by kernel_rfl) (by kernel_rfl) (by kernel_rfl) (by show 3<=1000;decide) (.inl rfl) λts=>?_;exact Zbb (M:=Mo) fOk 100 [.res (.lit (.int .i64 (mkL Yd x.regs (k)).2)) [.tr ((mkL Yd x.regs (k)).1.map Ze)],.res (.lit (.int .i64 (mkL Yd x.fifo ((mkL Yd x.regs (k)).2)).2)) [.tr ((mkL Yd x.fifo ((mkL Yd x.regs (k)).2)).1.map Ze)]]
  (p:=(Qx Tryz.prog 57 false [.tr (x.regs.map Ze)] [.tr ((mkL Yd x.regs (k)).1.map Ze)] (k) (mkL Yd x.regs (k)).2)/\(Qx Tryz.prog 57 false [.tr (x.fifo.map Ze)] [.tr ((mkL Yd x.fifo ((mkL Yd x.regs (k)).2)).1.map Ze)] ((mkL Yd x.regs (k)).2) (mkL Yd x.fifo ((mkL Yd x.regs (k)).2)).2)/\True)
  ⟨Zd4 _ _ h.1,Zd4 _ _ h.2,trivial⟩ (ts:=[4]) (ks:=[0,2]) (e:=.ret) (vs:=[.lit (.int .i64 (Zn4 x k).2)]) (bs:=[some ⟨true,(ts 0).1,(ts 0).2,((Zn4 x k).1.regs.map Ze)⟩,some ⟨true,(ts 2).1,(ts 2).2,((Zn4 x k).1.fifo.map Ze)⟩]) (by kernel_rfl)
  (λs h1 h2=>⟨rfl,by simpa using h1,by
   simp only[Va1,Vbw,Vcc,and_true] at h2;exact⟨h2.1,rfl,h2.2,trivial⟩⟩)
def Zh.mok (x:Zh):Prop:=(x.mem.length<=1152921504606846976)/\Zn.mok x.dev
def K7 (x:Zh) (k:Int):Zh×Int:=({x with mem:=(mkL Yd x.mem (k)).1,dev:=(Zn4 x.dev ((mkL Yd x.mem (k)).2)).1},(Zn4 x.dev ((mkL Yd x.mem (k)).2)).2)
theorem Yoo (x:Zh) (k:Int) (h:x.mok):Qx Tryz.prog 76 true (Zh.enc x) (Zh.enc (K7 x k).1) k (K7 x k).2:=by
 refine mk_ok fOk (fn:=Tryz.f76) (c:=Xl Tryz.f76) (rt:=4) (by kernel_rfl) (by kernel_rfl) (by kernel_rfl) (by show 4<=1000;decide) (.inl rfl) λts=>?_;exact Zbb (M:=Mo) fOk 100 [.res (.lit (.int .i64 (mkL Yd x.mem (k)).2)) [.tr ((mkL Yd x.mem (k)).1.map Ze)],.res (.lit (.int .i64 (Zn4 x.dev ((mkL Yd x.mem (k)).2)).2)) (Zn.enc (Zn4 x.dev ((mkL Yd x.mem (k)).2)).1)]
  (p:=(Qx Tryz.prog 57 false [.tr (x.mem.map Ze)] [.tr ((mkL Yd x.mem (k)).1.map Ze)] (k) (mkL Yd x.mem (k)).2)/\(Qx Tryz.prog 129 true (Zn.enc x.dev) (Zn.enc (Zn4 x.dev ((mkL Yd x.mem (k)).2)).1) ((mkL Yd x.mem (k)).2) (Zn4 x.dev ((mkL Yd x.mem (k)).2)).2)/\True)
  ⟨Zd4 _ _ h.1,Yws _ _ h.2,trivial⟩ (ts:=[4]) (ks:=[0,1,3]) (e:=.ret) (vs:=[.lit (.int .i64 (K7 x k).2)]) (bs:=[some ⟨true,(ts 0).1,(ts 0).2,((K7 x k).1.mem.map Ze)⟩,some ⟨true,(ts 1).1,(ts 1).2,((K7 x k).1.dev.regs.map Ze)⟩,some ⟨true,(ts 3).1,(ts 3).2,((K7 x k).1.dev.fifo.map Ze)⟩]) (by kernel_rfl)
  (λs h1 h2=>⟨rfl,by simpa using h1,by
   simp only[Va1,Vbw,Vcc,and_true] at h2;exact⟨h2.1,h2.2.1,rfl,h2.2.2,trivial⟩⟩)
def Zi.mok (x:Zi):Prop:=(x.posts.length<=1152921504606846976/\∀y∈x.posts,y.req.data_.length<=1152921504606846976)/\(x.waits.length<=1152921504606846976)/\(x.says.length<=1152921504606846976)
def Kv (x:Zi) (k:Int):Zi×Int:=({x with posts:=(mkL Qt x.posts (k)).1,waits:=(mkL Yd x.waits ((mkL Qt x.posts (k)).2)).1,says:=(mkL Yd x.says ((mkL Yd x.waits ((mkL Qt x.posts (k)).2)).2)).1},(mkL Yd x.says ((mkL Yd x.waits ((mkL Qt x.posts (k)).2)).2)).2)
theorem Yl1 (x:Zi) (k:Int) (h:x.mok):Qx Tryz.prog 27 true (Zi.enc x) (Zi.enc (Kv x k).1) k (Kv x k).2:=by
 refine mk_ok fOk (fn:=Tryz.f27) (c:=Xl Tryz.f27) (rt:=4) (by kernel_rfl) (by kernel_rfl) (by kernel_rfl) (by show 3<=1000;decide) (.inl rfl) λts=>?_;exact Zbb (M:=Mo) fOk 100 [.res (.lit (.int .i64 (mkL Qt x.posts (k)).2)) [.tr ((mkL Qt x.posts (k)).1.map Zl.enc)],.res (.lit (.int .i64 (mkL Yd x.waits ((mkL Qt x.posts (k)).2)).2)) [.tr ((mkL Yd x.waits ((mkL Qt x.posts (k)).2)).1.map Ze)],.res (.lit (.int .i64 (mkL Yd x.says ((mkL Yd x.waits ((mkL Qt x.posts (k)).2)).2)).2)) [.tr ((mkL Yd x.says ((mkL Yd x.waits ((mkL Qt x.posts (k)).2)).2)).1.map Ze)]]
  (p:=(Qx Tryz.prog 73 false [.tr (x.posts.map Zl.enc)] [.tr ((mkL Qt x.posts (k)).1.map Zl.enc)] (k) (mkL Qt x.posts (k)).2)/\(Qx Tryz.prog 57 false [.tr (x.waits.map Ze)] [.tr ((mkL Yd x.waits ((mkL Qt x.posts (k)).2)).1.map Ze)] ((mkL Qt x.posts (k)).2) (mkL Yd x.waits ((mkL Qt x.posts (k)).2)).2)/\(Qx Tryz.prog 57 false [.tr (x.says.map Ze)] [.tr ((mkL Yd x.says ((mkL Yd x.waits ((mkL Qt x.posts (k)).2)).2)).1.map Ze)] ((mkL Yd x.waits ((mkL Qt x.posts (k)).2)).2) (mkL Yd x.says ((mkL Yd x.waits ((mkL Qt x.posts (k)).2)).2)).2)/\True)
  ⟨Yn8 _ _ h.1.1 h.1.2,Zd4 _ _ h.2.1,Zd4 _ _ h.2.2,trivial⟩ (ts:=[4]) (ks:=[0,1,2]) (e:=.ret) (vs:=[.lit (.int .i64 (Kv x k).2)]) (bs:=[some ⟨true,(ts 0).1,(ts 0).2,((Kv x k).1.posts.map Zl.enc)⟩,some ⟨true,(ts 1).1,(ts 1).2,((Kv x k).1.waits.map Ze)⟩,some ⟨true,(ts 2).1,(ts 2).2,((Kv x k).1.says.map Ze)⟩]) (by kernel_rfl)
  (λs h1 h2=>⟨rfl,by simpa using h1,by
   simp only[Va1,Vbw,Vcc,and_true] at h2;exact⟨h2.1,h2.2.1,h2.2.2,trivial⟩⟩)
def Za.mok (x:Za):Prop:=Zk.mok x.conf/\(x.m.length<=1152921504606846976/\∀z∈x.m,z.queue.length<=1152921504606846976/\∀y∈z.queue,y.data_.length<=1152921504606846976)/\(x.buckets.length<=1152921504606846976)/\(x.splits.length<=1152921504606846976)/\Zh.mok x.model/\(x.log.length<=1152921504606846976)
def Xb (x:Za) (k:Int):Za×Int:=({x with conf:=(Xq x.conf (k)).1,m:=(mkL Wj x.m ((Xq x.conf (k)).2)).1,buckets:=(mkL Xa x.buckets ((mkL Wj x.m ((Xq x.conf (k)).2)).2)).1,splits:=(mkL Yd x.splits ((mkL Xa x.buckets ((mkL Wj x.m ((Xq x.conf (k)).2)).2)).2)).1,model:=(K7 x.model ((mkL Yd x.splits ((mkL Xa x.buckets ((mkL Wj x.m ((Xq x.conf (k)).2)).2)).2)).2)).1,log:=(mkL Zbe x.log ((K7 x.model ((mkL Yd x.splits ((mkL Xa x.buckets ((mkL Wj x.m ((Xq x.conf (k)).2)).2)).2)).2)).2)).1},(mkL Zbe x.log ((K7 x.model ((mkL Yd x.splits ((mkL Xa x.buckets ((mkL Wj x.m ((Xq x.conf (k)).2)).2)).2)).2)).2)).2)
theorem Ygd (x:Za) (k:Int) (h:x.mok):Qx Tryz.prog 28 true (Za.enc x) (Za.enc (Xb x k).1) k (Xb x k).2:=by
 refine mk_ok fOk (fn:=Tryz.f28) (c:=Xl Tryz.f28) (rt:=4) (by kernel_rfl) (by kernel_rfl) (by kernel_rfl) (by show 37<=1000;decide) (.inl rfl) λts=>?_;exact Zbb (M:=Mo) fOk 100 [.res (.lit (.int .i64 (Xq x.conf (k)).2)) (Zk.enc (Xq x.conf (k)).1),.res (.lit (.int .i64 (mkL Wj x.m ((Xq x.conf (k)).2)).2)) [.tr ((mkL Wj x.m ((Xq x.conf (k)).2)).1.map Zb.enc)],.res (.lit (.int .i64 (mkL Xa x.buckets ((mkL Wj x.m ((Xq x.conf (k)).2)).2)).2)) [.tr ((mkL Xa x.buckets ((mkL Wj x.m ((Xq x.conf (k)).2)).2)).1.map Zc.enc)],.res (.lit (.int .i64 (mkL Yd x.splits ((mkL Xa x.buckets ((mkL Wj x.m ((Xq x.conf (k)).2)).2)).2)).2)) [.tr ((mkL Yd x.splits ((mkL Xa x.buckets ((mkL Wj x.m ((Xq x.conf (k)).2)).2)).2)).1.map Ze)],.res (.lit (.int .i64 (K7 x.model ((mkL Yd x.splits ((mkL Xa x.buckets ((mkL Wj x.m ((Xq x.conf (k)).2)).2)).2)).2)).2)) (Zh.enc (K7 x.model ((mkL Yd x.splits ((mkL Xa x.buckets ((mkL Wj x.m ((Xq x.conf (k)).2)).2)).2)).2)).1),.res (.lit (.int .i64 (mkL Zbe x.log ((K7 x.model ((mkL Yd x.splits ((mkL Xa x.buckets ((mkL Wj x.m ((Xq x.conf (k)).2)).2)).2)).2)).2)).2)) [.tr ((mkL Zbe x.log ((K7 x.model ((mkL Yd x.splits ((mkL Xa x.buckets ((mkL Wj x.m ((Xq x.conf (k)).2)).2)).2)).2)).2)).1.map Zm.enc)]]
  (p:=(Qx Tryz.prog 17 true (Zk.enc x.conf) (Zk.enc (Xq x.conf (k)).1) (k) (Xq x.conf (k)).2)/\(Qx Tryz.prog 74 false [.tr (x.m.map Zb.enc)] [.tr ((mkL Wj x.m ((Xq x.conf (k)).2)).1.map Zb.enc)] ((Xq x.conf (k)).2) (mkL Wj x.m ((Xq x.conf (k)).2)).2)/\(Qx Tryz.prog 75 false [.tr (x.buckets.map Zc.enc)] [.tr ((mkL Xa x.buckets ((mkL Wj x.m ((Xq x.conf (k)).2)).2)).1.map Zc.enc)] ((mkL Wj x.m ((Xq x.conf (k)).2)).2) (mkL Xa x.buckets ((mkL Wj x.m ((Xq x.conf (k)).2)).2)).2)/\(Qx Tryz.prog 57 false [.tr (x.splits.map Ze)] [.tr ((mkL Yd x.splits ((mkL Xa x.buckets ((mkL Wj x.m ((Xq x.conf (k)).2)).2)).2)).1.map Ze)] ((mkL Xa x.buckets ((mkL Wj x.m ((Xq x.conf (k)).2)).2)).2) (mkL Yd x.splits ((mkL Xa x.buckets ((mkL Wj x.m ((Xq x.conf (k)).2)).2)).2)).2)/\(Qx Tryz.prog 76 true (Zh.enc x.model) (Zh.enc (K7 x.model ((mkL Yd x.splits ((mkL Xa x.buckets ((mkL Wj x.m ((Xq x.conf (k)).2)).2)).2)).2)).1) ((mkL Yd x.splits ((mkL Xa x.buckets ((mkL Wj x.m ((Xq x.conf (k)).2)).2)).2)).2) (K7 x.model ((mkL Yd x.splits ((mkL Xa x.buckets ((mkL Wj x.m ((Xq x.conf (k)).2)).2)).2)).2)).2)/\(Qx Tryz.prog 19 false [.tr (x.log.map Zm.enc)] [.tr ((mkL Zbe x.log ((K7 x.model ((mkL Yd x.splits ((mkL Xa x.buckets ((mkL Wj x.m ((Xq x.conf (k)).2)).2)).2)).2)).2)).1.map Zm.enc)] ((K7 x.model ((mkL Yd x.splits ((mkL Xa x.buckets ((mkL Wj x.m ((Xq x.conf (k)).2)).2)).2)).2)).2) (mkL Zbe x.log ((K7 x.model ((mkL Yd x.splits ((mkL Xa x.buckets ((mkL Wj x.m ((Xq x.conf (k)).2)).2)).2)).2)).2)).2)/\True)
  ⟨Ytv _ _ h.1,Yte _ _ h.2.1.1 h.2.1.2,Yig _ _ h.2.2.1,Zd4 _ _ h.2.2.2.1,Yoo _ _ h.2.2.2.2.1,Ym6 _ _ h.2.2.2.2.2,trivial⟩ (ts:=[4]) (ks:=[0,7,10,11,31,32,34,36]) (e:=.ret) (vs:=[.lit (.int .i64 (Xb x k).2)]) (bs:=[some ⟨true,(ts 0).1,(ts 0).2,((Xb x k).1.conf.masters.map Zd.enc)⟩,some ⟨true,(ts 7).1,(ts 7).2,((Xb x k).1.m.map Zb.enc)⟩,some ⟨true,(ts 10).1,(ts 10).2,((Xb x k).1.buckets.map Zc.enc)⟩,some ⟨true,(ts 11).1,(ts 11).2,((Xb x k).1.splits.map Ze)⟩,some ⟨true,(ts 31).1,(ts 31).2,((Xb x k).1.model.mem.map Ze)⟩,some ⟨true,(ts 32).1,(ts 32).2,((Xb x k).1.model.dev.regs.map Ze)⟩,some ⟨true,(ts 34).1,(ts 34).2,((Xb x k).1.model.dev.fifo.map Ze)⟩,some ⟨true,(ts 36).1,(ts 36).2,((Xb x k).1.log.map Zm.enc)⟩]) (by kernel_rfl)
  (λs h1 h2=>⟨rfl,by simpa using h1,by
   simp only[Va1,Vbw,Vcc,and_true] at h2;exact⟨h2.1,rfl,rfl,rfl,rfl,rfl,rfl,h2.2.1,rfl,rfl,h2.2.2.1,h2.2.2.2.1,rfl,rfl,rfl,rfl,rfl,rfl,rfl,rfl,rfl,rfl,rfl,rfl,rfl,rfl,rfl,rfl,rfl,rfl,rfl,h2.2.2.2.2.1,h2.2.2.2.2.2.1,rfl,h2.2.2.2.2.2.2.1,rfl,h2.2.2.2.2.2.2.2,trivial⟩⟩)
end
end Go.Proofs.YtagdmghmblplbaaGreat.Ev
namespace Go.Proofs.YtagdmghmblplbaaGreat.Ev
open Go Go.Proofs
theorem Zyr {n:Int} (h1:-9223372036854775808<=n) (h2:n < 9223372036854775808):IntKind.i64.wrap n=n:=w64_of h1 h2
theorem Yr {a b:Int} (h1:-9223372036854775808<=a+b) (h2:a+b < 9223372036854775808):Zt a b=a+b:=Zyr h1 h2
theorem Xh {a b:Int} (h1:-9223372036854775808<=a - b) (h2:a - b < 9223372036854775808):Y8 a b=a - b:=Zyr h1 h2
theorem Zfn {a b:Int} (h1:-9223372036854775808<=a*b) (h2:a*b < 9223372036854775808):Jr a b=a*b:=Zyr h1 h2
theorem Wp {k:Nat} (h:k < 4611686018427387904):Zt (k:Int) 1=((k+1:Nat):Int):=by rw[Yr (by omega) (by omega)];rfl
theorem ok_i64 {n:Int} (h:(Lit.int .i64 n).wf=true):-9223372036854775808<=n/\n < 9223372036854775808:=by
 simp[Lit.wf,IntKind.min,IntKind.max,IntKind.signed,IntKind.bits] at h;omega
section
variable {α β σ ρ:Type}
theorem Xu {xs:List α} {k:Nat} (h:k < xs.length):idx xs (k:Int)=some xs[k]:=by
 simp[idx,h]
theorem Kq:4611686018427387904 < FU:=by decide
def Z2w (step:α->σ->Option (σ ⊕ ρ)) (fin:σ->Option ρ):List α->σ->Option ρ
 | [],s=>fin s
 | a::l,s=>(step a s).bind λr=>match r with|.inl s'=>Z2w step fin l s'|.inr x=>some x
def goL (k:σ->Option ρ):σ ⊕ ρ->Option ρ
 | .inl s=>k s
 | .inr x=>some x
theorem Y0r (xs:List α) (hl:xs.length < 4611686018427387904) (step:α->σ->Option (σ ⊕ ρ)) (fin:σ->Option ρ) (L:Nat->σ->Int->Option ρ)
  (hL:∀m s i,L (m+1) s i=if decide (i < (xs.length:Int))=true then (idx xs i).bind λa=>(step a s).bind (goL λs'=>L m s' (Zt i 1)) else fin s):
  ∀(m k:Nat) (s:σ),k<=xs.length->xs.length - k < m->L m s k=Z2w step fin (xs.drop k) s:=by
 intro m
 induction m with
 | zero=>intro k s _ h;omega
 | succ m ih=>
  intro k s hk hm;rw[hL];by_cases hc:k < xs.length
  .have h1:decide ((k:Int) < (xs.length:Int))=true:=by simpa using hc
   rw[ZZj h1,Xu hc,ZZa,Va4 hc];simp only[Z2w]
   congr 1
   funext r
   cases r with
   | inl s'=>
    simp only[goL];rw[Wp (by omega)];exact ih (k+1) s' (by omega) (by omega)
   | inr x=>rfl
  .have h1:¬decide ((k:Int) < (xs.length:Int))=true:=by simpa using hc
   rw[ZZi h1,Va9 (by omega)];rfl
theorem Ydf (xs:List α) (hl:xs.length < 4611686018427387904) (step:α->σ->Option (σ ⊕ ρ)) (fin:σ->Option ρ) (L:Nat->σ->Int->Option ρ)
  (hL:∀m s i,L (m+1) s i=if decide (i < (xs.length:Int))=true then (idx xs i).bind λa=>(step a s).bind (goL λs'=>L m s' (Zt i 1)) else fin s) (s:σ):
  L FU s 0=Z2w step fin xs s:=by
 have:=Y0r xs hl step fin L hL FU 0 s (Vbl _) (by have:=Kq;omega);simpa using this
theorem Zqk (xs:List α) (g:α->β) (hl:xs.length < 4611686018427387904) (f:α->Option β) (hf:∀a∈xs,f a=some (g a)) (L:Nat->List β->Int->Option (List β))
  (hL:∀m v i,L (m+1) v i=if decide (i < (xs.length:Int))=true then (idx xs i).bind λa=>(f a).bind λb=>(idx v i).bind λ_=>(W7 v i b).bind λy=>L m y (Zt i 1) else some v) (v:List β) (hv:v.length=xs.length):L FU v 0=some (xs.map g):=by
 have key:∀(m k:Nat) (v:List β),k<=xs.length->xs.length - k < m->v.length=xs.length->v.take k=(xs.take k).map g->L m v k=some (xs.map g):=by
  intro m
  induction m with
  | zero=>intro k v _ h;omega
  | succ m ih=>
   intro k v hk hm hv ht;rw[hL];by_cases hc:k < xs.length
   .have h1:decide ((k:Int) < (xs.length:Int))=true:=by simpa using hc
    have hc2:k < v.length:=by omega
    rw[ZZj h1,Xu hc,ZZa,hf _ (Vas hc),ZZa,Xu hc2,ZZa];simp only[W7,ZZa];rw[Wp (by omega)];refine ih (k+1) _ (by omega) (by omega) (by simp[hv]) ?_;rw[Vcd,List.take_add_one,List.take_add_one,Vdk,List.take_set_of_le (Vav _),ht,Vea hc2,Vab hc];rfl
   .have h1:¬decide ((k:Int) < (xs.length:Int))=true:=by simpa using hc
    rw[ZZi h1];rw[Vbh (by omega),Vbh (by omega)] at ht;rw[ht]
 have:=key FU 0 v (Vbl _) (by have:=Kq;omega) hv (by simp);simpa using this
theorem Zvz {sz n:Nat} {z:α} (h1:n*sz<=70368744177664) (h2:n<=9223372036854775807):mkI sz (n:Int) z=some (List.replicate n z):=by
 simp[mkI,h1,h2]
theorem Ke {sz:Nat} {xs ys:List α} (h1:(xs.length+ys.length)*sz<=140737488355328) (h2:xs.length+ys.length<=9223372036854775807):Wd sz xs ys=some (xs++ys):=by
 unfold Wd;rw[ZZj ⟨h1,h2⟩]
end
section
variable {α:Type}
theorem Wx (xs:List α) (i:Int) (a:α):W7 xs i a=some (xs.set i.toNat a):=rfl
def atI [Inhabited α] (xs:List α) (i:Int):α:=xs.getD i.toNat default
theorem Ql [Inhabited α] {xs:List α} {k:Nat} (h:k < xs.length):atI xs (k:Int)=xs[k]:=by
 simp[atI,h]
theorem Xp [Inhabited α] {xs:List α} {i:Int} (h0:0<=i) (h1:i < (xs.length:Int)):idx xs i=some (atI xs i):=by
 obtain⟨k,rfl⟩:∃k:Nat,i=k:=⟨i.toNat,by omega⟩;have hk:k < xs.length:=by omega
 rw[Xu hk,Ql hk]
theorem Zj3 [Inhabited α] {xs:List α} {i:Int} (h0:0<=i) (h1:i < (xs.length:Int)):atI xs i∈xs:=by
 obtain⟨k,rfl⟩:∃k:Nat,i=k:=⟨i.toNat,by omega⟩;have hk:k < xs.length:=by omega
 rw[Ql hk];exact Vas hk
theorem Zpa [Inhabited α] {xs:List α} {i:Int} (a:α) (h0:0<=i) (h1:i < (xs.length:Int)):atI (xs.set i.toNat a) i=a:=by
 obtain⟨k,rfl⟩:∃k:Nat,i=k:=⟨i.toNat,by omega⟩;have hk:k < xs.length:=by omega
 rw[Ql (by simpa using hk)];simp
theorem Yk1 [Inhabited α] {xs:List α} {i j:Int} (a:α) (h0:0<=i) (h1:0<=j) (hn:i≠j):atI (xs.set i.toNat a) j=atI xs j:=by
 unfold atI;rw[Vaw,Vaw,List.getElem?_set_ne (by omega)]
theorem Zwp {n:Int} (h:n≠0):nzI n=some ():=by unfold nzI;rw[ZZi h]
theorem Y1y {n:Int} (h:0<=n):nnI n=some ():=by unfold nnI;rw[ZZj h]
theorem Zei {a n:Int} (h0:0<=a):Za1 a n=a % n:=by unfold Za1;rw[Int.tmod_eq_emod_of_nonneg h0]
theorem Yan {a n:Int} (h0:0<=a) (h1:a < 9223372036854775808) (hn:1<=n):Zsy a n=a / n:=by
 unfold Zsy;rw[Int.tdiv_eq_ediv_of_nonneg h0];have h2:0<=a / n:=Int.ediv_nonneg h0 (by omega);have h3:a / n<=a:=Int.ediv_le_self n h0;exact Zyr (by omega) (by omega)
theorem Yhm (xs:List α) (hl:xs.length < 4611686018427387904) (f:α->Option Bool) (q:α->Bool) (hf:∀a∈xs,f a=some (!q a)) (L:Nat->Int->Option Int)
  (hL:∀m i,L (m+1) i=if decide (i < (xs.length:Int))=true then (idx xs i).bind λa=>(f a).bind λr=>if r=true then some i else L m (Zt i 1) else some (-1)):
  (xs.all q=true/\L FU 0=some (-1))\/∃k:Nat,∃h:k < xs.length,L FU 0=some (k:Int)/\q xs[k]=false/\(xs.take k).all q=true:=by
 have key:∀(m k:Nat),k<=xs.length->xs.length - k < m->(xs.take k).all q=true->(xs.all q=true/\L m k=some (-1))\/∃j:Nat,∃h:j < xs.length,L m k=some (j:Int)/\q xs[j]=false/\(xs.take j).all q=true:=by
  intro m
  induction m with
  | zero=>intro k _ h;omega
  | succ m ih=>
   intro k hk hm ht;rw[hL];by_cases hc:k < xs.length
   .have h1:decide ((k:Int) < (xs.length:Int))=true:=by simpa using hc
    rw[ZZj h1,Xu hc,ZZa,hf _ (Vas hc),ZZa];by_cases hq:q xs[k]=true
    .have h2:¬(!q xs[k])=true:=by simp[hq]
     rw[ZZi h2,Wp (by omega)];refine ih (k+1) (by omega) (by omega) ?_;rw[List.take_succ_eq_append_getElem hc,List.all_append,ht];simp[hq]
    .have h2:(!q xs[k])=true:=by simpa using hq
     rw[ZZj h2];exact .inr ⟨k,hc,rfl,by simpa using hq,ht⟩
   .have h1:¬decide ((k:Int) < (xs.length:Int))=true:=by simpa using hc
    rw[ZZi h1];rw[Vbh (by omega)] at ht;exact .inl ⟨ht,rfl⟩
 exact key FU 0 (Vbl _) (by have:=Kq;omega) (by simp)
theorem Z0x (xs:List α) (hl:xs.length < 4611686018427387904) (f:α->Option Bool) (q:α->Bool) (hf:∀a∈xs,f a=some (!q a)) (L:Nat->Int->Option Int)
  (hL:∀m i,L (m+1) i=if decide (i < (xs.length:Int))=true then (idx xs i).bind λa=>(f a).bind λr=>if r=true then some i else L m (Zt i 1) else some (-1)):
  ((L FU 0).bind λr=>some (decide (r≥0)))=some (!xs.all q):=by
 rcases Yhm xs hl f q hf L hL with⟨h1,h2⟩|⟨k,hk,h1,h2,h3⟩
 .rw[h2,h1];rfl
 .rw[h1,ZZa]
  have:xs.all q=false:=by
   rw[List.all_eq_false];exact⟨xs[k],Vas hk,by simp[h2]⟩
  rw[this];have h4:((k:Nat):Int)≥0:=by omega
  simp[h4]
theorem Ytf (xs:List α) (z:α) (hl:xs.length < 4611686018427387904) (f:α->Option Bool) (q:α->Bool) (hf:∀a∈xs,f a=some (!q a)) (I:Nat->Int->Option Int)
  (hI:∀m i,I (m+1) i=if decide (i < (xs.length:Int))=true then (idx xs i).bind λa=>(f a).bind λr=>if r=true then some i else I m (Zt i 1) else some (-1))
  (L:Nat->List α->Int->Int->Option (List α))
  (hL:∀m v i j,L (m+1) v i j=if decide (j < (v.length:Int))=true then (idx v j).bind λa=>(f a).bind λr=>if (!r)=true then (idx v i).bind λ_=>(W7 v i a).bind λy=>L m y (Zt i 1) (Zt j 1) else L m v i (Zt j 1)
   else (Zab v i (v.length:Int)).bind λ_=>(Z25 z v i (v.length:Int)).bind λy=>(Zab y 0 i).bind λs=>some s):
  ((I FU 0).bind λr=>if decide (r=(-1))=true then some xs else L FU xs r (Zt r 1))=some (xs.filter q):=by
 have key:∀(m i j:Nat) (v:List α),i<=j->j<=xs.length->xs.length - j < m->v.length=xs.length->v.take i=(xs.take j).filter q->v.drop j=xs.drop j->L m v i j=some (xs.filter q):=by
  intro m
  induction m with
  | zero=>intro i j v _ _ h;omega
  | succ m ih=>
   intro i j v hij hj hm hv ht hd;rw[hL];by_cases hc:j < v.length
   .have hc2:j < xs.length:=by omega
    have h1:decide ((j:Int) < (v.length:Int))=true:=by simpa using hc
    have e:v[j]=xs[j]:=by
     have:=congrArg List.head? hd;simpa [List.head?_drop,hc,hc2] using this
    have hd2:v.drop (j+1)=xs.drop (j+1):=by
     have:=congrArg (List.drop 1) hd;simpa [List.drop_drop] using this
    rw[ZZj h1,Xu hc,ZZa,e,hf _ (Vas hc2),ZZa,Vej];by_cases hq:q xs[j]=true
    .rw[ZZj hq,Xu (by omega:i < v.length),ZZa]
     simp only[W7,ZZa];rw[Wp (by omega),Wp (by omega)];refine ih (i+1) (j+1) _ (by omega) (by omega) (by omega) (by simp[hv]) ?_ ?_
     .rw[Vcd,List.take_succ_eq_append_getElem (by simpa using (by omega:i < v.length)),List.take_set_of_le (Vav _),ht,List.take_succ_eq_append_getElem hc2,Vc1]
      simp[hq]
     .rw[Vcd,List.drop_set_of_lt (by omega),hd2]
    .rw[ZZi hq,Wp (by omega)]
     refine ih i (j+1) v (by omega) (by omega) (by omega) hv ?_ hd2;rw[ht,List.take_succ_eq_append_getElem hc2,Vc1];simp[hq]
   .have h1:¬decide ((j:Int) < (v.length:Int))=true:=by simpa using hc
    have hjx:j=xs.length:=by omega
    rw[ZZi h1];have h2:Zab v (i:Int) (v.length:Int)=some ((v.drop i).take (v.length - i)):=by
     unfold Zab;rw[ZZj ⟨by omega,by omega,by omega⟩];simp
    have h3:Z25 z v (i:Int) (v.length:Int)=some (v.take i++List.replicate (v.length - i) z++v.drop v.length):=by
     unfold Z25;have:(i:Int).toNat+((v.length:Int).toNat - (i:Int).toNat)=v.length:=by omega
     rw[ZZj (by omega),this];simp
    rw[h2,ZZa,h3,ZZa];have h4:Zab (v.take i++List.replicate (v.length - i) z++v.drop v.length) 0 (i:Int)=some (v.take i):=by
     unfold Zab;rw[ZZj ⟨by omega,by omega,by simp;omega⟩];have:(v.take i).length=i:=by rw[Vbu];omega
     simp[List.append_assoc,List.take_append,this]
    rw[h4,ZZa,ht,hjx,Vbx]
 rcases Yhm xs hl f q hf I hI with⟨h1,h2⟩|⟨k,hk,h1,h2,h3⟩
 .rw[h2,ZZa,ZZj (by decide)]
  congr 1
  exact (List.filter_eq_self.2 (λa ha=>ZZk.1 h1 a ha)).symm
 .rw[h1,ZZa,ZZi (by simp),Wp (by omega)]
  refine key FU k (k+1) xs (by omega) (by omega) (by have:=Kq;omega) rfl ?_ rfl;rw[List.take_succ_eq_append_getElem hk,Vc1,List.filter_eq_self.2 (λa ha=>ZZk.1 h3 a ha)];simp[h2]
theorem Ykf (sz:Nat) (hz:sz<=1024) (xs:List α) (hl:xs.length < 1048577) (f:α->Option α) (hf:∀a∈xs,f a=some a) {ρ:Type} (fin:List α->Option ρ) (L:Nat->List α->Int->Option ρ)
  (hL:∀m v i,L (m+1) v i=if decide (i < (xs.length:Int))=true then (idx xs i).bind λa=>(f a).bind λb=>(Wd sz v [b]).bind λz=>L m z (Zt i 1) else fin v):L FU [] 0=fin xs:=by
 have key:∀(m k:Nat),k<=xs.length->xs.length - k < m->L m (xs.take k) k=fin xs:=by
  intro m
  induction m with
  | zero=>intro k _ h;omega
  | succ m ih=>
   intro k hk hm;rw[hL];by_cases hc:k < xs.length
   .have h1:decide ((k:Int) < (xs.length:Int))=true:=by simpa using hc
    have Yo:(xs.take k).length=k:=by rw[Vbu];omega
    have hb:(k+1)*sz<=140737488355328:=Vb5 (Nat.mul_le_mul (by omega:k+1<=1048577) hz) (by decide);rw[ZZj h1,Xu hc,ZZa,hf _ (Vas hc),ZZa,Ke (by simpa [Yo] using hb) (by simp[Yo];omega),ZZa,Wp (by omega),<-List.take_succ_eq_append_getElem hc];exact ih (k+1) (by omega) (by omega)
   .have h1:¬decide ((k:Int) < (xs.length:Int))=true:=by simpa using hc
    rw[ZZi h1,Vbh (by omega)]
 have:=key FU 0 (Vbl _) (by have:=Kq;omega);simpa using this
end
theorem Y5y (bs:ByteArray):∀(n i:Nat) (r:List UInt8),bs.size - i=n->ByteArray.toList.loop bs i r=r.reverse++bs.data.toList.drop i:=by
 intro n
 induction n with
 | zero=>
  intro i r h;unfold ByteArray.toList.loop;have hs:bs.data.toList.length=bs.size:=rfl;rw[ZZi (by omega),Va9 (by omega)];simp
 | succ n ih=>
  intro i r h;unfold ByteArray.toList.loop;have hs:bs.data.toList.length=bs.size:=rfl;have hi:i < bs.data.toList.length:=by omega
  rw[ZZj (by omega),ih (i+1) _ (by omega),Va4 hi];have:bs.get! i=bs.data.toList[i]:=by
   have hi2:i < bs.data.size:=hi;simp[ByteArray.get!,getElem!_def,Vae hi2]
  rw[this];simp
theorem Ykx (bs:ByteArray):bs.toList=bs.data.toList:=by
 unfold ByteArray.toList;rw[Y5y bs _ 0 [] rfl];simp
theorem Yd8 {β:Type} {c:Prop} [Decidable c] {x:β}:(if c then x else x)=x:=by split<;>rfl
theorem Zfp {σ ρ:Type} {n:Nat} (hn:n < 4611686018427387904) (st:Nat->σ) {B:(σ->Int->ρ)->σ->Int->ρ} {L:Nat->σ->Int->ρ} (hL:∀m s i,L (m+1) s i=B (L m) s i)
  (hs:∀k,k < n->∀κ,B κ (st k) (k:Int)=κ (st (k+1)) (Zt (k:Int) 1)) {r:ρ} (hf:∀κ,B κ (st n) (n:Int)=r):L FU (st 0) 0=r:=by
 have key:∀(m k:Nat),k<=n->n - k < m->L m (st k) (k:Int)=r:=by
  intro m
  induction m with
  | zero=>intro k _ h;omega
  | succ m ih=>
   intro k hk hm;rw[hL];by_cases hc:k < n
   .rw[hs k hc,Wp (by omega)]
    exact ih (k+1) (by omega) (by omega)
   .have:k=n:=by omega
    subst this;exact hf _
 have:=key FU 0 (Vbl _) (by have:=Kq;omega);simpa using this
theorem Ypn {ρ:Type} {n:Nat} (hn:n < 4611686018427387904) {B:(Int->ρ)->Int->ρ} {L:Nat->Int->ρ} (hL:∀m i,L (m+1) i=B (L m) i)
  (hs:∀k,k < n->∀κ,B κ (k:Int)=κ (Zt (k:Int) 1)) {r:ρ} (hf:∀κ,B κ (n:Int)=r):L FU 0=r:=
 Zfp (σ:=Unit) hn (λ_=>()) (B:=λκ _ i=>B (κ ()) i) (L:=λm _ i=>L m i) (λm _ i=>hL m i) (λk hk κ=>hs k hk _) λκ=>hf _
theorem Z1r {k:Int} (h0:0<=k) (h1:k < 1152921504606846976):w1 k=k+1:=by
 simp[w1,IntKind.wrap,IntKind.bits,IntKind.signed];omega
theorem Zyk {k:Int}:Zt k 1=w1 k:=rfl
theorem Z8n {k:Int}:decide (Za1 k 3=0)=b3 k:=rfl
def Inc {α:Type} (f:α->Int->α×Int) (w:α->Nat):Prop:=∀x k,0<=k->k+(w x:Int)<=1152921504606846976->(f x k).2=k+(w x:Int)
def Kw {α:Type} (w:α->Nat) (l:List α):Nat:=(l.map w).sum
section
variable {α:Type} {f:α->Int->α×Int} {w:α->Nat}
theorem Zm1 {x:α} {l:List α}:Kw w (x::l)=w x+Kw w l:=by simp[Kw]
theorem Yuv (hf:Inc f w):∀{j:Nat} {l:List α} {k:Int},0<=k->k+(Kw w l:Int)<=1152921504606846976->(mkN f j l k).2=k+(Kw w (l.take j):Int):=by
 intro j
 induction j with
 | zero=>intro l k _ _;simp[mkN,Kw]
 | succ j ih=>
  intro l k h0 h1;cases l with
  | nil=>simp[mkN,Kw]
  | cons x l=>
   rw[Zm1] at h1;have e:=hf x k h0 (by omega);simp only[mkN,Vdo,Zm1];rw[ih (by rw[e];omega) (by rw[e];omega),e];omega
theorem Zqy (hf:Inc f w) {l:List α} {k:Int} (h0:0<=k) (h1:k+(Kw w l:Int)<=1152921504606846976):(mkL f l k).2=k+(Kw w l:Int):=by
 rw[<-Yaj,Yuv hf h0 h1,Vbx]
theorem Y5d {l:List α} {k:Int}:(mkL f l k).1.length=l.length:=by rw[<-Yaj,Yu4]
theorem Y53:∀{j:Nat} {l:List α} {k:Int} {x:α},l[j]?=some x->(mkL f l k).1[j]?=some (f x (mkN f j l k).2).1/\(mkN f (j+1) l k).2=(f x (mkN f j l k).2).2:=by
 intro j
 induction j with
 | zero=>
  intro l k x h;cases l with
  | nil=>simp at h
  | cons y l=>
   have e:y=x:=by simpa using h
   subst e;exact⟨rfl,rfl⟩
 | succ j ih=>
  intro l k x h;cases l with
  | nil=>simp at h
  | cons y l=>
   obtain⟨h1,h2⟩:=ih (l:=l) (k:=(f y k).2) (x:=x) (by simpa using h);exact⟨by simpa [mkL,mkN] using h1,by simpa [mkN] using h2⟩
theorem Y47 {l:List α} {j:Nat} {x:α} (h:l[j]?=some x):Kw w (l.take j)+w x<=Kw w l:=by
 induction l generalizing j with
 | nil=>simp at h
 | cons y l ih=>
  cases j with
  | zero=>
   have e:y=x:=by simpa using h
   subst e;rw[Zm1];simp[Kw]
  | succ j=>
   have:=ih (j:=j) (by simpa using h);rw[Vdo,Zm1,Zm1];omega
theorem Zqs (hf:Inc f w) (l:List α) (k:Int) (hl:l.length < 1048577) (h0:0<=k) (h1:k+(Kw w l:Int)<=1152921504606846976) {B:(Int->Int->Option Int)->Int->Int->Option Int} {L:Nat->Int->Int->Option Int} (hL:∀m s i,L (m+1) s i=B (L m) s i)
  (step:∀(κ:Int->Int->Option Int) (j:Nat) (x:α) (c:Int),(hj:j < (mkL f l k).1.length)->x∈l->0<=c->c+(w x:Int)<=1152921504606846976->(mkL f l k).1[j]=(f x c).1->B κ c (j:Int)=κ (f x c).2 (Zt (j:Int) 1))
  (fin:∀(κ:Int->Int->Option Int) (c:Int),B κ c ((mkL f l k).1.length:Int)=some c):L FU k 0=some (mkL f l k).2:=by
 have hn:(mkL f l k).1.length=l.length:=Y5d;refine Zfp (n:=(mkL f l k).1.length) (by omega) (λj=>(mkN f j l k).2) hL (λj hj κ=>?_) (λκ=>?_)
 .have hx:l[j]?=some (l[j]'(by omega)):=Vab (by omega)
  obtain⟨e1,e2⟩:=Y53 (f:=f) (k:=k) hx;have e3:(mkL f l k).1[j]=(f (l[j]'(by omega)) (mkN f j l k).2).1:=by
   rw[Vab hj] at e1;injection e1
  have e4:=Yuv hf (j:=j) h0 h1;have e5:=Y47 (w:=w) hx;rw[e2];exact step κ j _ _ hj (Vas _) (by rw[e4];omega) (by rw[e4];omega) e3
 .rw[hn,Yaj,<-hn];exact fin κ _
end
theorem Zmc {α:Type} (n:Nat) (l:List α):Kw (λ_=>n) l=n*l.length:=by
 induction l with
 | nil=>rfl
 | cons x l ih=>rw[Zm1,ih,Vag,Nat.mul_succ];omega
theorem Yve:Inc Yd (λ_=>1):=λx k h0 h1=>by
 have h2:k+1<=1152921504606846976:=h1;simp only[Yd];simp (discharger:=omega) only[Z1r];rfl
theorem Ypw:Inc Zbe (λ_=>7):=λx k h0 h1=>by
 have h2:k+7<=1152921504606846976:=h1;show _=k+7;simp only[Zbe];simp (discharger:=omega) only[Z1r];omega
theorem Yf1:Inc Xa (λ_=>2):=λx k h0 h1=>by
 have h2:k+2<=1152921504606846976:=h1;show _=k+2;simp only[Xa];simp (discharger:=omega) only[Z1r];omega
theorem Yky:Inc Jt (λ_=>4):=λx k h0 h1=>by
 have h2:k+4<=1152921504606846976:=h1;show _=k+4;simp only[Jt];simp (discharger:=omega) only[Z1r];omega
def Z2q (r:Zf):Nat:=5+r.data_.length
theorem Zgb {l:List Int} {k:Int} (h0:0<=k) (h1:k+(l.length:Int)<=1152921504606846976):(mkL Yd l k).2=k+(l.length:Int):=by
 have e:=Zmc (α:=Int) 1 l;have:=Zqy Yve (l:=l) h0 (by rw[e];omega);rw[this,e];omega
theorem Yip:Inc Kj Z2q:=λx k h0 h1=>by
 have h2:k+5+(x.data_.length:Int)<=1152921504606846976:=by unfold Z2q at h1;omega
 simp only[Kj];simp (discharger:=omega) only[Z1r];rw[Zgb (by omega) (by omega)];unfold Z2q;omega
def Zhr (m:Zb):Nat:=Kw Z2q m.queue+5
theorem Yu9:Inc Wj Zhr:=λx k h0 h1=>by
 have h2:k+(Kw Z2q x.queue:Int)+5<=1152921504606846976:=by unfold Zhr at h1;omega
 have e:=Zqy Yip (l:=x.queue) h0 (by omega);simp only[Wj,e];simp (discharger:=omega) only[Z1r];unfold Zhr;omega
theorem Zsm (l:List Int) (k:Int) (hl:l.length < 1048577) (h0:0<=k) (h1:k+(l.length:Int)<=1152921504606846976):Zc8 (mkL Yd l k).1 k=some (mkL Yd l k).2:=by
 unfold Zc8;refine Zqs Yve l k hl h0 (by rw[Zmc];omega) (B:=λκ st j=>Zhm (mkL Yd l k).1 k κ st j) (λm s i=>rfl) (λκ j x c hj hx hc hm e=>?_) (λκ c=>?_)
 .unfold Zhm
  rw[ZZj (by simpa using hj),Xu hj,ZZa,e];simp[Yd,Zyk]
 .unfold Zhm
  rw[ZZi (by simp)]
theorem Ysq (l:List Zm) (k:Int) (hl:l.length < 1048577) (h0:0<=k) (h1:k+7*(l.length:Int)<=1152921504606846976):Zpp (mkL Zbe l k).1 k=some (mkL Zbe l k).2:=by
 unfold Zpp;refine Zqs Ypw l k hl h0 (by rw[Zmc];omega) (B:=λκ st j=>Zf9 (mkL Zbe l k).1 k κ st j) (λm s i=>rfl) (λκ j x c hj hx hc hm e=>?_) (λκ c=>?_)
 .unfold Zf9
  rw[ZZj (by simpa using hj),Xu hj,ZZa,e]
  try simp only[Z8n]
  simp[Zbe,Zyk]
 .unfold Zf9
  rw[ZZi (by simp)]
theorem Yl8 (l:List Zc) (k:Int) (hl:l.length < 1048577) (h0:0<=k) (h1:k+2*(l.length:Int)<=1152921504606846976):Zll (mkL Xa l k).1 k=some (mkL Xa l k).2:=by
 unfold Zll;refine Zqs Yf1 l k hl h0 (by rw[Zmc];omega) (B:=λκ st j=>Zdy (mkL Xa l k).1 k κ st j) (λm s i=>rfl) (λκ j x c hj hx hc hm e=>?_) (λκ c=>?_)
 .unfold Zdy
  rw[ZZj (by simpa using hj),Xu hj,ZZa,e]
  try simp only[Z8n]
  simp[Xa,Zyk]
 .unfold Zdy
  rw[ZZi (by simp)]
theorem Ypp (l:List Zd) (k:Int) (hl:l.length < 1048577) (h0:0<=k) (h1:k+4*(l.length:Int)<=1152921504606846976):Znt (mkL Jt l k).1 k=some (mkL Jt l k).2:=by
 unfold Znt;refine Zqs Yky l k hl h0 (by rw[Zmc];omega) (B:=λκ st j=>Zfc (mkL Jt l k).1 k κ st j) (λm s i=>rfl) (λκ j x c hj hx hc hm e=>?_) (λκ c=>?_)
 .unfold Zfc
  rw[ZZj (by simpa using hj),Xu hj,ZZa,e]
  try simp only[Z8n]
  simp[Jt,Zyk]
 .unfold Zfc
  rw[ZZi (by simp)]
theorem Ywz (l:List Zf) (k:Int) (hl:l.length < 1048577) (hd:∀r∈l,r.data_.length < 1048577) (h0:0<=k) (h1:k+(Kw Z2q l:Int)<=1152921504606846976):Zsz (mkL Kj l k).1 k=some (mkL Kj l k).2:=by
 unfold Zsz;refine Zqs Yip l k hl h0 h1 (B:=λκ st j=>Zhg (mkL Kj l k).1 k κ st j) (λm s i=>rfl) (λκ j x c hj hx hc hm e=>?_) (λκ c=>?_)
 .have h2:c+5+(x.data_.length:Int)<=1152921504606846976:=by unfold Z2q at hm;omega
  have e5:w1 (w1 (w1 (w1 (w1 c))))=c+5:=by
   simp (discharger:=omega) only[Z1r];omega
  have e6:=Zgb (l:=x.data_) (k:=c+5) (by omega) (by omega);have e7:=Zsm x.data_ (c+5) (hd x hx) (by omega) (by omega);unfold Zhg;rw[ZZj (by simpa using hj),Xu hj,ZZa,e];have e8:Zt (Zt (Zt (Zt (Zt c 1) 1) 1) 1) 1=c+5:=e5
  try simp only[Z8n]
  simp only[Kj,e8,e5,e7,ZZa,e6];rw[ZZi (show ¬decide (c+5+(x.data_.length:Int) < 0)=true by simp;omega)];simp[Zyk]
 .unfold Zhg
  rw[ZZi (by simp)]
theorem Yxd (l:List Zb) (k:Int) (hl:l.length < 1048577) (hd:∀m∈l,m.queue.length < 1048577/\∀r∈m.queue,r.data_.length < 1048577) (h0:0<=k) (h1:k+(Kw Zhr l:Int)<=1152921504606846976):Ztf (mkL Wj l k).1 k=some (mkL Wj l k).2:=by
 unfold Ztf;refine Zqs Yu9 l k hl h0 h1 (B:=λκ st j=>Zhn (mkL Wj l k).1 k κ st j) (λm s i=>rfl) (λκ j x c hj hx hc hm e=>?_) (λκ c=>?_)
 .have h2:c+(Kw Z2q x.queue:Int)+5<=1152921504606846976:=by unfold Zhr at hm;omega
  have e6:=Zqy Yip (l:=x.queue) (k:=c) hc (by omega);have e7:=Ywz x.queue c (hd x hx).1 (hd x hx).2 hc (by omega);unfold Zhn;rw[ZZj (by simpa using hj),Xu hj,ZZa,e]
  try simp only[Z8n]
  simp only[Wj,e7,ZZa];rw[ZZi (show ¬decide ((mkL Kj x.queue c).2 < 0)=true by rw[e6];simp;omega)];simp[Zyk]
 .unfold Zhn
  rw[ZZi (by simp)]
end Go.Proofs.YtagdmghmblplbaaGreat.Ev
namespace Go.Proofs.YtagdmghmblplbaaGreat.Ev
open Go Go.Proofs Go.RowKit KM
theorem Zu9 {a:Int} (h:0<=a):decide (a < 0)=false:=by simp;omega
theorem dlt_t {a:Int} (h:a < 0):decide (a < 0)=true:=by simpa using h
theorem dne_f {a:Int}:decide (a≠a)=false:=by simp
theorem Yme {a:Bool} (h:a=false):(a == false)=true:=by rw[h];rfl
section
variable [Anchor]
theorem Z5b (x0:Za) (x1:Zi) {l0:Int}  (hc0:Zv3 x0 1048576=some l0) (hn1:l0 < 0):Zu Tryz.prog Mo (5,[.agg (Za.enc x0),.agg (Zi.enc x1)],.lit (.bool true),[.undef,.undef]):=by
 refine Ynx fOk (fn:=Tryz.f5) (c:=Xl Tryz.f5) (rt:=4) (b:=true) (xs:=[.agg (Za.enc x0),.agg (Zi.enc x1)]) (by kernel_rfl) (by kernel_rfl) (by kernel_rfl) (by kernel_rfl) (by rfl) (of_decide_eq_true (by kernel_rfl)) ?_;exact Zbb (M:=Mo) fOk 300 [.res (Zd6 x0 1048576 l0).2.2.1 (Zd6 x0 1048576 l0).2.2.2,.t true]
  (p:=(Zu Tryz.prog Mo (Zd6 x0 1048576 l0))/\((decide (l0 < 0))=true)/\(True))
  ⟨Z7a hc0,(dlt_t hn1),trivial⟩ (ts:=[4]) (ks:=[]) (e:=.ret) (vs:=[.lit (.bool true)]) (bs:=[]) (by kernel_rfl) (λs h1 _=>⟨rfl,by simpa using h1⟩)
theorem Z5s (x0:Za) (x1:Zi) {l0 l1:Int}  (hc0:Zv3 x0 1048576=some l0) (hz1:0<=l0) (hc2:Zs7 x1 l0=some l1) (hn3:l1 < 0):Zu Tryz.prog Mo (5,[.agg (Za.enc x0),.agg (Zi.enc x1)],.lit (.bool true),[.undef,.undef]):=by
 refine Ynx fOk (fn:=Tryz.f5) (c:=Xl Tryz.f5) (rt:=4) (b:=true) (xs:=[.agg (Za.enc x0),.agg (Zi.enc x1)]) (by kernel_rfl) (by kernel_rfl) (by kernel_rfl) (by kernel_rfl) (by rfl) (of_decide_eq_true (by kernel_rfl)) ?_;exact Zbb (M:=Mo) fOk 300 [.res (Zd6 x0 1048576 l0).2.2.1 (Zd6 x0 1048576 l0).2.2.2,.t false,.res (Zeq x1 l0 l1).2.2.1 (Zeq x1 l0 l1).2.2.2,.t true]
  (p:=(Zu Tryz.prog Mo (Zd6 x0 1048576 l0))/\((decide (l0 < 0))=false)/\(Zu Tryz.prog Mo (Zeq x1 l0 l1))/\((decide (l1 < 0))=true)/\(True))
  ⟨Z7a hc0,(Zu9 hz1),Z7j hc2,(dlt_t hn3),trivial⟩ (ts:=[4]) (ks:=[]) (e:=.ret) (vs:=[.lit (.bool true)]) (bs:=[]) (by kernel_rfl) (λs h1 _=>⟨rfl,by simpa using h1⟩)
theorem Z8e (x0:Za) (x1:Zi) {l0 l1:Int} (v0:Za) (v1:Zp) (hc0:Zv3 x0 1048576=some l0) (hz1:0<=l0) (hc2:Zs7 x1 l0=some l1) (hz3:0<=l1) (hc4:Z1e x0=some x0) (hc5:Zs2 x1=some x1) (hc6:Zu7 x0 x1=some (v0,v1)) (hc7:Zut x0 x1=some (v0,v1)) (hc8:Zqz v0 v0=some true) (hc9:Zxz v1 v1=some true) (hc10:Zqz x0 x0=some true) (hc11:Zri x1 x1=some true) (hm12:x0.mok) (hm13:x1.mok) (Yrc:0<=(Kv x1 ((Xb x0 1).2)).2) (hm15:v0.mok) (hc16:Zph ((Xb v0 1).1) 1=some ((Xb v0 1).2)) (hz17:0<=(Xb v0 1).2):Zu Tryz.prog Mo (5,[.agg (Za.enc x0),.agg (Zi.enc x1)],.lit (.bool true),[.undef,.undef]):=by
 refine Ynx fOk (fn:=Tryz.f5) (c:=Xl Tryz.f5) (rt:=4) (b:=true) (xs:=[.agg (Za.enc x0),.agg (Zi.enc x1)]) (by kernel_rfl) (by kernel_rfl) (by kernel_rfl) (by kernel_rfl) (by rfl) (of_decide_eq_true (by kernel_rfl)) ?_;exact Zbb (M:=Mo) fOk 300 [.res (Zd6 x0 1048576 l0).2.2.1 (Zd6 x0 1048576 l0).2.2.2,.t false,.res (Zeq x1 l0 l1).2.2.1 (Zeq x1 l0 l1).2.2.2,.t false,.res (Zax x0 x0).2.2.1 (Zax x0 x0).2.2.2,.res (Qy x1 x1).2.2.1 (Qy x1 x1).2.2.2,.res (Zpk x0 x1 ((v0,v1))).2.2.1 (Zpk x0 x1 ((v0,v1))).2.2.2,.res (Zax x0 x0).2.2.1 (Zax x0 x0).2.2.2,.res (Qy x1 x1).2.2.1 (Qy x1 x1).2.2.2,.res (Zeb x0 x1 ((v0,v1))).2.2.1 (Zeb x0 x1 ((v0,v1))).2.2.2,.res (Zau v0 v0 true).2.2.1 (Zau v0 v0 true).2.2.2,.k,.k,.k,.res (Zcq v1 v1 true).2.2.1 (Zcq v1 v1 true).2.2.2,.k,.k,.k,.res (Zax x0 x0).2.2.1 (Zax x0 x0).2.2.2,.res (Zau x0 x0 true).2.2.1 (Zau x0 x0 true).2.2.2,.k,.res (Qy x1 x1).2.2.1 (Qy x1 x1).2.2.2,.res (Ztk x1 x1 true).2.2.1 (Ztk x1 x1 true).2.2.2,.k,.res (.lit (.int .i64 (Xb x0 1).2)) (Za.enc (Xb x0 1).1),.res (.lit (.int .i64 (Kv x1 ((Xb x0 1).2)).2)) (Zi.enc (Kv x1 ((Xb x0 1).2)).1),.t true,.t true,.t true,.res (Zau v0 v0 true).2.2.1 (Zau v0 v0 true).2.2.2,.t true,.t false,.k,.k,.k,.res (Zcq v1 v1 true).2.2.1 (Zcq v1 v1 true).2.2.2,.k,.k,.k,.res (.lit (.int .i64 (Xb v0 1).2)) (Za.enc (Xb v0 1).1),.res (Zgx ((Xb v0 1).1) 1 ((Xb v0 1).2)).2.2.1 (Zgx ((Xb v0 1).1) 1 ((Xb v0 1).2)).2.2.2,.t false,.t false,.res (Zax x0 x0).2.2.1 (Zax x0 x0).2.2.2,.res (Qy x1 x1).2.2.1 (Qy x1 x1).2.2.2,.res (Zeb x0 x1 ((v0,v1))).2.2.1 (Zeb x0 x1 ((v0,v1))).2.2.2,.res (Zau v0 v0 true).2.2.1 (Zau v0 v0 true).2.2.2,.k,.k,.k,.res (Zcq v1 v1 true).2.2.1 (Zcq v1 v1 true).2.2.2,.k,.k,.k,.res (Zgx ((Xb v0 1).1) 1 ((Xb v0 1).2)).2.2.1 (Zgx ((Xb v0 1).1) 1 ((Xb v0 1).2)).2.2.2,.t false,.t false]
  (p:=(Zu Tryz.prog Mo (Zd6 x0 1048576 l0))/\((decide (l0 < 0))=false)/\(Zu Tryz.prog Mo (Zeq x1 l0 l1))/\((decide (l1 < 0))=false)/\(Zu Tryz.prog Mo (Zax x0 x0))/\(Zu Tryz.prog Mo (Qy x1 x1))/\(Zu Tryz.prog Mo (Zpk x0 x1 ((v0,v1))))/\(Zu Tryz.prog Mo (Zax x0 x0))/\(Zu Tryz.prog Mo (Qy x1 x1))/\(Zu Tryz.prog Mo (Zeb x0 x1 ((v0,v1))))/\(Zu Tryz.prog Mo (Zau v0 v0 true))/\(Zu Tryz.prog Mo (Zcq v1 v1 true))/\(Zu Tryz.prog Mo (Zax x0 x0))/\(Zu Tryz.prog Mo (Zau x0 x0 true))/\(Zu Tryz.prog Mo (Qy x1 x1))/\(Zu Tryz.prog Mo (Ztk x1 x1 true))/\(Qx Tryz.prog 28 true (Za.enc x0) (Za.enc (Xb x0 1).1) 1 (Xb x0 1).2)/\(Qx Tryz.prog 27 true (Zi.enc x1) (Zi.enc (Kv x1 ((Xb x0 1).2)).1) ((Xb x0 1).2) (Kv x1 ((Xb x0 1).2)).2)/\(((decide ((Kv x1 ((Xb x0 1).2)).2 < 0)) == false)=true)/\(((decide ((Kv x1 ((Xb x0 1).2)).2 < 0)) == false)=true)/\(((decide ((Kv x1 ((Xb x0 1).2)).2 < 0)) == false)=true)/\(Zu Tryz.prog Mo (Zau v0 v0 true))/\(((decide ((Kv x1 ((Xb x0 1).2)).2 < 0)) == false)=true)/\((decide ((Kv x1 ((Xb x0 1).2)).2 < 0))=false)/\(Zu Tryz.prog Mo (Zcq v1 v1 true))/\(Qx Tryz.prog 28 true (Za.enc v0) (Za.enc (Xb v0 1).1) 1 (Xb v0 1).2)/\(Zu Tryz.prog Mo (Zgx ((Xb v0 1).1) 1 ((Xb v0 1).2)))/\((decide ((Xb v0 1).2 < 0))=false)/\((decide ((Xb v0 1).2≠(Xb v0 1).2))=false)/\(Zu Tryz.prog Mo (Zax x0 x0))/\(Zu Tryz.prog Mo (Qy x1 x1))/\(Zu Tryz.prog Mo (Zeb x0 x1 ((v0,v1))))/\(Zu Tryz.prog Mo (Zau v0 v0 true))/\(Zu Tryz.prog Mo (Zcq v1 v1 true))/\(Zu Tryz.prog Mo (Zgx ((Xb v0 1).1) 1 ((Xb v0 1).2)))/\((decide ((Xb v0 1).2 < 0))=false)/\((decide ((Xb v0 1).2≠(Xb v0 1).2))=false)/\(True))
  ⟨Z7a hc0,(Zu9 hz1),Z7j hc2,(Zu9 hz3),Z0y hc4,Zrd hc5,Yre hc6,Z0y hc4,Zrd hc5,Ya7 hc7,Z0u hc8,Z48 hc9,Z0y hc4,Z0u hc10,Zrd hc5,Yn6 hc11,Ygd _ _ hm12,Yl1 _ _ hm13,Yme (Zu9 Yrc),Yme (Zu9 Yrc),Yme (Zu9 Yrc),Z0u hc8,Yme (Zu9 Yrc),(Zu9 Yrc),Z48 hc9,Ygd _ _ hm15,Yb9 hc16,(Zu9 hz17),(dne_f),Z0y hc4,Zrd hc5,Ya7 hc7,Z0u hc8,Z48 hc9,Yb9 hc16,(Zu9 hz17),(dne_f),trivial⟩ (ts:=[4]) (ks:=[]) (e:=.ret) (vs:=[.lit (.bool true)]) (bs:=[]) (by kernel_rfl) (λs h1 _=>⟨rfl,by simpa using h1⟩)
end
end Go.Proofs.YtagdmghmblplbaaGreat.Ev
