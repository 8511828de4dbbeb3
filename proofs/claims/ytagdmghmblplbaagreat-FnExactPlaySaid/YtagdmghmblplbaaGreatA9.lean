/- A part of the proof of FnExactPlay: see the text YtagdmghmblplbaaGreatLawFnExactPlay for what is proved and its conditions. Conditions here: those in each line. -/
import Derived.Test.YtagdmghmblplbaaGreatA8
import Derived.KernelRfl
set_option linter.unusedSimpArgs false
set_option linter.unusedVariables false
set_option linter.unusedSectionVars false
namespace Go.Proofs.YtagdmghmblplbaaGreat.Ev
open Go Go.Proofs Go.RowKit KM
abbrev w1 (k:Int):Int:=IntKind.i64.wrap (k+1)
abbrev b3 (k:Int):Bool:=decide (k.tmod 3=0)
def sqL:Code->Code
 | .seq a _=>a
 | c=>c
def sqR:Code->Code
 | .seq _ b=>b
 | c=>c
def blC:Code->Code
 | .block _ c=>c
 | c=>c
def lpC:Code->Code
 | .loop c=>c
 | c=>c
theorem Zze {i:Nat} (h:i < 1152921504606846976):w1 (i:Int)=((i+1:Nat):Int):=by
 unfold w1;simp[IntKind.wrap,IntKind.bits,IntKind.signed];omega
abbrev rs {α:Type} (e:α->List V) (l:List α) (i:Nat) (r:List V):List (List V):=(l.map e).set i r
abbrev nn (i:Nat):Prop:=Xz (toV (.lit (.int .i64 (i:Int))))=some i
theorem Z0q {α:Type} {e:α->List V} {l:List α} {i:Nat} {a:α} (h:l[i]?=some a):decide ((i:Int) < ((l.map e).length:Int))=true:=by
 have:=(ZZh.1 h).1;simp;omega
theorem Zdo {α:Type} {e:α->List V} {l:List α} {i:Nat} {a:α} (h:l[i]?=some a):(l.map e)[i]?=some (e a):=by
 rw[Va8,h];rfl
section
variable [Anchor]
theorem Yi {α:Type} {e:α->List V} {l:List α} {i:Nat} {a:α} (h:l[i]?=some a) (r:List V):((l.map e).set i r)[i]?=some r:=set_at (Zdo h)
def Yc (_:Int) (k:Int):Int×Int:=(k,w1 k)
def rInt1 (a:Int) (k:Int):List V:=(Zd a).set 0 (.lit (.int .i64 (k)))
theorem Zgq {rows:List (List V)} {i:Nat} {r r':List V}:(rows.set i r).set i r'=rows.set i r':=by rw[Vei]
theorem Yjg {α:Type} {e:α->List V} {l:List α} {i:Nat} {a:α} {r r':List V} (h:e a=r'):((l.map e).set i r).set i r'=(l.set i a).map e:=by rw[Vei,map_set,h]
theorem Zd9 (l:List Int) (k:Int) (hl:l.length<=1152921504606846976):Qx Tryz.prog 57 false [.tr (l.map Zd)] [.tr ((mkL Yc l k).1.map Zd)] k (mkL Yc l k).2:=by
 refine Zqx (M:=Mo) fOk (fn:=Tryz.f57) (r0:=sqL (Xm Tryz.f57)) (r1:=sqL (sqL (sqR (Xm Tryz.f57)))) (body:=lpC (blC (sqR (sqL (sqR (Xm Tryz.f57)))))) (post:=sqR (sqR (Xm Tryz.f57))) (f:=Yc) (by kernel_rfl) (by kernel_rfl) (by kernel_rfl) l k (Qp:=λ_=>True) (λ_ _=>trivial) hl (λts=>by kernel_rfl) (λl k z e ob bk bx u=>by kernel_rfl) (λl k z e ob bk bx u=>by kernel_rfl) (λl k z e i ob bk bx u=>by kernel_rfl) λl i a k z e ob bk bx u h hi hq=>
  Zbn (M:=Mo) fOk 100 [.t true,.row i (Zd a),.put (Zd a) ((l.set i (Yc a k).1).map Zd)]
   (p:=(decide ((i:Int) < ((l.map Zd).length:Int))=true)/\(nn i)/\((l.map Zd)[i]?=some (Zd a))/\((l.map Zd)[i]?=some (Zd a))/\((l.map Zd).set i (rInt1 a k)=((l.set i (Yc a k).1).map Zd))/\True)
   ⟨Z0q h,Xv,Zdo h,Zdo h,map_set.symm,trivial⟩ (ts:=[0,1,5]) (ks:=[0]) (e:=.normal) (vs:=[.ob 0,.lit (.int .i64 (w1 k)),.lit (.int .i64 (w1 (i:Int)))]) (bs:=[some ⟨true,z,e,((l.set i (Yc a k).1).map Zd)⟩]) (by kernel_rfl) (λs h1 h2=>⟨rfl,.of (by rw[h1,Zze hi];rfl) h2⟩)
def Zbg (x:Zr) (k:Int):Zr×Int:=({x with cycle:=k,who:=w1 k,write:=b3 (w1 (w1 k)),addr:=w1 (w1 (w1 k)),size:=w1 (w1 (w1 (w1 k))),value:=w1 (w1 (w1 (w1 (w1 k)))),resp:=w1 (w1 (w1 (w1 (w1 (w1 k)))))},w1 (w1 (w1 (w1 (w1 (w1 (w1 k)))))))
def Zmr (a:Zr) (k:Int):List V:=(Zr.enc a).set 0 (.lit (.int .i64 (k)))
def Znk (a:Zr) (k:Int):List V:=(Zmr a k).set 1 (.lit (.int .i64 (w1 k)))
def Zmq (a:Zr) (k:Int):List V:=(Znk a k).set 2 (.lit (.bool (b3 (w1 (w1 k)))))
def Zmw (a:Zr) (k:Int):List V:=(Zmq a k).set 3 (.lit (.int .i64 (w1 (w1 (w1 k)))))
def Zm0 (a:Zr) (k:Int):List V:=(Zmw a k).set 4 (.lit (.int .i64 (w1 (w1 (w1 (w1 k))))))
def Zmz (a:Zr) (k:Int):List V:=(Zm0 a k).set 5 (.lit (.int .i64 (w1 (w1 (w1 (w1 (w1 k)))))))
def rDone7 (a:Zr) (k:Int):List V:=(Zmz a k).set 6 (.lit (.int .i64 (w1 (w1 (w1 (w1 (w1 (w1 k))))))))
theorem Ypw (l:List Zr) (k:Int) (hl:l.length<=1152921504606846976):Qx Tryz.prog 19 false [.tr (l.map Zr.enc)] [.tr ((mkL Zbg l k).1.map Zr.enc)] k (mkL Zbg l k).2:=by
 refine Zqx (M:=Mo) fOk (fn:=Tryz.f19) (r0:=sqL (Xm Tryz.f19)) (r1:=sqL (sqL (sqR (Xm Tryz.f19)))) (body:=lpC (blC (sqR (sqL (sqR (Xm Tryz.f19)))))) (post:=sqR (sqR (Xm Tryz.f19))) (f:=Zbg) (by kernel_rfl) (by kernel_rfl) (by kernel_rfl) l k (Qp:=λ_=>True) (λ_ _=>trivial) hl (λts=>by kernel_rfl) (λl k z e ob bk bx u=>by kernel_rfl) (λl k z e ob bk bx u=>by kernel_rfl) (λl k z e i ob bk bx u=>by kernel_rfl) λl i a k z e ob bk bx u h hi hq=>
  Zbn (M:=Mo) fOk 100 [.t true,.row i (Zr.enc a),.put (Zr.enc a) (rs Zr.enc l i (Zmr a k)),.row i (Zmr a k),.put (Zmr a k) (rs Zr.enc l i (Znk a k)),.k,.row i (Znk a k),.put (Znk a k) (rs Zr.enc l i (Zmq a k)),.row i (Zmq a k),.put (Zmq a k) (rs Zr.enc l i (Zmw a k)),.row i (Zmw a k),.put (Zmw a k) (rs Zr.enc l i (Zm0 a k)),.row i (Zm0 a k),.put (Zm0 a k) (rs Zr.enc l i (Zmz a k)),.row i (Zmz a k),.put (Zmz a k) ((l.set i (Zbg a k).1).map Zr.enc)]
   (p:=(decide ((i:Int) < ((l.map Zr.enc).length:Int))=true)/\(nn i)/\((l.map Zr.enc)[i]?=some (Zr.enc a))/\((l.map Zr.enc)[i]?=some (Zr.enc a))/\((l.map Zr.enc).set i (Zmr a k)=(rs Zr.enc l i (Zmr a k)))/\(nn i)/\((rs Zr.enc l i (Zmr a k))[i]?=some (Zmr a k))/\((rs Zr.enc l i (Zmr a k))[i]?=some (Zmr a k))/\((rs Zr.enc l i (Zmr a k)).set i (Znk a k)=(rs Zr.enc l i (Znk a k)))/\(nn i)/\((rs Zr.enc l i (Znk a k))[i]?=some (Znk a k))/\((rs Zr.enc l i (Znk a k))[i]?=some (Znk a k))/\((rs Zr.enc l i (Znk a k)).set i (Zmq a k)=(rs Zr.enc l i (Zmq a k)))/\(nn i)/\((rs Zr.enc l i (Zmq a k))[i]?=some (Zmq a k))/\((rs Zr.enc l i (Zmq a k))[i]?=some (Zmq a k))/\((rs Zr.enc l i (Zmq a k)).set i (Zmw a k)=(rs Zr.enc l i (Zmw a k)))/\(nn i)/\((rs Zr.enc l i (Zmw a k))[i]?=some (Zmw a k))/\((rs Zr.enc l i (Zmw a k))[i]?=some (Zmw a k))/\((rs Zr.enc l i (Zmw a k)).set i (Zm0 a k)=(rs Zr.enc l i (Zm0 a k)))/\(nn i)/\((rs Zr.enc l i (Zm0 a k))[i]?=some (Zm0 a k))/\((rs Zr.enc l i (Zm0 a k))[i]?=some (Zm0 a k))/\((rs Zr.enc l i (Zm0 a k)).set i (Zmz a k)=(rs Zr.enc l i (Zmz a k)))/\(nn i)/\((rs Zr.enc l i (Zmz a k))[i]?=some (Zmz a k))/\((rs Zr.enc l i (Zmz a k))[i]?=some (Zmz a k))/\((rs Zr.enc l i (Zmz a k)).set i (rDone7 a k)=((l.set i (Zbg a k).1).map Zr.enc))/\True)
   ⟨Z0q h,Xv,Zdo h,Zdo h,rfl,Xv,Yi h _,Yi h _,Zgq,Xv,Yi h _,Yi h _,Zgq,Xv,Yi h _,Yi h _,Zgq,Xv,Yi h _,Yi h _,Zgq,Xv,Yi h _,Yi h _,Zgq,Xv,Yi h _,Yi h _,Yjg rfl,trivial⟩ (ts:=[0,1,5]) (ks:=[0]) (e:=.normal) (vs:=[.ob 0,.lit (.int .i64 (w1 (w1 (w1 (w1 (w1 (w1 (w1 k)))))))),.lit (.int .i64 (w1 (i:Int)))]) (bs:=[some ⟨true,z,e,((l.set i (Zbg a k).1).map Zr.enc)⟩]) (by kernel_rfl) (λs h1 h2=>⟨rfl,.of (by rw[h1,Zze hi];rfl) h2⟩)
def Y8 (x:Zf) (k:Int):Zf×Int:=({x with tokens:=k,count:=w1 k},w1 (w1 k))
def Zes (a:Zf) (k:Int):List V:=(Zf.enc a).set 0 (.lit (.int .i64 (k)))
def Y2g (a:Zf) (k:Int):List V:=(Zes a k).set 1 (.lit (.int .i64 (w1 k)))
theorem Yiq (l:List Zf) (k:Int) (hl:l.length<=1152921504606846976):Qx Tryz.prog 75 false [.tr (l.map Zf.enc)] [.tr ((mkL Y8 l k).1.map Zf.enc)] k (mkL Y8 l k).2:=by
 refine Zqx (M:=Mo) fOk (fn:=Tryz.f75) (r0:=sqL (Xm Tryz.f75)) (r1:=sqL (sqL (sqR (Xm Tryz.f75)))) (body:=lpC (blC (sqR (sqL (sqR (Xm Tryz.f75)))))) (post:=sqR (sqR (Xm Tryz.f75))) (f:=Y8) (by kernel_rfl) (by kernel_rfl) (by kernel_rfl) l k (Qp:=λ_=>True) (λ_ _=>trivial) hl (λts=>by kernel_rfl) (λl k z e ob bk bx u=>by kernel_rfl) (λl k z e ob bk bx u=>by kernel_rfl) (λl k z e i ob bk bx u=>by kernel_rfl) λl i a k z e ob bk bx u h hi hq=>
  Zbn (M:=Mo) fOk 100 [.t true,.row i (Zf.enc a),.put (Zf.enc a) (rs Zf.enc l i (Zes a k)),.row i (Zes a k),.put (Zes a k) ((l.set i (Y8 a k).1).map Zf.enc)]
   (p:=(decide ((i:Int) < ((l.map Zf.enc).length:Int))=true)/\(nn i)/\((l.map Zf.enc)[i]?=some (Zf.enc a))/\((l.map Zf.enc)[i]?=some (Zf.enc a))/\((l.map Zf.enc).set i (Zes a k)=(rs Zf.enc l i (Zes a k)))/\(nn i)/\((rs Zf.enc l i (Zes a k))[i]?=some (Zes a k))/\((rs Zf.enc l i (Zes a k))[i]?=some (Zes a k))/\((rs Zf.enc l i (Zes a k)).set i (Y2g a k)=((l.set i (Y8 a k).1).map Zf.enc))/\True)
   ⟨Z0q h,Xv,Zdo h,Zdo h,rfl,Xv,Yi h _,Yi h _,Yjg rfl,trivial⟩ (ts:=[0,1,5]) (ks:=[0]) (e:=.normal) (vs:=[.ob 0,.lit (.int .i64 (w1 (w1 k))),.lit (.int .i64 (w1 (i:Int)))]) (bs:=[some ⟨true,z,e,((l.set i (Y8 a k).1).map Zf.enc)⟩]) (by kernel_rfl) (λs h1 h2=>⟨rfl,.of (by rw[h1,Zze hi];rfl) h2⟩)
def Jr (x:Zc) (k:Int):Zc×Int:=({x with weight:=k,prio:=b3 (w1 k),every:=w1 (w1 k),cap:=w1 (w1 (w1 k))},w1 (w1 (w1 (w1 k))))
def Zhs (a:Zc) (k:Int):List V:=(Zc.enc a).set 0 (.lit (.int .i64 (k)))
def Zh8 (a:Zc) (k:Int):List V:=(Zhs a k).set 1 (.lit (.bool (b3 (w1 k))))
def Zib (a:Zc) (k:Int):List V:=(Zh8 a k).set 2 (.lit (.int .i64 (w1 (w1 k))))
def Y5y (a:Zc) (k:Int):List V:=(Zib a k).set 3 (.lit (.int .i64 (w1 (w1 (w1 k)))))
theorem Yl5 (l:List Zc) (k:Int) (hl:l.length<=1152921504606846976):Qx Tryz.prog 56 false [.tr (l.map Zc.enc)] [.tr ((mkL Jr l k).1.map Zc.enc)] k (mkL Jr l k).2:=by
 refine Zqx (M:=Mo) fOk (fn:=Tryz.f56) (r0:=sqL (Xm Tryz.f56)) (r1:=sqL (sqL (sqR (Xm Tryz.f56)))) (body:=lpC (blC (sqR (sqL (sqR (Xm Tryz.f56)))))) (post:=sqR (sqR (Xm Tryz.f56))) (f:=Jr) (by kernel_rfl) (by kernel_rfl) (by kernel_rfl) l k (Qp:=λ_=>True) (λ_ _=>trivial) hl (λts=>by kernel_rfl) (λl k z e ob bk bx u=>by kernel_rfl) (λl k z e ob bk bx u=>by kernel_rfl) (λl k z e i ob bk bx u=>by kernel_rfl) λl i a k z e ob bk bx u h hi hq=>
  Zbn (M:=Mo) fOk 100 [.t true,.row i (Zc.enc a),.put (Zc.enc a) (rs Zc.enc l i (Zhs a k)),.k,.row i (Zhs a k),.put (Zhs a k) (rs Zc.enc l i (Zh8 a k)),.row i (Zh8 a k),.put (Zh8 a k) (rs Zc.enc l i (Zib a k)),.row i (Zib a k),.put (Zib a k) ((l.set i (Jr a k).1).map Zc.enc)]
   (p:=(decide ((i:Int) < ((l.map Zc.enc).length:Int))=true)/\(nn i)/\((l.map Zc.enc)[i]?=some (Zc.enc a))/\((l.map Zc.enc)[i]?=some (Zc.enc a))/\((l.map Zc.enc).set i (Zhs a k)=(rs Zc.enc l i (Zhs a k)))/\(nn i)/\((rs Zc.enc l i (Zhs a k))[i]?=some (Zhs a k))/\((rs Zc.enc l i (Zhs a k))[i]?=some (Zhs a k))/\((rs Zc.enc l i (Zhs a k)).set i (Zh8 a k)=(rs Zc.enc l i (Zh8 a k)))/\(nn i)/\((rs Zc.enc l i (Zh8 a k))[i]?=some (Zh8 a k))/\((rs Zc.enc l i (Zh8 a k))[i]?=some (Zh8 a k))/\((rs Zc.enc l i (Zh8 a k)).set i (Zib a k)=(rs Zc.enc l i (Zib a k)))/\(nn i)/\((rs Zc.enc l i (Zib a k))[i]?=some (Zib a k))/\((rs Zc.enc l i (Zib a k))[i]?=some (Zib a k))/\((rs Zc.enc l i (Zib a k)).set i (Y5y a k)=((l.set i (Jr a k).1).map Zc.enc))/\True)
   ⟨Z0q h,Xv,Zdo h,Zdo h,rfl,Xv,Yi h _,Yi h _,Zgq,Xv,Yi h _,Yi h _,Zgq,Xv,Yi h _,Yi h _,Yjg rfl,trivial⟩ (ts:=[0,1,5]) (ks:=[0]) (e:=.normal) (vs:=[.ob 0,.lit (.int .i64 (w1 (w1 (w1 (w1 k))))),.lit (.int .i64 (w1 (i:Int)))]) (bs:=[some ⟨true,z,e,((l.set i (Jr a k).1).map Zc.enc)⟩]) (by kernel_rfl) (λs h1 h2=>⟨rfl,.of (by rw[h1,Zze hi];rfl) h2⟩)
def Kl (x:Zi) (k:Int):Zi×Int:=({x with write:=b3 (k),addr:=w1 k,size:=w1 (w1 k),burst:=w1 (w1 (w1 k)),lock:=b3 (w1 (w1 (w1 (w1 k)))),data_:=(mkL Yc x.data_ (w1 (w1 (w1 (w1 (w1 k)))))).1},(mkL Yc x.data_ (w1 (w1 (w1 (w1 (w1 k)))))).2)
def Zrz (a:Zi) (k:Int):List V:=(Zi.enc a).set 0 (.lit (.bool (b3 (k))))
def Zrp (a:Zi) (k:Int):List V:=(Zrz a k).set 1 (.lit (.int .i64 (w1 k)))
def Ztp (a:Zi) (k:Int):List V:=(Zrp a k).set 2 (.lit (.int .i64 (w1 (w1 k))))
def Ztc (a:Zi) (k:Int):List V:=(Ztp a k).set 3 (.lit (.int .i64 (w1 (w1 (w1 k)))))
def Zk9 (a:Zi) (k:Int):List V:=(Ztc a k).set 4 (.lit (.bool (b3 (w1 (w1 (w1 (w1 k)))))))
def rReq6 (a:Zi) (k:Int):List V:=(Zk9 a k).set 5 (.tr ((mkL Yc a.data_ (w1 (w1 (w1 (w1 (w1 k)))))).1.map Zd))
theorem Ytx (l:List Zi) (k:Int) (hl:l.length<=1152921504606846976) (hq:∀x∈l,x.data_.length<=1152921504606846976):Qx Tryz.prog 18 false [.tr (l.map Zi.enc)] [.tr ((mkL Kl l k).1.map Zi.enc)] k (mkL Kl l k).2:=by
 refine Zqx (M:=Mo) fOk (fn:=Tryz.f18) (r0:=sqL (Xm Tryz.f18)) (r1:=sqL (sqL (sqR (Xm Tryz.f18)))) (body:=lpC (blC (sqR (sqL (sqR (Xm Tryz.f18)))))) (post:=sqR (sqR (Xm Tryz.f18))) (f:=Kl) (by kernel_rfl) (by kernel_rfl) (by kernel_rfl) l k (Qp:=λx=>x.data_.length<=1152921504606846976) hq hl (λts=>by kernel_rfl) (λl k z e ob bk bx u=>by kernel_rfl) (λl k z e ob bk bx u=>by kernel_rfl) (λl k z e i ob bk bx u=>by kernel_rfl) λl i a k z e ob bk bx u h hi hq=>
  Zbn (M:=Mo) fOk 100 [.t true,.k,.row i (Zi.enc a),.put (Zi.enc a) (rs Zi.enc l i (Zrz a k)),.row i (Zrz a k),.put (Zrz a k) (rs Zi.enc l i (Zrp a k)),.row i (Zrp a k),.put (Zrp a k) (rs Zi.enc l i (Ztp a k)),.row i (Ztp a k),.put (Ztp a k) (rs Zi.enc l i (Ztc a k)),.k,.row i (Ztc a k),.put (Ztc a k) (rs Zi.enc l i (Zk9 a k)),.row i (Zk9 a k),.cell (Zk9 a k),.put (Zk9 a k) ((l.set i (Kl a k).1).map Zi.enc),.res (.lit (.int .i64 (mkL Yc a.data_ (w1 (w1 (w1 (w1 (w1 k)))))).2)) [.tr ((mkL Yc a.data_ (w1 (w1 (w1 (w1 (w1 k)))))).1.map Zd)]]
   (p:=(decide ((i:Int) < ((l.map Zi.enc).length:Int))=true)/\(nn i)/\((l.map Zi.enc)[i]?=some (Zi.enc a))/\((l.map Zi.enc)[i]?=some (Zi.enc a))/\((l.map Zi.enc).set i (Zrz a k)=(rs Zi.enc l i (Zrz a k)))/\(nn i)/\((rs Zi.enc l i (Zrz a k))[i]?=some (Zrz a k))/\((rs Zi.enc l i (Zrz a k))[i]?=some (Zrz a k))/\((rs Zi.enc l i (Zrz a k)).set i (Zrp a k)=(rs Zi.enc l i (Zrp a k)))/\(nn i)/\((rs Zi.enc l i (Zrp a k))[i]?=some (Zrp a k))/\((rs Zi.enc l i (Zrp a k))[i]?=some (Zrp a k))/\((rs Zi.enc l i (Zrp a k)).set i (Ztp a k)=(rs Zi.enc l i (Ztp a k)))/\(nn i)/\((rs Zi.enc l i (Ztp a k))[i]?=some (Ztp a k))/\((rs Zi.enc l i (Ztp a k))[i]?=some (Ztp a k))/\((rs Zi.enc l i (Ztp a k)).set i (Ztc a k)=(rs Zi.enc l i (Ztc a k)))/\(nn i)/\((rs Zi.enc l i (Ztc a k))[i]?=some (Ztc a k))/\((rs Zi.enc l i (Ztc a k))[i]?=some (Ztc a k))/\((rs Zi.enc l i (Ztc a k)).set i (Zk9 a k)=(rs Zi.enc l i (Zk9 a k)))/\(nn i)/\((rs Zi.enc l i (Zk9 a k))[i]?=some (Zk9 a k))/\((rs Zi.enc l i (Zk9 a k))[i]?=some (Zk9 a k))/\((rs Zi.enc l i (Zk9 a k))[i]?=some (Zk9 a k))/\(Qx Tryz.prog 57 false [.tr (a.data_.map Zd)] [.tr ((mkL Yc a.data_ (w1 (w1 (w1 (w1 (w1 k)))))).1.map Zd)] (w1 (w1 (w1 (w1 (w1 k))))) (mkL Yc a.data_ (w1 (w1 (w1 (w1 (w1 k)))))).2)/\((rs Zi.enc l i (Zk9 a k)).set i (rReq6 a k)=((l.set i (Kl a k).1).map Zi.enc))/\True)
   ⟨Z0q h,Xv,Zdo h,Zdo h,rfl,Xv,Yi h _,Yi h _,Zgq,Xv,Yi h _,Yi h _,Zgq,Xv,Yi h _,Yi h _,Zgq,Xv,Yi h _,Yi h _,Zgq,Xv,Yi h _,Yi h _,Yi h _,Zd9 _ _ hq,Yjg rfl,trivial⟩ (ts:=[0,1,5]) (ks:=[0]) (e:=.normal) (vs:=[.ob 0,.lit (.int .i64 ((mkL Yc a.data_ (w1 (w1 (w1 (w1 (w1 k)))))).2)),.lit (.int .i64 (w1 (i:Int)))]) (bs:=[some ⟨true,z,e,((l.set i (Kl a k).1).map Zi.enc)⟩]) (by kernel_rfl) (λs h1 h2=>⟨rfl,.of (by rw[h1,Zze hi];rfl) h2⟩)
def Qu (x:Zl) (k:Int):Zl×Int:=({x with at_:=k,who:=w1 k,req:={x.req with write:=b3 (w1 (w1 k)),addr:=w1 (w1 (w1 k)),size:=w1 (w1 (w1 (w1 k))),burst:=w1 (w1 (w1 (w1 (w1 k)))),lock:=b3 (w1 (w1 (w1 (w1 (w1 (w1 k)))))),data_:=(mkL Yc x.req.data_ (w1 (w1 (w1 (w1 (w1 (w1 (w1 k)))))))).1}},(mkL Yc x.req.data_ (w1 (w1 (w1 (w1 (w1 (w1 (w1 k)))))))).2)
def Znh (a:Zl) (k:Int):List V:=(Zl.enc a).set 0 (.lit (.int .i64 (k)))
def Znc (a:Zl) (k:Int):List V:=(Znh a k).set 1 (.lit (.int .i64 (w1 k)))
def Zmk (a:Zl) (k:Int):List V:=(Znc a k).set 2 (.lit (.bool (b3 (w1 (w1 k)))))
def Zl9 (a:Zl) (k:Int):List V:=(Zmk a k).set 3 (.lit (.int .i64 (w1 (w1 (w1 k)))))
def Zm8 (a:Zl) (k:Int):List V:=(Zl9 a k).set 4 (.lit (.int .i64 (w1 (w1 (w1 (w1 k))))))
def Zmv (a:Zl) (k:Int):List V:=(Zm8 a k).set 5 (.lit (.int .i64 (w1 (w1 (w1 (w1 (w1 k)))))))
def Zfv (a:Zl) (k:Int):List V:=(Zmv a k).set 6 (.lit (.bool (b3 (w1 (w1 (w1 (w1 (w1 (w1 k)))))))))
def rPost8 (a:Zl) (k:Int):List V:=(Zfv a k).set 7 (.tr ((mkL Yc a.req.data_ (w1 (w1 (w1 (w1 (w1 (w1 (w1 k)))))))).1.map Zd))
theorem Yqf (l:List Zl) (k:Int) (hl:l.length<=1152921504606846976) (hq:∀x∈l,x.req.data_.length<=1152921504606846976):Qx Tryz.prog 73 false [.tr (l.map Zl.enc)] [.tr ((mkL Qu l k).1.map Zl.enc)] k (mkL Qu l k).2:=by
 refine Zqx (M:=Mo) fOk (fn:=Tryz.f73) (r0:=sqL (Xm Tryz.f73)) (r1:=sqL (sqL (sqR (Xm Tryz.f73)))) (body:=lpC (blC (sqR (sqL (sqR (Xm Tryz.f73)))))) (post:=sqR (sqR (Xm Tryz.f73))) (f:=Qu) (by kernel_rfl) (by kernel_rfl) (by kernel_rfl) l k (Qp:=λx=>x.req.data_.length<=1152921504606846976) hq hl (λts=>by kernel_rfl) (λl k z e ob bk bx u=>by kernel_rfl) (λl k z e ob bk bx u=>by kernel_rfl) (λl k z e i ob bk bx u=>by kernel_rfl) λl i a k z e ob bk bx u h hi hq=>
  Zbn (M:=Mo) fOk 100 [.t true,.row i (Zl.enc a),.put (Zl.enc a) (rs Zl.enc l i (Znh a k)),.row i (Znh a k),.put (Znh a k) (rs Zl.enc l i (Znc a k)),.k,.row i (Znc a k),.put (Znc a k) (rs Zl.enc l i (Zmk a k)),.row i (Zmk a k),.put (Zmk a k) (rs Zl.enc l i (Zl9 a k)),.row i (Zl9 a k),.put (Zl9 a k) (rs Zl.enc l i (Zm8 a k)),.row i (Zm8 a k),.put (Zm8 a k) (rs Zl.enc l i (Zmv a k)),.k,.row i (Zmv a k),.put (Zmv a k) (rs Zl.enc l i (Zfv a k)),.row i (Zfv a k),.cell (Zfv a k),.put (Zfv a k) ((l.set i (Qu a k).1).map Zl.enc),.res (.lit (.int .i64 (mkL Yc a.req.data_ (w1 (w1 (w1 (w1 (w1 (w1 (w1 k)))))))).2)) [.tr ((mkL Yc a.req.data_ (w1 (w1 (w1 (w1 (w1 (w1 (w1 k)))))))).1.map Zd)]]
   (p:=(decide ((i:Int) < ((l.map Zl.enc).length:Int))=true)/\(nn i)/\((l.map Zl.enc)[i]?=some (Zl.enc a))/\((l.map Zl.enc)[i]?=some (Zl.enc a))/\((l.map Zl.enc).set i (Znh a k)=(rs Zl.enc l i (Znh a k)))/\(nn i)/\((rs Zl.enc l i (Znh a k))[i]?=some (Znh a k))/\((rs Zl.enc l i (Znh a k))[i]?=some (Znh a k))/\((rs Zl.enc l i (Znh a k)).set i (Znc a k)=(rs Zl.enc l i (Znc a k)))/\(nn i)/\((rs Zl.enc l i (Znc a k))[i]?=some (Znc a k))/\((rs Zl.enc l i (Znc a k))[i]?=some (Znc a k))/\((rs Zl.enc l i (Znc a k)).set i (Zmk a k)=(rs Zl.enc l i (Zmk a k)))/\(nn i)/\((rs Zl.enc l i (Zmk a k))[i]?=some (Zmk a k))/\((rs Zl.enc l i (Zmk a k))[i]?=some (Zmk a k))/\((rs Zl.enc l i (Zmk a k)).set i (Zl9 a k)=(rs Zl.enc l i (Zl9 a k)))/\(nn i)/\((rs Zl.enc l i (Zl9 a k))[i]?=some (Zl9 a k))/\((rs Zl.enc l i (Zl9 a k))[i]?=some (Zl9 a k))/\((rs Zl.enc l i (Zl9 a k)).set i (Zm8 a k)=(rs Zl.enc l i (Zm8 a k)))/\(nn i)/\((rs Zl.enc l i (Zm8 a k))[i]?=some (Zm8 a k))/\((rs Zl.enc l i (Zm8 a k))[i]?=some (Zm8 a k))/\((rs Zl.enc l i (Zm8 a k)).set i (Zmv a k)=(rs Zl.enc l i (Zmv a k)))/\(nn i)/\((rs Zl.enc l i (Zmv a k))[i]?=some (Zmv a k))/\((rs Zl.enc l i (Zmv a k))[i]?=some (Zmv a k))/\((rs Zl.enc l i (Zmv a k)).set i (Zfv a k)=(rs Zl.enc l i (Zfv a k)))/\(nn i)/\((rs Zl.enc l i (Zfv a k))[i]?=some (Zfv a k))/\((rs Zl.enc l i (Zfv a k))[i]?=some (Zfv a k))/\((rs Zl.enc l i (Zfv a k))[i]?=some (Zfv a k))/\(Qx Tryz.prog 57 false [.tr (a.req.data_.map Zd)] [.tr ((mkL Yc a.req.data_ (w1 (w1 (w1 (w1 (w1 (w1 (w1 k)))))))).1.map Zd)] (w1 (w1 (w1 (w1 (w1 (w1 (w1 k))))))) (mkL Yc a.req.data_ (w1 (w1 (w1 (w1 (w1 (w1 (w1 k)))))))).2)/\((rs Zl.enc l i (Zfv a k)).set i (rPost8 a k)=((l.set i (Qu a k).1).map Zl.enc))/\True)
   ⟨Z0q h,Xv,Zdo h,Zdo h,rfl,Xv,Yi h _,Yi h _,Zgq,Xv,Yi h _,Yi h _,Zgq,Xv,Yi h _,Yi h _,Zgq,Xv,Yi h _,Yi h _,Zgq,Xv,Yi h _,Yi h _,Zgq,Xv,Yi h _,Yi h _,Zgq,Xv,Yi h _,Yi h _,Yi h _,Zd9 _ _ hq,Yjg rfl,trivial⟩ (ts:=[0,1,5]) (ks:=[0]) (e:=.normal) (vs:=[.ob 0,.lit (.int .i64 ((mkL Yc a.req.data_ (w1 (w1 (w1 (w1 (w1 (w1 (w1 k)))))))).2)),.lit (.int .i64 (w1 (i:Int)))]) (bs:=[some ⟨true,z,e,((l.set i (Qu a k).1).map Zl.enc)⟩]) (by kernel_rfl) (λs h1 h2=>⟨rfl,.of (by rw[h1,Zze hi];rfl) h2⟩)
def Wj (x:Zb) (k:Int):Zb×Int:=({x with queue:=(mkL Kl x.queue (k)).1,beat:=(mkL Kl x.queue (k)).2,done:=w1 ((mkL Kl x.queue (k)).2),tries:=w1 (w1 ((mkL Kl x.queue (k)).2)),parted:=b3 (w1 (w1 (w1 ((mkL Kl x.queue (k)).2)))),broken:=b3 (w1 (w1 (w1 (w1 ((mkL Kl x.queue (k)).2)))))},w1 (w1 (w1 (w1 (w1 ((mkL Kl x.queue (k)).2))))))
def Zr9 (a:Zb) (k:Int):List V:=(Zb.enc a).set 0 (.tr ((mkL Kl a.queue (k)).1.map Zi.enc))
def Zs3 (a:Zb) (k:Int):List V:=(Zr9 a k).set 1 (.lit (.int .i64 ((mkL Kl a.queue (k)).2)))
def Zr2 (a:Zb) (k:Int):List V:=(Zs3 a k).set 2 (.lit (.int .i64 (w1 ((mkL Kl a.queue (k)).2))))
def Zsl (a:Zb) (k:Int):List V:=(Zr2 a k).set 3 (.lit (.int .i64 (w1 (w1 ((mkL Kl a.queue (k)).2)))))
def Zrq (a:Zb) (k:Int):List V:=(Zsl a k).set 4 (.lit (.bool (b3 (w1 (w1 (w1 ((mkL Kl a.queue (k)).2)))))))
def rMst6 (a:Zb) (k:Int):List V:=(Zrq a k).set 5 (.lit (.bool (b3 (w1 (w1 (w1 (w1 ((mkL Kl a.queue (k)).2))))))))
theorem Ysn (l:List Zb) (k:Int) (hl:l.length<=1152921504606846976) (hq:∀x∈l,x.queue.length<=1152921504606846976/\∀y∈x.queue,y.data_.length<=1152921504606846976):Qx Tryz.prog 74 false [.tr (l.map Zb.enc)] [.tr ((mkL Wj l k).1.map Zb.enc)] k (mkL Wj l k).2:=by
 refine Zqx (M:=Mo) fOk (fn:=Tryz.f74) (r0:=sqL (Xm Tryz.f74)) (r1:=sqL (sqL (sqR (Xm Tryz.f74)))) (body:=lpC (blC (sqR (sqL (sqR (Xm Tryz.f74)))))) (post:=sqR (sqR (Xm Tryz.f74))) (f:=Wj) (by kernel_rfl) (by kernel_rfl) (by kernel_rfl) l k (Qp:=λx=>x.queue.length<=1152921504606846976/\∀y∈x.queue,y.data_.length<=1152921504606846976) hq hl (λts=>by kernel_rfl) (λl k z e ob bk bx u=>by kernel_rfl) (λl k z e ob bk bx u=>by kernel_rfl) (λl k z e i ob bk bx u=>by kernel_rfl) λl i a k z e ob bk bx u h hi hq=>
  Zbn (M:=Mo) fOk 100 [.t true,.row i (Zb.enc a),.cell (Zb.enc a),.put (Zb.enc a) (rs Zb.enc l i (Zr9 a k)),.res (.lit (.int .i64 (mkL Kl a.queue (k)).2)) [.tr ((mkL Kl a.queue (k)).1.map Zi.enc)],.row i (Zr9 a k),.put (Zr9 a k) (rs Zb.enc l i (Zs3 a k)),.row i (Zs3 a k),.put (Zs3 a k) (rs Zb.enc l i (Zr2 a k)),.row i (Zr2 a k),.put (Zr2 a k) (rs Zb.enc l i (Zsl a k)),.k,.row i (Zsl a k),.put (Zsl a k) (rs Zb.enc l i (Zrq a k)),.k,.row i (Zrq a k),.put (Zrq a k) ((l.set i (Wj a k).1).map Zb.enc)]
   (p:=(decide ((i:Int) < ((l.map Zb.enc).length:Int))=true)/\(nn i)/\((l.map Zb.enc)[i]?=some (Zb.enc a))/\((l.map Zb.enc)[i]?=some (Zb.enc a))/\((l.map Zb.enc)[i]?=some (Zb.enc a))/\(Qx Tryz.prog 18 false [.tr (a.queue.map Zi.enc)] [.tr ((mkL Kl a.queue (k)).1.map Zi.enc)] (k) (mkL Kl a.queue (k)).2)/\((l.map Zb.enc).set i (Zr9 a k)=(rs Zb.enc l i (Zr9 a k)))/\(nn i)/\((rs Zb.enc l i (Zr9 a k))[i]?=some (Zr9 a k))/\((rs Zb.enc l i (Zr9 a k))[i]?=some (Zr9 a k))/\((rs Zb.enc l i (Zr9 a k)).set i (Zs3 a k)=(rs Zb.enc l i (Zs3 a k)))/\(nn i)/\((rs Zb.enc l i (Zs3 a k))[i]?=some (Zs3 a k))/\((rs Zb.enc l i (Zs3 a k))[i]?=some (Zs3 a k))/\((rs Zb.enc l i (Zs3 a k)).set i (Zr2 a k)=(rs Zb.enc l i (Zr2 a k)))/\(nn i)/\((rs Zb.enc l i (Zr2 a k))[i]?=some (Zr2 a k))/\((rs Zb.enc l i (Zr2 a k))[i]?=some (Zr2 a k))/\((rs Zb.enc l i (Zr2 a k)).set i (Zsl a k)=(rs Zb.enc l i (Zsl a k)))/\(nn i)/\((rs Zb.enc l i (Zsl a k))[i]?=some (Zsl a k))/\((rs Zb.enc l i (Zsl a k))[i]?=some (Zsl a k))/\((rs Zb.enc l i (Zsl a k)).set i (Zrq a k)=(rs Zb.enc l i (Zrq a k)))/\(nn i)/\((rs Zb.enc l i (Zrq a k))[i]?=some (Zrq a k))/\((rs Zb.enc l i (Zrq a k))[i]?=some (Zrq a k))/\((rs Zb.enc l i (Zrq a k)).set i (rMst6 a k)=((l.set i (Wj a k).1).map Zb.enc))/\True)
   ⟨Z0q h,Xv,Zdo h,Zdo h,Zdo h,Ytx _ _ hq.1 hq.2,rfl,Xv,Yi h _,Yi h _,Zgq,Xv,Yi h _,Yi h _,Zgq,Xv,Yi h _,Yi h _,Zgq,Xv,Yi h _,Yi h _,Zgq,Xv,Yi h _,Yi h _,Yjg rfl,trivial⟩ (ts:=[0,1,5]) (ks:=[0]) (e:=.normal) (vs:=[.ob 0,.lit (.int .i64 (w1 (w1 (w1 (w1 (w1 ((mkL Kl a.queue (k)).2))))))),.lit (.int .i64 (w1 (i:Int)))]) (bs:=[some ⟨true,z,e,((l.set i (Wj a k).1).map Zb.enc)⟩]) (by kernel_rfl) (λs h1 h2=>⟨rfl,.of (by rw[h1,Zze hi];rfl) h2⟩)
def Zh.mok (x:Zh):Prop:=(x.masters.length<=1152921504606846976)
def Yo (x:Zh) (k:Int):Zh×Int:=({x with masters:=(mkL Jr x.masters (k)).1},(mkL Jr x.masters (k)).2)
theorem Ybj (x:Zh) (k:Int) (h:x.mok):Qx Tryz.prog 17 true (Zh.enc x) (Zh.enc (Yo x k).1) k (Yo x k).2:=by
 refine mk_ok fOk (fn:=Tryz.f17) (c:=Xm Tryz.f17) (rt:=4) (by kernel_rfl) (by kernel_rfl) (by kernel_rfl) (by show 6<=1000;decide) (.inl rfl) λts=>?_;exact Zbn (M:=Mo) fOk 100 [.res (.lit (.int .i64 (mkL Jr x.masters (k)).2)) [.tr ((mkL Jr x.masters (k)).1.map Zc.enc)]]
  (p:=(Qx Tryz.prog 56 false [.tr (x.masters.map Zc.enc)] [.tr ((mkL Jr x.masters (k)).1.map Zc.enc)] (k) (mkL Jr x.masters (k)).2)/\True)
  ⟨Yl5 _ _ h,trivial⟩ (ts:=[4]) (ks:=[0]) (e:=.ret) (vs:=[.lit (.int .i64 (Yo x k).2)]) (bs:=[some ⟨true,(ts 0).1,(ts 0).2,((Yo x k).1.masters.map Zc.enc)⟩]) (by kernel_rfl)
  (λs h1 h2=>⟨rfl,by simpa using h1,by
   simp only[Va2,Vby,Vcd,and_true] at h2;exact⟨h2,rfl,rfl,rfl,rfl,rfl,trivial⟩⟩)
def Zn.mok (x:Zn):Prop:=(x.regs.length<=1152921504606846976)/\(x.fifo.length<=1152921504606846976)
def Znx (x:Zn) (k:Int):Zn×Int:=({x with regs:=(mkL Yc x.regs (k)).1,fifo:=(mkL Yc x.fifo ((mkL Yc x.regs (k)).2)).1},(mkL Yc x.fifo ((mkL Yc x.regs (k)).2)).2)
theorem Yyr (x:Zn) (k:Int) (h:x.mok):Qx Tryz.prog 129 true (Zn.enc x) (Zn.enc (Znx x k).1) k (Znx x k).2:=by
 refine mk_ok fOk (fn:=Tryz.f129) (c:=Xm Tryz.f129) (rt:=4) (by kernel_rfl) (by kernel_rfl) (by kernel_rfl) (by show 3<=1000;decide) (.inl rfl) λts=>?_;exact Zbn (M:=Mo) fOk 100 [.res (.lit (.int .i64 (mkL Yc x.regs (k)).2)) [.tr ((mkL Yc x.regs (k)).1.map Zd)],.res (.lit (.int .i64 (mkL Yc x.fifo ((mkL Yc x.regs (k)).2)).2)) [.tr ((mkL Yc x.fifo ((mkL Yc x.regs (k)).2)).1.map Zd)]]
  (p:=(Qx Tryz.prog 57 false [.tr (x.regs.map Zd)] [.tr ((mkL Yc x.regs (k)).1.map Zd)] (k) (mkL Yc x.regs (k)).2)/\(Qx Tryz.prog 57 false [.tr (x.fifo.map Zd)] [.tr ((mkL Yc x.fifo ((mkL Yc x.regs (k)).2)).1.map Zd)] ((mkL Yc x.regs (k)).2) (mkL Yc x.fifo ((mkL Yc x.regs (k)).2)).2)/\True)
  ⟨Zd9 _ _ h.1,Zd9 _ _ h.2,trivial⟩ (ts:=[4]) (ks:=[0,2]) (e:=.ret) (vs:=[.lit (.int .i64 (Znx x k).2)]) (bs:=[some ⟨true,(ts 0).1,(ts 0).2,((Znx x k).1.regs.map Zd)⟩,some ⟨true,(ts 2).1,(ts 2).2,((Znx x k).1.fifo.map Zd)⟩]) (by kernel_rfl)
  (λs h1 h2=>⟨rfl,by simpa using h1,by
   simp only[Va2,Vby,Vcd,and_true] at h2;exact⟨h2.1,rfl,h2.2,trivial⟩⟩)
def Zj.mok (x:Zj):Prop:=(x.mem.length<=1152921504606846976)/\Zn.mok x.dev
def K8 (x:Zj) (k:Int):Zj×Int:=({x with mem:=(mkL Yc x.mem (k)).1,dev:=(Znx x.dev ((mkL Yc x.mem (k)).2)).1},(Znx x.dev ((mkL Yc x.mem (k)).2)).2)
theorem Yp0 (x:Zj) (k:Int) (h:x.mok):Qx Tryz.prog 76 true (Zj.enc x) (Zj.enc (K8 x k).1) k (K8 x k).2:=by
 refine mk_ok fOk (fn:=Tryz.f76) (c:=Xm Tryz.f76) (rt:=4) (by kernel_rfl) (by kernel_rfl) (by kernel_rfl) (by show 4<=1000;decide) (.inl rfl) λts=>?_;exact Zbn (M:=Mo) fOk 100 [.res (.lit (.int .i64 (mkL Yc x.mem (k)).2)) [.tr ((mkL Yc x.mem (k)).1.map Zd)],.res (.lit (.int .i64 (Znx x.dev ((mkL Yc x.mem (k)).2)).2)) (Zn.enc (Znx x.dev ((mkL Yc x.mem (k)).2)).1)]
  (p:=(Qx Tryz.prog 57 false [.tr (x.mem.map Zd)] [.tr ((mkL Yc x.mem (k)).1.map Zd)] (k) (mkL Yc x.mem (k)).2)/\(Qx Tryz.prog 129 true (Zn.enc x.dev) (Zn.enc (Znx x.dev ((mkL Yc x.mem (k)).2)).1) ((mkL Yc x.mem (k)).2) (Znx x.dev ((mkL Yc x.mem (k)).2)).2)/\True)
  ⟨Zd9 _ _ h.1,Yyr _ _ h.2,trivial⟩ (ts:=[4]) (ks:=[0,1,3]) (e:=.ret) (vs:=[.lit (.int .i64 (K8 x k).2)]) (bs:=[some ⟨true,(ts 0).1,(ts 0).2,((K8 x k).1.mem.map Zd)⟩,some ⟨true,(ts 1).1,(ts 1).2,((K8 x k).1.dev.regs.map Zd)⟩,some ⟨true,(ts 3).1,(ts 3).2,((K8 x k).1.dev.fifo.map Zd)⟩]) (by kernel_rfl)
  (λs h1 h2=>⟨rfl,by simpa using h1,by
   simp only[Va2,Vby,Vcd,and_true] at h2;exact⟨h2.1,h2.2.1,rfl,h2.2.2,trivial⟩⟩)
def Ze.mok (x:Ze):Prop:=(x.posts.length<=1152921504606846976/\∀y∈x.posts,y.req.data_.length<=1152921504606846976)/\(x.waits.length<=1152921504606846976)/\(x.says.length<=1152921504606846976)
def Kz (x:Ze) (k:Int):Ze×Int:=({x with posts:=(mkL Qu x.posts (k)).1,waits:=(mkL Yc x.waits ((mkL Qu x.posts (k)).2)).1,says:=(mkL Yc x.says ((mkL Yc x.waits ((mkL Qu x.posts (k)).2)).2)).1},(mkL Yc x.says ((mkL Yc x.waits ((mkL Qu x.posts (k)).2)).2)).2)
theorem Ylw (x:Ze) (k:Int) (h:x.mok):Qx Tryz.prog 27 true (Ze.enc x) (Ze.enc (Kz x k).1) k (Kz x k).2:=by
 refine mk_ok fOk (fn:=Tryz.f27) (c:=Xm Tryz.f27) (rt:=4) (by kernel_rfl) (by kernel_rfl) (by kernel_rfl) (by show 3<=1000;decide) (.inl rfl) λts=>?_;exact Zbn (M:=Mo) fOk 100 [.res (.lit (.int .i64 (mkL Qu x.posts (k)).2)) [.tr ((mkL Qu x.posts (k)).1.map Zl.enc)],.res (.lit (.int .i64 (mkL Yc x.waits ((mkL Qu x.posts (k)).2)).2)) [.tr ((mkL Yc x.waits ((mkL Qu x.posts (k)).2)).1.map Zd)],.res (.lit (.int .i64 (mkL Yc x.says ((mkL Yc x.waits ((mkL Qu x.posts (k)).2)).2)).2)) [.tr ((mkL Yc x.says ((mkL Yc x.waits ((mkL Qu x.posts (k)).2)).2)).1.map Zd)]]
  (p:=(Qx Tryz.prog 73 false [.tr (x.posts.map Zl.enc)] [.tr ((mkL Qu x.posts (k)).1.map Zl.enc)] (k) (mkL Qu x.posts (k)).2)/\(Qx Tryz.prog 57 false [.tr (x.waits.map Zd)] [.tr ((mkL Yc x.waits ((mkL Qu x.posts (k)).2)).1.map Zd)] ((mkL Qu x.posts (k)).2) (mkL Yc x.waits ((mkL Qu x.posts (k)).2)).2)/\(Qx Tryz.prog 57 false [.tr (x.says.map Zd)] [.tr ((mkL Yc x.says ((mkL Yc x.waits ((mkL Qu x.posts (k)).2)).2)).1.map Zd)] ((mkL Yc x.waits ((mkL Qu x.posts (k)).2)).2) (mkL Yc x.says ((mkL Yc x.waits ((mkL Qu x.posts (k)).2)).2)).2)/\True)
  ⟨Yqf _ _ h.1.1 h.1.2,Zd9 _ _ h.2.1,Zd9 _ _ h.2.2,trivial⟩ (ts:=[4]) (ks:=[0,1,2]) (e:=.ret) (vs:=[.lit (.int .i64 (Kz x k).2)]) (bs:=[some ⟨true,(ts 0).1,(ts 0).2,((Kz x k).1.posts.map Zl.enc)⟩,some ⟨true,(ts 1).1,(ts 1).2,((Kz x k).1.waits.map Zd)⟩,some ⟨true,(ts 2).1,(ts 2).2,((Kz x k).1.says.map Zd)⟩]) (by kernel_rfl)
  (λs h1 h2=>⟨rfl,by simpa using h1,by
   simp only[Va2,Vby,Vcd,and_true] at h2;exact⟨h2.1,h2.2.1,h2.2.2,trivial⟩⟩)
def Za.mok (x:Za):Prop:=Zh.mok x.conf/\(x.m.length<=1152921504606846976/\∀z∈x.m,z.queue.length<=1152921504606846976/\∀y∈z.queue,y.data_.length<=1152921504606846976)/\(x.buckets.length<=1152921504606846976)/\(x.splits.length<=1152921504606846976)/\Zj.mok x.model/\(x.log.length<=1152921504606846976)
def X7 (x:Za) (k:Int):Za×Int:=({x with conf:=(Yo x.conf (k)).1,m:=(mkL Wj x.m ((Yo x.conf (k)).2)).1,buckets:=(mkL Y8 x.buckets ((mkL Wj x.m ((Yo x.conf (k)).2)).2)).1,splits:=(mkL Yc x.splits ((mkL Y8 x.buckets ((mkL Wj x.m ((Yo x.conf (k)).2)).2)).2)).1,model:=(K8 x.model ((mkL Yc x.splits ((mkL Y8 x.buckets ((mkL Wj x.m ((Yo x.conf (k)).2)).2)).2)).2)).1,log:=(mkL Zbg x.log ((K8 x.model ((mkL Yc x.splits ((mkL Y8 x.buckets ((mkL Wj x.m ((Yo x.conf (k)).2)).2)).2)).2)).2)).1},(mkL Zbg x.log ((K8 x.model ((mkL Yc x.splits ((mkL Y8 x.buckets ((mkL Wj x.m ((Yo x.conf (k)).2)).2)).2)).2)).2)).2)
theorem Yyn (x:Za) (k:Int) (h:x.mok):Qx Tryz.prog 28 true (Za.enc x) (Za.enc (X7 x k).1) k (X7 x k).2:=by
 refine mk_ok fOk (fn:=Tryz.f28) (c:=Xm Tryz.f28) (rt:=4) (by kernel_rfl) (by kernel_rfl) (by kernel_rfl) (by show 37<=1000;decide) (.inl rfl) λts=>?_;exact Zbn (M:=Mo) fOk 100 [.res (.lit (.int .i64 (Yo x.conf (k)).2)) (Zh.enc (Yo x.conf (k)).1),.res (.lit (.int .i64 (mkL Wj x.m ((Yo x.conf (k)).2)).2)) [.tr ((mkL Wj x.m ((Yo x.conf (k)).2)).1.map Zb.enc)],.res (.lit (.int .i64 (mkL Y8 x.buckets ((mkL Wj x.m ((Yo x.conf (k)).2)).2)).2)) [.tr ((mkL Y8 x.buckets ((mkL Wj x.m ((Yo x.conf (k)).2)).2)).1.map Zf.enc)],.res (.lit (.int .i64 (mkL Yc x.splits ((mkL Y8 x.buckets ((mkL Wj x.m ((Yo x.conf (k)).2)).2)).2)).2)) [.tr ((mkL Yc x.splits ((mkL Y8 x.buckets ((mkL Wj x.m ((Yo x.conf (k)).2)).2)).2)).1.map Zd)],.res (.lit (.int .i64 (K8 x.model ((mkL Yc x.splits ((mkL Y8 x.buckets ((mkL Wj x.m ((Yo x.conf (k)).2)).2)).2)).2)).2)) (Zj.enc (K8 x.model ((mkL Yc x.splits ((mkL Y8 x.buckets ((mkL Wj x.m ((Yo x.conf (k)).2)).2)).2)).2)).1),.res (.lit (.int .i64 (mkL Zbg x.log ((K8 x.model ((mkL Yc x.splits ((mkL Y8 x.buckets ((mkL Wj x.m ((Yo x.conf (k)).2)).2)).2)).2)).2)).2)) [.tr ((mkL Zbg x.log ((K8 x.model ((mkL Yc x.splits ((mkL Y8 x.buckets ((mkL Wj x.m ((Yo x.conf (k)).2)).2)).2)).2)).2)).1.map Zr.enc)]]
  (p:=(Qx Tryz.prog 17 true (Zh.enc x.conf) (Zh.enc (Yo x.conf (k)).1) (k) (Yo x.conf (k)).2)/\(Qx Tryz.prog 74 false [.tr (x.m.map Zb.enc)] [.tr ((mkL Wj x.m ((Yo x.conf (k)).2)).1.map Zb.enc)] ((Yo x.conf (k)).2) (mkL Wj x.m ((Yo x.conf (k)).2)).2)/\(Qx Tryz.prog 75 false [.tr (x.buckets.map Zf.enc)] [.tr ((mkL Y8 x.buckets ((mkL Wj x.m ((Yo x.conf (k)).2)).2)).1.map Zf.enc)] ((mkL Wj x.m ((Yo x.conf (k)).2)).2) (mkL Y8 x.buckets ((mkL Wj x.m ((Yo x.conf (k)).2)).2)).2)/\(Qx Tryz.prog 57 false [.tr (x.splits.map Zd)] [.tr ((mkL Yc x.splits ((mkL Y8 x.buckets ((mkL Wj x.m ((Yo x.conf (k)).2)).2)).2)).1.map Zd)] ((mkL Y8 x.buckets ((mkL Wj x.m ((Yo x.conf (k)).2)).2)).2) (mkL Yc x.splits ((mkL Y8 x.buckets ((mkL Wj x.m ((Yo x.conf (k)).2)).2)).2)).2)/\(Qx Tryz.prog 76 true (Zj.enc x.model) (Zj.enc (K8 x.model ((mkL Yc x.splits ((mkL Y8 x.buckets ((mkL Wj x.m ((Yo x.conf (k)).2)).2)).2)).2)).1) ((mkL Yc x.splits ((mkL Y8 x.buckets ((mkL Wj x.m ((Yo x.conf (k)).2)).2)).2)).2) (K8 x.model ((mkL Yc x.splits ((mkL Y8 x.buckets ((mkL Wj x.m ((Yo x.conf (k)).2)).2)).2)).2)).2)/\(Qx Tryz.prog 19 false [.tr (x.log.map Zr.enc)] [.tr ((mkL Zbg x.log ((K8 x.model ((mkL Yc x.splits ((mkL Y8 x.buckets ((mkL Wj x.m ((Yo x.conf (k)).2)).2)).2)).2)).2)).1.map Zr.enc)] ((K8 x.model ((mkL Yc x.splits ((mkL Y8 x.buckets ((mkL Wj x.m ((Yo x.conf (k)).2)).2)).2)).2)).2) (mkL Zbg x.log ((K8 x.model ((mkL Yc x.splits ((mkL Y8 x.buckets ((mkL Wj x.m ((Yo x.conf (k)).2)).2)).2)).2)).2)).2)/\True)
  ⟨Ybj _ _ h.1,Ysn _ _ h.2.1.1 h.2.1.2,Yiq _ _ h.2.2.1,Zd9 _ _ h.2.2.2.1,Yp0 _ _ h.2.2.2.2.1,Ypw _ _ h.2.2.2.2.2,trivial⟩ (ts:=[4]) (ks:=[0,7,10,11,31,32,34,36]) (e:=.ret) (vs:=[.lit (.int .i64 (X7 x k).2)]) (bs:=[some ⟨true,(ts 0).1,(ts 0).2,((X7 x k).1.conf.masters.map Zc.enc)⟩,some ⟨true,(ts 7).1,(ts 7).2,((X7 x k).1.m.map Zb.enc)⟩,some ⟨true,(ts 10).1,(ts 10).2,((X7 x k).1.buckets.map Zf.enc)⟩,some ⟨true,(ts 11).1,(ts 11).2,((X7 x k).1.splits.map Zd)⟩,some ⟨true,(ts 31).1,(ts 31).2,((X7 x k).1.model.mem.map Zd)⟩,some ⟨true,(ts 32).1,(ts 32).2,((X7 x k).1.model.dev.regs.map Zd)⟩,some ⟨true,(ts 34).1,(ts 34).2,((X7 x k).1.model.dev.fifo.map Zd)⟩,some ⟨true,(ts 36).1,(ts 36).2,((X7 x k).1.log.map Zr.enc)⟩]) (by kernel_rfl)
  (λs h1 h2=>⟨rfl,by simpa using h1,by
   simp only[Va2,Vby,Vcd,and_true] at h2;exact⟨h2.1,rfl,rfl,rfl,rfl,rfl,rfl,h2.2.1,rfl,rfl,h2.2.2.1,h2.2.2.2.1,rfl,rfl,rfl,rfl,rfl,rfl,rfl,rfl,rfl,rfl,rfl,rfl,rfl,rfl,rfl,rfl,rfl,rfl,rfl,h2.2.2.2.2.1,h2.2.2.2.2.2.1,rfl,h2.2.2.2.2.2.2.1,rfl,h2.2.2.2.2.2.2.2,trivial⟩⟩)
end
end Go.Proofs.YtagdmghmblplbaaGreat.Ev
namespace Go.Proofs.YtagdmghmblplbaaGreat.Ev
open Go Go.Proofs
theorem Z0f {n:Int} (h1:-9223372036854775808<=n) (h2:n < 9223372036854775808):IntKind.i64.wrap n=n:=w64_of h1 h2
theorem Ys {a b:Int} (h1:-9223372036854775808<=a+b) (h2:a+b < 9223372036854775808):Zs a b=a+b:=Z0f h1 h2
theorem Y9 {a b:Int} (h1:-9223372036854775808<=a - b) (h2:a - b < 9223372036854775808):Xa a b=a - b:=Z0f h1 h2
theorem Zfp {a b:Int} (h1:-9223372036854775808<=a*b) (h2:a*b < 9223372036854775808):Jt a b=a*b:=Z0f h1 h2
theorem Wi {k:Nat} (h:k < 4611686018427387904):Zs (k:Int) 1=((k+1:Nat):Int):=by rw[Ys (by omega) (by omega)];rfl
theorem ok_i64 {n:Int} (h:(Lit.int .i64 n).wf=true):-9223372036854775808<=n/\n < 9223372036854775808:=by
 simp[Lit.wf,IntKind.min,IntKind.max,IntKind.signed,IntKind.bits] at h;omega
section
variable {α β σ ρ:Type}
theorem Xc {xs:List α} {k:Nat} (h:k < xs.length):idx xs (k:Int)=some xs[k]:=by
 simp[idx,h]
theorem Kb:4611686018427387904 < FU:=by decide
def Z3m (step:α->σ->Option (σ ⊕ ρ)) (fin:σ->Option ρ):List α->σ->Option ρ
 | [],s=>fin s
 | a::l,s=>(step a s).bind λr=>match r with|.inl s'=>Z3m step fin l s'|.inr x=>some x
def goL (k:σ->Option ρ):σ ⊕ ρ->Option ρ
 | .inl s=>k s
 | .inr x=>some x
theorem Y0l (xs:List α) (hl:xs.length < 4611686018427387904) (step:α->σ->Option (σ ⊕ ρ)) (fin:σ->Option ρ) (L:Nat->σ->Int->Option ρ)
  (hL:∀m s i,L (m+1) s i=if decide (i < (xs.length:Int))=true then (idx xs i).bind λa=>(step a s).bind (goL λs'=>L m s' (Zs i 1)) else fin s):
  ∀(m k:Nat) (s:σ),k<=xs.length->xs.length - k < m->L m s k=Z3m step fin (xs.drop k) s:=by
 intro m
 induction m with
 | zero=>intro k s _ h;omega
 | succ m ih=>
  intro k s hk hm;rw[hL];by_cases hc:k < xs.length
  .have h1:decide ((k:Int) < (xs.length:Int))=true:=by simpa using hc
   rw[ZZj h1,Xc hc,ZZa,Va5 hc];simp only[Z3m]
   congr 1
   funext r
   cases r with
   | inl s'=>
    simp only[goL];rw[Wi (by omega)];exact ih (k+1) s' (by omega) (by omega)
   | inr x=>rfl
  .have h1:¬decide ((k:Int) < (xs.length:Int))=true:=by simpa using hc
   rw[ZZi h1,Vbb (by omega)];rfl
theorem Yeu (xs:List α) (hl:xs.length < 4611686018427387904) (step:α->σ->Option (σ ⊕ ρ)) (fin:σ->Option ρ) (L:Nat->σ->Int->Option ρ)
  (hL:∀m s i,L (m+1) s i=if decide (i < (xs.length:Int))=true then (idx xs i).bind λa=>(step a s).bind (goL λs'=>L m s' (Zs i 1)) else fin s) (s:σ):
  L FU s 0=Z3m step fin xs s:=by
 have:=Y0l xs hl step fin L hL FU 0 s (Vbk _) (by have:=Kb;omega);simpa using this
theorem Yem (xs:List α) (g:α->β) (hl:xs.length < 4611686018427387904) (f:α->Option β) (hf:∀a∈xs,f a=some (g a)) (L:Nat->List β->Int->Option (List β))
  (hL:∀m v i,L (m+1) v i=if decide (i < (xs.length:Int))=true then (idx xs i).bind λa=>(f a).bind λb=>(idx v i).bind λ_=>(Qo v i b).bind λy=>L m y (Zs i 1) else some v) (v:List β) (hv:v.length=xs.length):L FU v 0=some (xs.map g):=by
 have key:∀(m k:Nat) (v:List β),k<=xs.length->xs.length - k < m->v.length=xs.length->v.take k=(xs.take k).map g->L m v k=some (xs.map g):=by
  intro m
  induction m with
  | zero=>intro k v _ h;omega
  | succ m ih=>
   intro k v hk hm hv ht;rw[hL];by_cases hc:k < xs.length
   .have h1:decide ((k:Int) < (xs.length:Int))=true:=by simpa using hc
    have hc2:k < v.length:=by omega
    rw[ZZj h1,Xc hc,ZZa,hf _ (Vaq hc),ZZa,Xc hc2,ZZa];simp only[Qo,ZZa];rw[Wi (by omega)];refine ih (k+1) _ (by omega) (by omega) (by simp[hv]) ?_;rw[Vbs,List.take_add_one,List.take_add_one,Vc0,List.take_set_of_le (Vaw _),ht,Veb hc2,Vac hc];rfl
   .have h1:¬decide ((k:Int) < (xs.length:Int))=true:=by simpa using hc
    rw[ZZi h1];rw[Vbh (by omega),Vbh (by omega)] at ht;rw[ht]
 have:=key FU 0 v (Vbk _) (by have:=Kb;omega) hv (by simp);simpa using this
theorem Z39 {sz n:Nat} {z:α} (h1:n*sz<=70368744177664) (h2:n<=9223372036854775807):mkI sz (n:Int) z=some (List.replicate n z):=by
 simp[mkI,h1,h2]
theorem Wg {sz:Nat} {xs ys:List α} (h1:(xs.length+ys.length)*sz<=140737488355328) (h2:xs.length+ys.length<=9223372036854775807):X1 sz xs ys=some (xs++ys):=by
 unfold X1;rw[ZZj ⟨h1,h2⟩]
end
section
variable {α:Type}
theorem Wx (xs:List α) (i:Int) (a:α):Qo xs i a=some (xs.set i.toNat a):=rfl
def atI [Inhabited α] (xs:List α) (i:Int):α:=xs.getD i.toNat default
theorem X5 [Inhabited α] {xs:List α} {k:Nat} (h:k < xs.length):atI xs (k:Int)=xs[k]:=by
 simp[atI,h]
theorem Xp [Inhabited α] {xs:List α} {i:Int} (h0:0<=i) (h1:i < (xs.length:Int)):idx xs i=some (atI xs i):=by
 obtain⟨k,rfl⟩:∃k:Nat,i=k:=⟨i.toNat,by omega⟩;have hk:k < xs.length:=by omega
 rw[Xc hk,X5 hk]
theorem Zj0 [Inhabited α] {xs:List α} {i:Int} (h0:0<=i) (h1:i < (xs.length:Int)):atI xs i∈xs:=by
 obtain⟨k,rfl⟩:∃k:Nat,i=k:=⟨i.toNat,by omega⟩;have hk:k < xs.length:=by omega
 rw[X5 hk];exact Vaq hk
theorem Zps [Inhabited α] {xs:List α} {i:Int} (a:α) (h0:0<=i) (h1:i < (xs.length:Int)):atI (xs.set i.toNat a) i=a:=by
 obtain⟨k,rfl⟩:∃k:Nat,i=k:=⟨i.toNat,by omega⟩;have hk:k < xs.length:=by omega
 rw[X5 (by simpa using hk)];simp
theorem Ykg [Inhabited α] {xs:List α} {i j:Int} (a:α) (h0:0<=i) (h1:0<=j) (hn:i≠j):atI (xs.set i.toNat a) j=atI xs j:=by
 unfold atI;rw[Vax,Vax,List.getElem?_set_ne (by omega)]
theorem Zwt {n:Int} (h:n≠0):nzI n=some ():=by unfold nzI;rw[ZZi h]
theorem Y1x {n:Int} (h:0<=n):nnI n=some ():=by unfold nnI;rw[ZZj h]
theorem Zeh {a n:Int} (h0:0<=a):Zay a n=a % n:=by unfold Zay;rw[Int.tmod_eq_emod_of_nonneg h0]
theorem Yaz {a n:Int} (h0:0<=a) (h1:a < 9223372036854775808) (hn:1<=n):Zrx a n=a / n:=by
 unfold Zrx;rw[Int.tdiv_eq_ediv_of_nonneg h0];have h2:0<=a / n:=Int.ediv_nonneg h0 (by omega);have h3:a / n<=a:=Int.ediv_le_self n h0;exact Z0f (by omega) (by omega)
theorem Yg1 (xs:List α) (hl:xs.length < 4611686018427387904) (f:α->Option Bool) (q:α->Bool) (hf:∀a∈xs,f a=some (!q a)) (L:Nat->Int->Option Int)
  (hL:∀m i,L (m+1) i=if decide (i < (xs.length:Int))=true then (idx xs i).bind λa=>(f a).bind λr=>if r=true then some i else L m (Zs i 1) else some (-1)):
  (xs.all q=true/\L FU 0=some (-1))\/∃k:Nat,∃h:k < xs.length,L FU 0=some (k:Int)/\q xs[k]=false/\(xs.take k).all q=true:=by
 have key:∀(m k:Nat),k<=xs.length->xs.length - k < m->(xs.take k).all q=true->(xs.all q=true/\L m k=some (-1))\/∃j:Nat,∃h:j < xs.length,L m k=some (j:Int)/\q xs[j]=false/\(xs.take j).all q=true:=by
  intro m
  induction m with
  | zero=>intro k _ h;omega
  | succ m ih=>
   intro k hk hm ht;rw[hL];by_cases hc:k < xs.length
   .have h1:decide ((k:Int) < (xs.length:Int))=true:=by simpa using hc
    rw[ZZj h1,Xc hc,ZZa,hf _ (Vaq hc),ZZa];by_cases hq:q xs[k]=true
    .have h2:¬(!q xs[k])=true:=by simp[hq]
     rw[ZZi h2,Wi (by omega)];refine ih (k+1) (by omega) (by omega) ?_;rw[List.take_succ_eq_append_getElem hc,List.all_append,ht];simp[hq]
    .have h2:(!q xs[k])=true:=by simpa using hq
     rw[ZZj h2];exact .inr ⟨k,hc,rfl,by simpa using hq,ht⟩
   .have h1:¬decide ((k:Int) < (xs.length:Int))=true:=by simpa using hc
    rw[ZZi h1];rw[Vbh (by omega)] at ht;exact .inl ⟨ht,rfl⟩
 exact key FU 0 (Vbk _) (by have:=Kb;omega) (by simp)
theorem Z1o (xs:List α) (hl:xs.length < 4611686018427387904) (f:α->Option Bool) (q:α->Bool) (hf:∀a∈xs,f a=some (!q a)) (L:Nat->Int->Option Int)
  (hL:∀m i,L (m+1) i=if decide (i < (xs.length:Int))=true then (idx xs i).bind λa=>(f a).bind λr=>if r=true then some i else L m (Zs i 1) else some (-1)):
  ((L FU 0).bind λr=>some (decide (r≥0)))=some (!xs.all q):=by
 rcases Yg1 xs hl f q hf L hL with⟨h1,h2⟩|⟨k,hk,h1,h2,h3⟩
 .rw[h2,h1];rfl
 .rw[h1,ZZa]
  have:xs.all q=false:=by
   rw[List.all_eq_false];exact⟨xs[k],Vaq hk,by simp[h2]⟩
  rw[this];have h4:((k:Nat):Int)≥0:=by omega
  simp[h4]
theorem Yrw (xs:List α) (z:α) (hl:xs.length < 4611686018427387904) (f:α->Option Bool) (q:α->Bool) (hf:∀a∈xs,f a=some (!q a)) (I:Nat->Int->Option Int)
  (hI:∀m i,I (m+1) i=if decide (i < (xs.length:Int))=true then (idx xs i).bind λa=>(f a).bind λr=>if r=true then some i else I m (Zs i 1) else some (-1))
  (L:Nat->List α->Int->Int->Option (List α))
  (hL:∀m v i j,L (m+1) v i j=if decide (j < (v.length:Int))=true then (idx v j).bind λa=>(f a).bind λr=>if (!r)=true then (idx v i).bind λ_=>(Qo v i a).bind λy=>L m y (Zs i 1) (Zs j 1) else L m v i (Zs j 1)
   else (J6 v i (v.length:Int)).bind λ_=>(Z23 z v i (v.length:Int)).bind λy=>(J6 y 0 i).bind λs=>some s):
  ((I FU 0).bind λr=>if decide (r=(-1))=true then some xs else L FU xs r (Zs r 1))=some (xs.filter q):=by
 have key:∀(m i j:Nat) (v:List α),i<=j->j<=xs.length->xs.length - j < m->v.length=xs.length->v.take i=(xs.take j).filter q->v.drop j=xs.drop j->L m v i j=some (xs.filter q):=by
  intro m
  induction m with
  | zero=>intro i j v _ _ h;omega
  | succ m ih=>
   intro i j v hij hj hm hv ht hd;rw[hL];by_cases hc:j < v.length
   .have hc2:j < xs.length:=by omega
    have h1:decide ((j:Int) < (v.length:Int))=true:=by simpa using hc
    have e:v[j]=xs[j]:=by
     have:=congrArg List.head? hd;simpa [List.head?_drop,hc,hc2] using this
    have hd2:v.drop (j+1)=xs.drop (j+1):=by
     have:=congrArg (List.drop 1) hd;simpa [List.drop_drop] using this
    rw[ZZj h1,Xc hc,ZZa,e,hf _ (Vaq hc2),ZZa,Vej];by_cases hq:q xs[j]=true
    .rw[ZZj hq,Xc (by omega:i < v.length),ZZa]
     simp only[Qo,ZZa];rw[Wi (by omega),Wi (by omega)];refine ih (i+1) (j+1) _ (by omega) (by omega) (by omega) (by simp[hv]) ?_ ?_
     .rw[Vbs,List.take_succ_eq_append_getElem (by simpa using (by omega:i < v.length)),List.take_set_of_le (Vaw _),ht,List.take_succ_eq_append_getElem hc2,Vc4]
      simp[hq]
     .rw[Vbs,List.drop_set_of_lt (by omega),hd2]
    .rw[ZZi hq,Wi (by omega)]
     refine ih i (j+1) v (by omega) (by omega) (by omega) hv ?_ hd2;rw[ht,List.take_succ_eq_append_getElem hc2,Vc4];simp[hq]
   .have h1:¬decide ((j:Int) < (v.length:Int))=true:=by simpa using hc
    have hjx:j=xs.length:=by omega
    rw[ZZi h1];have h2:J6 v (i:Int) (v.length:Int)=some ((v.drop i).take (v.length - i)):=by
     unfold J6;rw[ZZj ⟨by omega,by omega,by omega⟩];simp
    have h3:Z23 z v (i:Int) (v.length:Int)=some (v.take i++List.replicate (v.length - i) z++v.drop v.length):=by
     unfold Z23;have:(i:Int).toNat+((v.length:Int).toNat - (i:Int).toNat)=v.length:=by omega
     rw[ZZj (by omega),this];simp
    rw[h2,ZZa,h3,ZZa];have h4:J6 (v.take i++List.replicate (v.length - i) z++v.drop v.length) 0 (i:Int)=some (v.take i):=by
     unfold J6;rw[ZZj ⟨by omega,by omega,by simp;omega⟩];have:(v.take i).length=i:=by rw[Vbw];omega
     simp[List.append_assoc,List.take_append,this]
    rw[h4,ZZa,ht,hjx,Vbq]
 rcases Yg1 xs hl f q hf I hI with⟨h1,h2⟩|⟨k,hk,h1,h2,h3⟩
 .rw[h2,ZZa,ZZj (by decide)]
  congr 1
  exact (List.filter_eq_self.2 (λa ha=>ZZk.1 h1 a ha)).symm
 .rw[h1,ZZa,ZZi (by simp),Wi (by omega)]
  refine key FU k (k+1) xs (by omega) (by omega) (by have:=Kb;omega) rfl ?_ rfl;rw[List.take_succ_eq_append_getElem hk,Vc4,List.filter_eq_self.2 (λa ha=>ZZk.1 h3 a ha)];simp[h2]
theorem Ykn (sz:Nat) (hz:sz<=1024) (xs:List α) (hl:xs.length < 1048577) (f:α->Option α) (hf:∀a∈xs,f a=some a) {ρ:Type} (fin:List α->Option ρ) (L:Nat->List α->Int->Option ρ)
  (hL:∀m v i,L (m+1) v i=if decide (i < (xs.length:Int))=true then (idx xs i).bind λa=>(f a).bind λb=>(X1 sz v [b]).bind λz=>L m z (Zs i 1) else fin v):L FU [] 0=fin xs:=by
 have key:∀(m k:Nat),k<=xs.length->xs.length - k < m->L m (xs.take k) k=fin xs:=by
  intro m
  induction m with
  | zero=>intro k _ h;omega
  | succ m ih=>
   intro k hk hm;rw[hL];by_cases hc:k < xs.length
   .have h1:decide ((k:Int) < (xs.length:Int))=true:=by simpa using hc
    have Yn:(xs.take k).length=k:=by rw[Vbw];omega
    have hb:(k+1)*sz<=140737488355328:=Vb6 (Nat.mul_le_mul (by omega:k+1<=1048577) hz) (by decide);rw[ZZj h1,Xc hc,ZZa,hf _ (Vaq hc),ZZa,Wg (by simpa [Yn] using hb) (by simp[Yn];omega),ZZa,Wi (by omega),<-List.take_succ_eq_append_getElem hc];exact ih (k+1) (by omega) (by omega)
   .have h1:¬decide ((k:Int) < (xs.length:Int))=true:=by simpa using hc
    rw[ZZi h1,Vbh (by omega)]
 have:=key FU 0 (Vbk _) (by have:=Kb;omega);simpa using this
end
theorem Y6i (bs:ByteArray):∀(n i:Nat) (r:List UInt8),bs.size - i=n->ByteArray.toList.loop bs i r=r.reverse++bs.data.toList.drop i:=by
 intro n
 induction n with
 | zero=>
  intro i r h;unfold ByteArray.toList.loop;have hs:bs.data.toList.length=bs.size:=rfl;rw[ZZi (by omega),Vbb (by omega)];simp
 | succ n ih=>
  intro i r h;unfold ByteArray.toList.loop;have hs:bs.data.toList.length=bs.size:=rfl;have hi:i < bs.data.toList.length:=by omega
  rw[ZZj (by omega),ih (i+1) _ (by omega),Va5 hi];have:bs.get! i=bs.data.toList[i]:=by
   have hi2:i < bs.data.size:=hi;simp[ByteArray.get!,getElem!_def,Vaf hi2]
  rw[this];simp
theorem Ykk (bs:ByteArray):bs.toList=bs.data.toList:=by
 unfold ByteArray.toList;rw[Y6i bs _ 0 [] rfl];simp
theorem Ydz {β:Type} {c:Prop} [Decidable c] {x:β}:(if c then x else x)=x:=by split<;>rfl
theorem Zbv {σ ρ:Type} {n:Nat} (hn:n < 4611686018427387904) (st:Nat->σ) {B:(σ->Int->ρ)->σ->Int->ρ} {L:Nat->σ->Int->ρ} (hL:∀m s i,L (m+1) s i=B (L m) s i)
  (hs:∀k,k < n->∀κ,B κ (st k) (k:Int)=κ (st (k+1)) (Zs (k:Int) 1)) {r:ρ} (hf:∀κ,B κ (st n) (n:Int)=r):L FU (st 0) 0=r:=by
 have key:∀(m k:Nat),k<=n->n - k < m->L m (st k) (k:Int)=r:=by
  intro m
  induction m with
  | zero=>intro k _ h;omega
  | succ m ih=>
   intro k hk hm;rw[hL];by_cases hc:k < n
   .rw[hs k hc,Wi (by omega)]
    exact ih (k+1) (by omega) (by omega)
   .have:k=n:=by omega
    subst this;exact hf _
 have:=key FU 0 (Vbk _) (by have:=Kb;omega);simpa using this
theorem Yqn {ρ:Type} {n:Nat} (hn:n < 4611686018427387904) {B:(Int->ρ)->Int->ρ} {L:Nat->Int->ρ} (hL:∀m i,L (m+1) i=B (L m) i)
  (hs:∀k,k < n->∀κ,B κ (k:Int)=κ (Zs (k:Int) 1)) {r:ρ} (hf:∀κ,B κ (n:Int)=r):L FU 0=r:=
 Zbv (σ:=Unit) hn (λ_=>()) (B:=λκ _ i=>B (κ ()) i) (L:=λm _ i=>L m i) (λm _ i=>hL m i) (λk hk κ=>hs k hk _) λκ=>hf _
theorem Z18 {k:Int} (h0:0<=k) (h1:k < 1152921504606846976):w1 k=k+1:=by
 simp[w1,IntKind.wrap,IntKind.bits,IntKind.signed];omega
theorem Zyq {k:Int}:Zs k 1=w1 k:=rfl
theorem Z8h {k:Int}:decide (Zay k 3=0)=b3 k:=rfl
def Inc {α:Type} (f:α->Int->α×Int) (w:α->Nat):Prop:=∀x k,0<=k->k+(w x:Int)<=1152921504606846976->(f x k).2=k+(w x:Int)
def Ky {α:Type} (w:α->Nat) (l:List α):Nat:=(l.map w).sum
section
variable {α:Type} {f:α->Int->α×Int} {w:α->Nat}
theorem Znf {x:α} {l:List α}:Ky w (x::l)=w x+Ky w l:=by simp[Ky]
theorem Yvk (hf:Inc f w):∀{j:Nat} {l:List α} {k:Int},0<=k->k+(Ky w l:Int)<=1152921504606846976->(mkN f j l k).2=k+(Ky w (l.take j):Int):=by
 intro j
 induction j with
 | zero=>intro l k _ _;simp[mkN,Ky]
 | succ j ih=>
  intro l k h0 h1;cases l with
  | nil=>simp[mkN,Ky]
  | cons x l=>
   rw[Znf] at h1;have e:=hf x k h0 (by omega);simp only[mkN,Vdo,Znf];rw[ih (by rw[e];omega) (by rw[e];omega),e];omega
theorem Zq8 (hf:Inc f w) {l:List α} {k:Int} (h0:0<=k) (h1:k+(Ky w l:Int)<=1152921504606846976):(mkL f l k).2=k+(Ky w l:Int):=by
 rw[<-Yay,Yvk hf h0 h1,Vbq]
theorem Y6q {l:List α} {k:Int}:(mkL f l k).1.length=l.length:=by rw[<-Yay,Yve]
theorem Y50:∀{j:Nat} {l:List α} {k:Int} {x:α},l[j]?=some x->(mkL f l k).1[j]?=some (f x (mkN f j l k).2).1/\(mkN f (j+1) l k).2=(f x (mkN f j l k).2).2:=by
 intro j
 induction j with
 | zero=>
  intro l k x h;cases l with
  | nil=>simp at h
  | cons y l=>
   have e:y=x:=by simpa using h
   subst e;exact⟨rfl,rfl⟩
 | succ j ih=>
  intro l k x h;cases l with
  | nil=>simp at h
  | cons y l=>
   obtain⟨h1,h2⟩:=ih (l:=l) (k:=(f y k).2) (x:=x) (by simpa using h);exact⟨by simpa [mkL,mkN] using h1,by simpa [mkN] using h2⟩
theorem Y40 {l:List α} {j:Nat} {x:α} (h:l[j]?=some x):Ky w (l.take j)+w x<=Ky w l:=by
 induction l generalizing j with
 | nil=>simp at h
 | cons y l ih=>
  cases j with
  | zero=>
   have e:y=x:=by simpa using h
   subst e;rw[Znf];simp[Ky]
  | succ j=>
   have:=ih (j:=j) (by simpa using h);rw[Vdo,Znf,Znf];omega
theorem Zq7 (hf:Inc f w) (l:List α) (k:Int) (hl:l.length < 1048577) (h0:0<=k) (h1:k+(Ky w l:Int)<=1152921504606846976) {B:(Int->Int->Option Int)->Int->Int->Option Int} {L:Nat->Int->Int->Option Int} (hL:∀m s i,L (m+1) s i=B (L m) s i)
  (step:∀(κ:Int->Int->Option Int) (j:Nat) (x:α) (c:Int),(hj:j < (mkL f l k).1.length)->x∈l->0<=c->c+(w x:Int)<=1152921504606846976->(mkL f l k).1[j]=(f x c).1->B κ c (j:Int)=κ (f x c).2 (Zs (j:Int) 1))
  (fin:∀(κ:Int->Int->Option Int) (c:Int),B κ c ((mkL f l k).1.length:Int)=some c):L FU k 0=some (mkL f l k).2:=by
 have hn:(mkL f l k).1.length=l.length:=Y6q;refine Zbv (n:=(mkL f l k).1.length) (by omega) (λj=>(mkN f j l k).2) hL (λj hj κ=>?_) (λκ=>?_)
 .have hx:l[j]?=some (l[j]'(by omega)):=Vac (by omega)
  obtain⟨e1,e2⟩:=Y50 (f:=f) (k:=k) hx;have e3:(mkL f l k).1[j]=(f (l[j]'(by omega)) (mkN f j l k).2).1:=by
   rw[Vac hj] at e1;injection e1
  have e4:=Yvk hf (j:=j) h0 h1;have e5:=Y40 (w:=w) hx;rw[e2];exact step κ j _ _ hj (Vaq _) (by rw[e4];omega) (by rw[e4];omega) e3
 .rw[hn,Yay,<-hn];exact fin κ _
end
theorem Zmp {α:Type} (n:Nat) (l:List α):Ky (λ_=>n) l=n*l.length:=by
 induction l with
 | nil=>rfl
 | cons x l ih=>rw[Znf,ih,Vaa,Nat.mul_succ];omega
theorem Yuy:Inc Yc (λ_=>1):=λx k h0 h1=>by
 have h2:k+1<=1152921504606846976:=h1;simp only[Yc];simp (discharger:=omega) only[Z18];rfl
theorem Yop:Inc Zbg (λ_=>7):=λx k h0 h1=>by
 have h2:k+7<=1152921504606846976:=h1;show _=k+7;simp only[Zbg];simp (discharger:=omega) only[Z18];omega
theorem Yf6:Inc Y8 (λ_=>2):=λx k h0 h1=>by
 have h2:k+2<=1152921504606846976:=h1;show _=k+2;simp only[Y8];simp (discharger:=omega) only[Z18];omega
theorem Ykf:Inc Jr (λ_=>4):=λx k h0 h1=>by
 have h2:k+4<=1152921504606846976:=h1;show _=k+4;simp only[Jr];simp (discharger:=omega) only[Z18];omega
def Z2y (r:Zi):Nat:=5+r.data_.length
theorem Zf8 {l:List Int} {k:Int} (h0:0<=k) (h1:k+(l.length:Int)<=1152921504606846976):(mkL Yc l k).2=k+(l.length:Int):=by
 have e:=Zmp (α:=Int) 1 l;have:=Zq8 Yuy (l:=l) h0 (by rw[e];omega);rw[this,e];omega
theorem Yim:Inc Kl Z2y:=λx k h0 h1=>by
 have h2:k+5+(x.data_.length:Int)<=1152921504606846976:=by unfold Z2y at h1;omega
 simp only[Kl];simp (discharger:=omega) only[Z18];rw[Zf8 (by omega) (by omega)];unfold Z2y;omega
def Zh1 (m:Zb):Nat:=Ky Z2y m.queue+5
theorem Yu8:Inc Wj Zh1:=λx k h0 h1=>by
 have h2:k+(Ky Z2y x.queue:Int)+5<=1152921504606846976:=by unfold Zh1 at h1;omega
 have e:=Zq8 Yim (l:=x.queue) h0 (by omega);simp only[Wj,e];simp (discharger:=omega) only[Z18];unfold Zh1;omega
theorem Zsi (l:List Int) (k:Int) (hl:l.length < 1048577) (h0:0<=k) (h1:k+(l.length:Int)<=1152921504606846976):Zc2 (mkL Yc l k).1 k=some (mkL Yc l k).2:=by
 unfold Zc2;refine Zq7 Yuy l k hl h0 (by rw[Zmp];omega) (B:=λκ st j=>Zha (mkL Yc l k).1 k κ st j) (λm s i=>rfl) (λκ j x c hj hx hc hm e=>?_) (λκ c=>?_)
 .unfold Zha
  rw[ZZj (by simpa using hj),Xc hj,ZZa,e];simp[Yc,Zyq]
 .unfold Zha
  rw[ZZi (by simp)]
theorem Yt2 (l:List Zr) (k:Int) (hl:l.length < 1048577) (h0:0<=k) (h1:k+7*(l.length:Int)<=1152921504606846976):Zqc (mkL Zbg l k).1 k=some (mkL Zbg l k).2:=by
 unfold Zqc;refine Zq7 Yop l k hl h0 (by rw[Zmp];omega) (B:=λκ st j=>Zgj (mkL Zbg l k).1 k κ st j) (λm s i=>rfl) (λκ j x c hj hx hc hm e=>?_) (λκ c=>?_)
 .unfold Zgj
  rw[ZZj (by simpa using hj),Xc hj,ZZa,e]
  try simp only[Z8h]
  simp[Zbg,Zyq]
 .unfold Zgj
  rw[ZZi (by simp)]
theorem Yl6 (l:List Zf) (k:Int) (hl:l.length < 1048577) (h0:0<=k) (h1:k+2*(l.length:Int)<=1152921504606846976):Zkz (mkL Y8 l k).1 k=some (mkL Y8 l k).2:=by
 unfold Zkz;refine Zq7 Yf6 l k hl h0 (by rw[Zmp];omega) (B:=λκ st j=>Zdw (mkL Y8 l k).1 k κ st j) (λm s i=>rfl) (λκ j x c hj hx hc hm e=>?_) (λκ c=>?_)
 .unfold Zdw
  rw[ZZj (by simpa using hj),Xc hj,ZZa,e]
  try simp only[Z8h]
  simp[Y8,Zyq]
 .unfold Zdw
  rw[ZZi (by simp)]
theorem Ynz (l:List Zc) (k:Int) (hl:l.length < 1048577) (h0:0<=k) (h1:k+4*(l.length:Int)<=1152921504606846976):Zn6 (mkL Jr l k).1 k=some (mkL Jr l k).2:=by
 unfold Zn6;refine Zq7 Ykf l k hl h0 (by rw[Zmp];omega) (B:=λκ st j=>Zfa (mkL Jr l k).1 k κ st j) (λm s i=>rfl) (λκ j x c hj hx hc hm e=>?_) (λκ c=>?_)
 .unfold Zfa
  rw[ZZj (by simpa using hj),Xc hj,ZZa,e]
  try simp only[Z8h]
  simp[Jr,Zyq]
 .unfold Zfa
  rw[ZZi (by simp)]
theorem Yxe (l:List Zi) (k:Int) (hl:l.length < 1048577) (hd:∀r∈l,r.data_.length < 1048577) (h0:0<=k) (h1:k+(Ky Z2y l:Int)<=1152921504606846976):Zr1 (mkL Kl l k).1 k=some (mkL Kl l k).2:=by
 unfold Zr1;refine Zq7 Yim l k hl h0 h1 (B:=λκ st j=>Zhn (mkL Kl l k).1 k κ st j) (λm s i=>rfl) (λκ j x c hj hx hc hm e=>?_) (λκ c=>?_)
 .have h2:c+5+(x.data_.length:Int)<=1152921504606846976:=by unfold Z2y at hm;omega
  have e5:w1 (w1 (w1 (w1 (w1 c))))=c+5:=by
   simp (discharger:=omega) only[Z18];omega
  have e6:=Zf8 (l:=x.data_) (k:=c+5) (by omega) (by omega);have e7:=Zsi x.data_ (c+5) (hd x hx) (by omega) (by omega);unfold Zhn;rw[ZZj (by simpa using hj),Xc hj,ZZa,e];have e8:Zs (Zs (Zs (Zs (Zs c 1) 1) 1) 1) 1=c+5:=e5
  try simp only[Z8h]
  simp only[Kl,e8,e5,e7,ZZa,e6];rw[ZZi (show ¬decide (c+5+(x.data_.length:Int) < 0)=true by simp;omega)];simp[Zyq]
 .unfold Zhn
  rw[ZZi (by simp)]
theorem Ywd (l:List Zb) (k:Int) (hl:l.length < 1048577) (hd:∀m∈l,m.queue.length < 1048577/\∀r∈m.queue,r.data_.length < 1048577) (h0:0<=k) (h1:k+(Ky Zh1 l:Int)<=1152921504606846976):Ztu (mkL Wj l k).1 k=some (mkL Wj l k).2:=by
 unfold Ztu;refine Zq7 Yu8 l k hl h0 h1 (B:=λκ st j=>Zhh (mkL Wj l k).1 k κ st j) (λm s i=>rfl) (λκ j x c hj hx hc hm e=>?_) (λκ c=>?_)
 .have h2:c+(Ky Z2y x.queue:Int)+5<=1152921504606846976:=by unfold Zh1 at hm;omega
  have e6:=Zq8 Yim (l:=x.queue) (k:=c) hc (by omega);have e7:=Yxe x.queue c (hd x hx).1 (hd x hx).2 hc (by omega);unfold Zhh;rw[ZZj (by simpa using hj),Xc hj,ZZa,e]
  try simp only[Z8h]
  simp only[Wj,e7,ZZa];rw[ZZi (show ¬decide ((mkL Kl x.queue c).2 < 0)=true by rw[e6];simp;omega)];simp[Zyq]
 .unfold Zhh
  rw[ZZi (by simp)]
end Go.Proofs.YtagdmghmblplbaaGreat.Ev
namespace Go.Proofs.YtagdmghmblplbaaGreat.Ev
open Go Go.Proofs Go.RowKit KM
theorem Zuy {a:Int} (h:0<=a):decide (a < 0)=false:=by simp;omega
theorem dlt_t {a:Int} (h:a < 0):decide (a < 0)=true:=by simpa using h
theorem dne_f {a:Int}:decide (a≠a)=false:=by simp
theorem Yww {a:Bool}:(a != a)=false:=by simp
theorem Ymx {a:Bool} (h:a=false):(a == false)=true:=by rw[h];rfl
section
variable [Anchor]
theorem Ybc (x0:Zh) (x1:Ze) (x2:Int) {l0:Int}  (hc0:Ztw x0 1048576=some l0) (hn1:l0 < 0):Zv Tryz.prog Mo (4,[.agg (Zh.enc x0),.agg (Ze.enc x1),il x2],.lit (.bool true),[.undef,.undef,.undef]):=by
 refine Yn0 fOk (fn:=Tryz.f4) (c:=Xm Tryz.f4) (rt:=6) (b:=true) (xs:=[.agg (Zh.enc x0),.agg (Ze.enc x1),il x2]) (by kernel_rfl) (by kernel_rfl) (by kernel_rfl) (by kernel_rfl) (by rfl) (of_decide_eq_true (by kernel_rfl)) ?_;exact Zbn (M:=Mo) fOk 300 [.res (Zcr x0 1048576 l0).2.2.1 (Zcr x0 1048576 l0).2.2.2,.t true]
  (p:=(Zv Tryz.prog Mo (Zcr x0 1048576 l0))/\((decide (l0 < 0))=true)/\(True))
  ⟨Z5b hc0,(dlt_t hn1),trivial⟩ (ts:=[6]) (ks:=[]) (e:=.ret) (vs:=[.lit (.bool true)]) (bs:=[]) (by kernel_rfl) (λs h1 _=>⟨rfl,by simpa using h1⟩)
theorem Yba (x0:Zh) (x1:Ze) (x2:Int) {l0 l1:Int}  (hc0:Ztw x0 1048576=some l0) (hz1:0<=l0) (hc2:Zt0 x1 l0=some l1) (hn3:l1 < 0):Zv Tryz.prog Mo (4,[.agg (Zh.enc x0),.agg (Ze.enc x1),il x2],.lit (.bool true),[.undef,.undef,.undef]):=by
 refine Yn0 fOk (fn:=Tryz.f4) (c:=Xm Tryz.f4) (rt:=6) (b:=true) (xs:=[.agg (Zh.enc x0),.agg (Ze.enc x1),il x2]) (by kernel_rfl) (by kernel_rfl) (by kernel_rfl) (by kernel_rfl) (by rfl) (of_decide_eq_true (by kernel_rfl)) ?_;exact Zbn (M:=Mo) fOk 300 [.res (Zcr x0 1048576 l0).2.2.1 (Zcr x0 1048576 l0).2.2.2,.t false,.res (Zew x1 l0 l1).2.2.1 (Zew x1 l0 l1).2.2.2,.t true]
  (p:=(Zv Tryz.prog Mo (Zcr x0 1048576 l0))/\((decide (l0 < 0))=false)/\(Zv Tryz.prog Mo (Zew x1 l0 l1))/\((decide (l1 < 0))=true)/\(True))
  ⟨Z5b hc0,(Zuy hz1),Z7t hc2,(dlt_t hn3),trivial⟩ (ts:=[6]) (ks:=[]) (e:=.ret) (vs:=[.lit (.bool true)]) (bs:=[]) (by kernel_rfl) (λs h1 _=>⟨rfl,by simpa using h1⟩)
theorem Yfy (x0:Zh) (x1:Ze) (x2:Int) {l0 l1:Int} (v0:Za) (v1:Bool) (hc0:Ztw x0 1048576=some l0) (hz1:0<=l0) (hc2:Zt0 x1 l0=some l1) (hz3:0<=l1) (hc4:Zxn x0=some x0) (hc5:Zs9 x1=some x1) (hc6:Z46 x0 x1 x2=some (v0,v1)) (hc7:Z6w x0 x1 x2=some (v0,v1)) (hc8:Zwv v0 v0=some true) (hc9:Zsh x0 x0=some true) (hc10:Zrv x1 x1=some true) (hm11:x0.mok) (hm12:x1.mok) (Yrt:0<=(Kz x1 ((Yo x0 1).2)).2) (hm14:v0.mok) (hc15:Zo8 ((X7 v0 1).1) 1=some ((X7 v0 1).2)) (hz16:0<=(X7 v0 1).2):Zv Tryz.prog Mo (4,[.agg (Zh.enc x0),.agg (Ze.enc x1),il x2],.lit (.bool true),[.undef,.undef,.undef]):=by
 refine Yn0 fOk (fn:=Tryz.f4) (c:=Xm Tryz.f4) (rt:=6) (b:=true) (xs:=[.agg (Zh.enc x0),.agg (Ze.enc x1),il x2]) (by kernel_rfl) (by kernel_rfl) (by kernel_rfl) (by kernel_rfl) (by rfl) (of_decide_eq_true (by kernel_rfl)) ?_;exact Zbn (M:=Mo) fOk 300 [.res (Zcr x0 1048576 l0).2.2.1 (Zcr x0 1048576 l0).2.2.2,.t false,.res (Zew x1 l0 l1).2.2.1 (Zew x1 l0 l1).2.2.2,.t false,.res (Jq x0 x0).2.2.1 (Jq x0 x0).2.2.2,.res (Qy x1 x1).2.2.1 (Qy x1 x1).2.2.2,.res (Zz5 x0 x1 x2 ((v0,v1))).2.2.1 (Zz5 x0 x1 x2 ((v0,v1))).2.2.2,.res (Jq x0 x0).2.2.1 (Jq x0 x0).2.2.2,.res (Qy x1 x1).2.2.1 (Qy x1 x1).2.2.2,.res (Zma x0 x1 x2 ((v0,v1))).2.2.1 (Zma x0 x1 x2 ((v0,v1))).2.2.2,.res (Zd4 v0 v0 true).2.2.1 (Zd4 v0 v0 true).2.2.2,.k,.k,.k,.k,.t false,.res (Jq x0 x0).2.2.1 (Jq x0 x0).2.2.2,.res (Zxw x0 x0 true).2.2.1 (Zxw x0 x0 true).2.2.2,.k,.res (Qy x1 x1).2.2.1 (Qy x1 x1).2.2.2,.res (Zr0 x1 x1 true).2.2.1 (Zr0 x1 x1 true).2.2.2,.k,.res (.lit (.int .i64 (Yo x0 1).2)) (Zh.enc (Yo x0 1).1),.res (.lit (.int .i64 (Kz x1 ((Yo x0 1).2)).2)) (Ze.enc (Kz x1 ((Yo x0 1).2)).1),.t true,.t true,.t true,.res (Zd4 v0 v0 true).2.2.1 (Zd4 v0 v0 true).2.2.2,.t true,.t false,.k,.k,.k,.k,.t false,.res (.lit (.int .i64 (X7 v0 1).2)) (Za.enc (X7 v0 1).1),.res (Zgz ((X7 v0 1).1) 1 ((X7 v0 1).2)).2.2.1 (Zgz ((X7 v0 1).1) 1 ((X7 v0 1).2)).2.2.2,.t false,.t false,.res (Jq x0 x0).2.2.1 (Jq x0 x0).2.2.2,.res (Qy x1 x1).2.2.1 (Qy x1 x1).2.2.2,.res (Zma x0 x1 x2 ((v0,v1))).2.2.1 (Zma x0 x1 x2 ((v0,v1))).2.2.2,.res (Zd4 v0 v0 true).2.2.1 (Zd4 v0 v0 true).2.2.2,.k,.k,.k,.k,.t false,.res (Zgz ((X7 v0 1).1) 1 ((X7 v0 1).2)).2.2.1 (Zgz ((X7 v0 1).1) 1 ((X7 v0 1).2)).2.2.2,.t false,.t false]
  (p:=(Zv Tryz.prog Mo (Zcr x0 1048576 l0))/\((decide (l0 < 0))=false)/\(Zv Tryz.prog Mo (Zew x1 l0 l1))/\((decide (l1 < 0))=false)/\(Zv Tryz.prog Mo (Jq x0 x0))/\(Zv Tryz.prog Mo (Qy x1 x1))/\(Zv Tryz.prog Mo (Zz5 x0 x1 x2 ((v0,v1))))/\(Zv Tryz.prog Mo (Jq x0 x0))/\(Zv Tryz.prog Mo (Qy x1 x1))/\(Zv Tryz.prog Mo (Zma x0 x1 x2 ((v0,v1))))/\(Zv Tryz.prog Mo (Zd4 v0 v0 true))/\((v1 != v1)=false)/\(Zv Tryz.prog Mo (Jq x0 x0))/\(Zv Tryz.prog Mo (Zxw x0 x0 true))/\(Zv Tryz.prog Mo (Qy x1 x1))/\(Zv Tryz.prog Mo (Zr0 x1 x1 true))/\(Qx Tryz.prog 17 true (Zh.enc x0) (Zh.enc (Yo x0 1).1) 1 (Yo x0 1).2)/\(Qx Tryz.prog 27 true (Ze.enc x1) (Ze.enc (Kz x1 ((Yo x0 1).2)).1) ((Yo x0 1).2) (Kz x1 ((Yo x0 1).2)).2)/\(((decide ((Kz x1 ((Yo x0 1).2)).2 < 0)) == false)=true)/\(((decide ((Kz x1 ((Yo x0 1).2)).2 < 0)) == false)=true)/\(((decide ((Kz x1 ((Yo x0 1).2)).2 < 0)) == false)=true)/\(Zv Tryz.prog Mo (Zd4 v0 v0 true))/\(((decide ((Kz x1 ((Yo x0 1).2)).2 < 0)) == false)=true)/\((decide ((Kz x1 ((Yo x0 1).2)).2 < 0))=false)/\((v1 != v1)=false)/\(Qx Tryz.prog 28 true (Za.enc v0) (Za.enc (X7 v0 1).1) 1 (X7 v0 1).2)/\(Zv Tryz.prog Mo (Zgz ((X7 v0 1).1) 1 ((X7 v0 1).2)))/\((decide ((X7 v0 1).2 < 0))=false)/\((decide ((X7 v0 1).2≠(X7 v0 1).2))=false)/\(Zv Tryz.prog Mo (Jq x0 x0))/\(Zv Tryz.prog Mo (Qy x1 x1))/\(Zv Tryz.prog Mo (Zma x0 x1 x2 ((v0,v1))))/\(Zv Tryz.prog Mo (Zd4 v0 v0 true))/\((v1 != v1)=false)/\(Zv Tryz.prog Mo (Zgz ((X7 v0 1).1) 1 ((X7 v0 1).2)))/\((decide ((X7 v0 1).2 < 0))=false)/\((decide ((X7 v0 1).2≠(X7 v0 1).2))=false)/\(True))
  ⟨Z5b hc0,(Zuy hz1),Z7t hc2,(Zuy hz3),Zxt hc4,Zsj hc5,Y2e hc6,Zxt hc4,Zsj hc5,Yod hc7,Z9s hc8,(Yww),Zxt hc4,Ygj hc9,Zsj hc5,Yni hc10,Ybj _ _ hm11,Ylw _ _ hm12,Ymx (Zuy Yrt),Ymx (Zuy Yrt),Ymx (Zuy Yrt),Z9s hc8,Ymx (Zuy Yrt),(Zuy Yrt),(Yww),Yyn _ _ hm14,Ycf hc15,(Zuy hz16),(dne_f),Zxt hc4,Zsj hc5,Yod hc7,Z9s hc8,(Yww),Ycf hc15,(Zuy hz16),(dne_f),trivial⟩ (ts:=[6]) (ks:=[]) (e:=.ret) (vs:=[.lit (.bool true)]) (bs:=[]) (by kernel_rfl) (λs h1 _=>⟨rfl,by simpa using h1⟩)
end
end Go.Proofs.YtagdmghmblplbaaGreat.Ev
