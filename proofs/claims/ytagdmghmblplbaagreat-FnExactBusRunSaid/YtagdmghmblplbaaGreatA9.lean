/- A part of the proof of FnExactBusRun: see the text YtagdmghmblplbaaGreatLawFnExactBusRun for what is proved and its conditions. Conditions here: those in each line. -/
import Derived.Test.YtagdmghmblplbaaGreatA8
import Derived.KernelRfl
set_option linter.unusedSimpArgs false
set_option linter.unusedVariables false
set_option linter.unusedSectionVars false
namespace Go.Proofs.YtagdmghmblplbaaGreat.Ev
open Go Go.Proofs Go.RowKit KM
abbrev w1 (k:Int):Int:=IntKind.i64.wrap (k+1)
abbrev b3 (k:Int):Bool:=decide (k.tmod 3=0)
def sqL:Code->Code
 | .seq a _=>a
 | c=>c
def sqR:Code->Code
 | .seq _ b=>b
 | c=>c
def blC:Code->Code
 | .block _ c=>c
 | c=>c
def lpC:Code->Code
 | .loop c=>c
 | c=>c
theorem Zxa {i:Nat} (h:i < 1152921504606846976):w1 (i:Int)=((i+1:Nat):Int):=by
 unfold w1;simp[IntKind.wrap,IntKind.bits,IntKind.signed];omega
abbrev rs {α:Type} (e:α->List V) (l:List α) (i:Nat) (r:List V):List (List V):=(l.map e).set i r
abbrev nn (i:Nat):Prop:=X0 (toV (.lit (.int .i64 (i:Int))))=some i
theorem Zwt {α:Type} {e:α->List V} {l:List α} {i:Nat} {a:α} (h:l[i]?=some a):decide ((i:Int) < ((l.map e).length:Int))=true:=by
 have:=(ZZh.1 h).1;simp;omega
theorem Zca {α:Type} {e:α->List V} {l:List α} {i:Nat} {a:α} (h:l[i]?=some a):(l.map e)[i]?=some (e a):=by
 rw[Va8,h];rfl
section
variable [Anchor]
theorem Z9 {α:Type} {e:α->List V} {l:List α} {i:Nat} {a:α} (h:l[i]?=some a) (r:List V):((l.map e).set i r)[i]?=some r:=set_at (Zca h)
def Ye (_:Int) (k:Int):Int×Int:=(k,w1 k)
def rInt1 (a:Int) (k:Int):List V:=(Ze a).set 0 (.lit (.int .i64 (k)))
theorem Zb5 {rows:List (List V)} {i:Nat} {r r':List V}:(rows.set i r).set i r'=rows.set i r':=by rw[Vei]
theorem Ydz {α:Type} {e:α->List V} {l:List α} {i:Nat} {a:α} {r r':List V} (h:e a=r'):((l.map e).set i r).set i r'=(l.set i a).map e:=by rw[Vei,map_set,h]
theorem Zee (l:List Int) (k:Int) (hl:l.length<=1152921504606846976):Qr Tryz.prog 57 false [.tr (l.map Ze)] [.tr ((mkL Ye l k).1.map Ze)] k (mkL Ye l k).2:=by
 refine Znk (M:=Mo) fOk (fn:=Tryz.f57) (r0:=sqL (Xd Tryz.f57)) (r1:=sqL (sqL (sqR (Xd Tryz.f57)))) (body:=lpC (blC (sqR (sqL (sqR (Xd Tryz.f57)))))) (post:=sqR (sqR (Xd Tryz.f57))) (f:=Ye) (by kernel_rfl) (by kernel_rfl) (by kernel_rfl) l k (Qp:=λ_=>True) (λ_ _=>trivial) hl (λts=>by kernel_rfl) (λl k z e ob bk bx u=>by kernel_rfl) (λl k z e ob bk bx u=>by kernel_rfl) (λl k z e i ob bk bx u=>by kernel_rfl) λl i a k z e ob bk bx u h hi hq=>
  Zax (M:=Mo) fOk 100 [.t true,.row i (Ze a),.put (Ze a) ((l.set i (Ye a k).1).map Ze)]
   (p:=(decide ((i:Int) < ((l.map Ze).length:Int))=true)/\(nn i)/\((l.map Ze)[i]?=some (Ze a))/\((l.map Ze)[i]?=some (Ze a))/\((l.map Ze).set i (rInt1 a k)=((l.set i (Ye a k).1).map Ze))/\True)
   ⟨Zwt h,Xa,Zca h,Zca h,map_set.symm,trivial⟩ (ts:=[0,1,5]) (ks:=[0]) (e:=.normal) (vs:=[.ob 0,.lit (.int .i64 (w1 k)),.lit (.int .i64 (w1 (i:Int)))]) (bs:=[some ⟨true,z,e,((l.set i (Ye a k).1).map Ze)⟩]) (by kernel_rfl) (λs h1 h2=>⟨rfl,.of (by rw[h1,Zxa hi];rfl) h2⟩)
def Zbc (x:Zn) (k:Int):Zn×Int:=({x with cycle:=k,who:=w1 k,write:=b3 (w1 (w1 k)),addr:=w1 (w1 (w1 k)),size:=w1 (w1 (w1 (w1 k))),value:=w1 (w1 (w1 (w1 (w1 k)))),resp:=w1 (w1 (w1 (w1 (w1 (w1 k)))))},w1 (w1 (w1 (w1 (w1 (w1 (w1 k)))))))
def Zmg (a:Zn) (k:Int):List V:=(Zn.enc a).set 0 (.lit (.int .i64 (k)))
def Zmf (a:Zn) (k:Int):List V:=(Zmg a k).set 1 (.lit (.int .i64 (w1 k)))
def Zmm (a:Zn) (k:Int):List V:=(Zmf a k).set 2 (.lit (.bool (b3 (w1 (w1 k)))))
def Zmu (a:Zn) (k:Int):List V:=(Zmm a k).set 3 (.lit (.int .i64 (w1 (w1 (w1 k)))))
def Znj (a:Zn) (k:Int):List V:=(Zmu a k).set 4 (.lit (.int .i64 (w1 (w1 (w1 (w1 k))))))
def Zmv (a:Zn) (k:Int):List V:=(Znj a k).set 5 (.lit (.int .i64 (w1 (w1 (w1 (w1 (w1 k)))))))
def rDone7 (a:Zn) (k:Int):List V:=(Zmv a k).set 6 (.lit (.int .i64 (w1 (w1 (w1 (w1 (w1 (w1 k))))))))
theorem Yq4 (l:List Zn) (k:Int) (hl:l.length<=1152921504606846976):Qr Tryz.prog 19 false [.tr (l.map Zn.enc)] [.tr ((mkL Zbc l k).1.map Zn.enc)] k (mkL Zbc l k).2:=by
 refine Znk (M:=Mo) fOk (fn:=Tryz.f19) (r0:=sqL (Xd Tryz.f19)) (r1:=sqL (sqL (sqR (Xd Tryz.f19)))) (body:=lpC (blC (sqR (sqL (sqR (Xd Tryz.f19)))))) (post:=sqR (sqR (Xd Tryz.f19))) (f:=Zbc) (by kernel_rfl) (by kernel_rfl) (by kernel_rfl) l k (Qp:=λ_=>True) (λ_ _=>trivial) hl (λts=>by kernel_rfl) (λl k z e ob bk bx u=>by kernel_rfl) (λl k z e ob bk bx u=>by kernel_rfl) (λl k z e i ob bk bx u=>by kernel_rfl) λl i a k z e ob bk bx u h hi hq=>
  Zax (M:=Mo) fOk 100 [.t true,.row i (Zn.enc a),.put (Zn.enc a) (rs Zn.enc l i (Zmg a k)),.row i (Zmg a k),.put (Zmg a k) (rs Zn.enc l i (Zmf a k)),.k,.row i (Zmf a k),.put (Zmf a k) (rs Zn.enc l i (Zmm a k)),.row i (Zmm a k),.put (Zmm a k) (rs Zn.enc l i (Zmu a k)),.row i (Zmu a k),.put (Zmu a k) (rs Zn.enc l i (Znj a k)),.row i (Znj a k),.put (Znj a k) (rs Zn.enc l i (Zmv a k)),.row i (Zmv a k),.put (Zmv a k) ((l.set i (Zbc a k).1).map Zn.enc)]
   (p:=(decide ((i:Int) < ((l.map Zn.enc).length:Int))=true)/\(nn i)/\((l.map Zn.enc)[i]?=some (Zn.enc a))/\((l.map Zn.enc)[i]?=some (Zn.enc a))/\((l.map Zn.enc).set i (Zmg a k)=(rs Zn.enc l i (Zmg a k)))/\(nn i)/\((rs Zn.enc l i (Zmg a k))[i]?=some (Zmg a k))/\((rs Zn.enc l i (Zmg a k))[i]?=some (Zmg a k))/\((rs Zn.enc l i (Zmg a k)).set i (Zmf a k)=(rs Zn.enc l i (Zmf a k)))/\(nn i)/\((rs Zn.enc l i (Zmf a k))[i]?=some (Zmf a k))/\((rs Zn.enc l i (Zmf a k))[i]?=some (Zmf a k))/\((rs Zn.enc l i (Zmf a k)).set i (Zmm a k)=(rs Zn.enc l i (Zmm a k)))/\(nn i)/\((rs Zn.enc l i (Zmm a k))[i]?=some (Zmm a k))/\((rs Zn.enc l i (Zmm a k))[i]?=some (Zmm a k))/\((rs Zn.enc l i (Zmm a k)).set i (Zmu a k)=(rs Zn.enc l i (Zmu a k)))/\(nn i)/\((rs Zn.enc l i (Zmu a k))[i]?=some (Zmu a k))/\((rs Zn.enc l i (Zmu a k))[i]?=some (Zmu a k))/\((rs Zn.enc l i (Zmu a k)).set i (Znj a k)=(rs Zn.enc l i (Znj a k)))/\(nn i)/\((rs Zn.enc l i (Znj a k))[i]?=some (Znj a k))/\((rs Zn.enc l i (Znj a k))[i]?=some (Znj a k))/\((rs Zn.enc l i (Znj a k)).set i (Zmv a k)=(rs Zn.enc l i (Zmv a k)))/\(nn i)/\((rs Zn.enc l i (Zmv a k))[i]?=some (Zmv a k))/\((rs Zn.enc l i (Zmv a k))[i]?=some (Zmv a k))/\((rs Zn.enc l i (Zmv a k)).set i (rDone7 a k)=((l.set i (Zbc a k).1).map Zn.enc))/\True)
   ⟨Zwt h,Xa,Zca h,Zca h,rfl,Xa,Z9 h _,Z9 h _,Zb5,Xa,Z9 h _,Z9 h _,Zb5,Xa,Z9 h _,Z9 h _,Zb5,Xa,Z9 h _,Z9 h _,Zb5,Xa,Z9 h _,Z9 h _,Zb5,Xa,Z9 h _,Z9 h _,Ydz rfl,trivial⟩ (ts:=[0,1,5]) (ks:=[0]) (e:=.normal) (vs:=[.ob 0,.lit (.int .i64 (w1 (w1 (w1 (w1 (w1 (w1 (w1 k)))))))),.lit (.int .i64 (w1 (i:Int)))]) (bs:=[some ⟨true,z,e,((l.set i (Zbc a k).1).map Zn.enc)⟩]) (by kernel_rfl) (λs h1 h2=>⟨rfl,.of (by rw[h1,Zxa hi];rfl) h2⟩)
def X4 (x:Zg) (k:Int):Zg×Int:=({x with cycle:=k,addr:=w1 k,kind:=w1 (w1 k),who:=w1 (w1 (w1 k)),data_:=w1 (w1 (w1 (w1 k))),from_:=w1 (w1 (w1 (w1 (w1 k)))),ready:=b3 (w1 (w1 (w1 (w1 (w1 (w1 k)))))),resp:=w1 (w1 (w1 (w1 (w1 (w1 (w1 k)))))),got:=w1 (w1 (w1 (w1 (w1 (w1 (w1 (w1 k)))))))},w1 (w1 (w1 (w1 (w1 (w1 (w1 (w1 (w1 k)))))))))
def Zng (a:Zg) (k:Int):List V:=(Zg.enc a).set 0 (.lit (.int .i64 (k)))
def Znt (a:Zg) (k:Int):List V:=(Zng a k).set 1 (.lit (.int .i64 (w1 k)))
def Zmi (a:Zg) (k:Int):List V:=(Znt a k).set 2 (.lit (.int .i64 (w1 (w1 k))))
def Znm (a:Zg) (k:Int):List V:=(Zmi a k).set 3 (.lit (.int .i64 (w1 (w1 (w1 k)))))
def Zm7 (a:Zg) (k:Int):List V:=(Znm a k).set 4 (.lit (.int .i64 (w1 (w1 (w1 (w1 k))))))
def Zm0 (a:Zg) (k:Int):List V:=(Zm7 a k).set 5 (.lit (.int .i64 (w1 (w1 (w1 (w1 (w1 k)))))))
def Znb (a:Zg) (k:Int):List V:=(Zm0 a k).set 6 (.lit (.bool (b3 (w1 (w1 (w1 (w1 (w1 (w1 k)))))))))
def Zns (a:Zg) (k:Int):List V:=(Znb a k).set 7 (.lit (.int .i64 (w1 (w1 (w1 (w1 (w1 (w1 (w1 k)))))))))
def rWave9 (a:Zg) (k:Int):List V:=(Zns a k).set 8 (.lit (.int .i64 (w1 (w1 (w1 (w1 (w1 (w1 (w1 (w1 k))))))))))
theorem Yq1 (l:List Zg) (k:Int) (hl:l.length<=1152921504606846976):Qr Tryz.prog 40 false [.tr (l.map Zg.enc)] [.tr ((mkL X4 l k).1.map Zg.enc)] k (mkL X4 l k).2:=by
 refine Znk (M:=Mo) fOk (fn:=Tryz.f40) (r0:=sqL (Xd Tryz.f40)) (r1:=sqL (sqL (sqR (Xd Tryz.f40)))) (body:=lpC (blC (sqR (sqL (sqR (Xd Tryz.f40)))))) (post:=sqR (sqR (Xd Tryz.f40))) (f:=X4) (by kernel_rfl) (by kernel_rfl) (by kernel_rfl) l k (Qp:=λ_=>True) (λ_ _=>trivial) hl (λts=>by kernel_rfl) (λl k z e ob bk bx u=>by kernel_rfl) (λl k z e ob bk bx u=>by kernel_rfl) (λl k z e i ob bk bx u=>by kernel_rfl) λl i a k z e ob bk bx u h hi hq=>
  Zax (M:=Mo) fOk 100 [.t true,.row i (Zg.enc a),.put (Zg.enc a) (rs Zg.enc l i (Zng a k)),.row i (Zng a k),.put (Zng a k) (rs Zg.enc l i (Znt a k)),.row i (Znt a k),.put (Znt a k) (rs Zg.enc l i (Zmi a k)),.row i (Zmi a k),.put (Zmi a k) (rs Zg.enc l i (Znm a k)),.row i (Znm a k),.put (Znm a k) (rs Zg.enc l i (Zm7 a k)),.row i (Zm7 a k),.put (Zm7 a k) (rs Zg.enc l i (Zm0 a k)),.k,.row i (Zm0 a k),.put (Zm0 a k) (rs Zg.enc l i (Znb a k)),.row i (Znb a k),.put (Znb a k) (rs Zg.enc l i (Zns a k)),.row i (Zns a k),.put (Zns a k) ((l.set i (X4 a k).1).map Zg.enc)]
   (p:=(decide ((i:Int) < ((l.map Zg.enc).length:Int))=true)/\(nn i)/\((l.map Zg.enc)[i]?=some (Zg.enc a))/\((l.map Zg.enc)[i]?=some (Zg.enc a))/\((l.map Zg.enc).set i (Zng a k)=(rs Zg.enc l i (Zng a k)))/\(nn i)/\((rs Zg.enc l i (Zng a k))[i]?=some (Zng a k))/\((rs Zg.enc l i (Zng a k))[i]?=some (Zng a k))/\((rs Zg.enc l i (Zng a k)).set i (Znt a k)=(rs Zg.enc l i (Znt a k)))/\(nn i)/\((rs Zg.enc l i (Znt a k))[i]?=some (Znt a k))/\((rs Zg.enc l i (Znt a k))[i]?=some (Znt a k))/\((rs Zg.enc l i (Znt a k)).set i (Zmi a k)=(rs Zg.enc l i (Zmi a k)))/\(nn i)/\((rs Zg.enc l i (Zmi a k))[i]?=some (Zmi a k))/\((rs Zg.enc l i (Zmi a k))[i]?=some (Zmi a k))/\((rs Zg.enc l i (Zmi a k)).set i (Znm a k)=(rs Zg.enc l i (Znm a k)))/\(nn i)/\((rs Zg.enc l i (Znm a k))[i]?=some (Znm a k))/\((rs Zg.enc l i (Znm a k))[i]?=some (Znm a k))/\((rs Zg.enc l i (Znm a k)).set i (Zm7 a k)=(rs Zg.enc l i (Zm7 a k)))/\(nn i)/\((rs Zg.enc l i (Zm7 a k))[i]?=some (Zm7 a k))/\((rs Zg.enc l i (Zm7 a k))[i]?=some (Zm7 a k))/\((rs Zg.enc l i (Zm7 a k)).set i (Zm0 a k)=(rs Zg.enc l i (Zm0 a k)))/\(nn i)/\((rs Zg.enc l i (Zm0 a k))[i]?=some (Zm0 a k))/\((rs Zg.enc l i (Zm0 a k))[i]?=some (Zm0 a k))/\((rs Zg.enc l i (Zm0 a k)).set i (Znb a k)=(rs Zg.enc l i (Znb a k)))/\(nn i)/\((rs Zg.enc l i (Znb a k))[i]?=some (Znb a k))/\((rs Zg.enc l i (Znb a k))[i]?=some (Znb a k))/\((rs Zg.enc l i (Znb a k)).set i (Zns a k)=(rs Zg.enc l i (Zns a k)))/\(nn i)/\((rs Zg.enc l i (Zns a k))[i]?=some (Zns a k))/\((rs Zg.enc l i (Zns a k))[i]?=some (Zns a k))/\((rs Zg.enc l i (Zns a k)).set i (rWave9 a k)=((l.set i (X4 a k).1).map Zg.enc))/\True)
   ⟨Zwt h,Xa,Zca h,Zca h,rfl,Xa,Z9 h _,Z9 h _,Zb5,Xa,Z9 h _,Z9 h _,Zb5,Xa,Z9 h _,Z9 h _,Zb5,Xa,Z9 h _,Z9 h _,Zb5,Xa,Z9 h _,Z9 h _,Zb5,Xa,Z9 h _,Z9 h _,Zb5,Xa,Z9 h _,Z9 h _,Zb5,Xa,Z9 h _,Z9 h _,Ydz rfl,trivial⟩ (ts:=[0,1,5]) (ks:=[0]) (e:=.normal) (vs:=[.ob 0,.lit (.int .i64 (w1 (w1 (w1 (w1 (w1 (w1 (w1 (w1 (w1 k)))))))))),.lit (.int .i64 (w1 (i:Int)))]) (bs:=[some ⟨true,z,e,((l.set i (X4 a k).1).map Zg.enc)⟩]) (by kernel_rfl) (λs h1 h2=>⟨rfl,.of (by rw[h1,Zxa hi];rfl) h2⟩)
def Xc (x:Zc) (k:Int):Zc×Int:=({x with tokens:=k,count:=w1 k},w1 (w1 k))
def Zfc (a:Zc) (k:Int):List V:=(Zc.enc a).set 0 (.lit (.int .i64 (k)))
def Y24 (a:Zc) (k:Int):List V:=(Zfc a k).set 1 (.lit (.int .i64 (w1 k)))
theorem Yi5 (l:List Zc) (k:Int) (hl:l.length<=1152921504606846976):Qr Tryz.prog 75 false [.tr (l.map Zc.enc)] [.tr ((mkL Xc l k).1.map Zc.enc)] k (mkL Xc l k).2:=by
 refine Znk (M:=Mo) fOk (fn:=Tryz.f75) (r0:=sqL (Xd Tryz.f75)) (r1:=sqL (sqL (sqR (Xd Tryz.f75)))) (body:=lpC (blC (sqR (sqL (sqR (Xd Tryz.f75)))))) (post:=sqR (sqR (Xd Tryz.f75))) (f:=Xc) (by kernel_rfl) (by kernel_rfl) (by kernel_rfl) l k (Qp:=λ_=>True) (λ_ _=>trivial) hl (λts=>by kernel_rfl) (λl k z e ob bk bx u=>by kernel_rfl) (λl k z e ob bk bx u=>by kernel_rfl) (λl k z e i ob bk bx u=>by kernel_rfl) λl i a k z e ob bk bx u h hi hq=>
  Zax (M:=Mo) fOk 100 [.t true,.row i (Zc.enc a),.put (Zc.enc a) (rs Zc.enc l i (Zfc a k)),.row i (Zfc a k),.put (Zfc a k) ((l.set i (Xc a k).1).map Zc.enc)]
   (p:=(decide ((i:Int) < ((l.map Zc.enc).length:Int))=true)/\(nn i)/\((l.map Zc.enc)[i]?=some (Zc.enc a))/\((l.map Zc.enc)[i]?=some (Zc.enc a))/\((l.map Zc.enc).set i (Zfc a k)=(rs Zc.enc l i (Zfc a k)))/\(nn i)/\((rs Zc.enc l i (Zfc a k))[i]?=some (Zfc a k))/\((rs Zc.enc l i (Zfc a k))[i]?=some (Zfc a k))/\((rs Zc.enc l i (Zfc a k)).set i (Y24 a k)=((l.set i (Xc a k).1).map Zc.enc))/\True)
   ⟨Zwt h,Xa,Zca h,Zca h,rfl,Xa,Z9 h _,Z9 h _,Ydz rfl,trivial⟩ (ts:=[0,1,5]) (ks:=[0]) (e:=.normal) (vs:=[.ob 0,.lit (.int .i64 (w1 (w1 k))),.lit (.int .i64 (w1 (i:Int)))]) (bs:=[some ⟨true,z,e,((l.set i (Xc a k).1).map Zc.enc)⟩]) (by kernel_rfl) (λs h1 h2=>⟨rfl,.of (by rw[h1,Zxa hi];rfl) h2⟩)
def Jq (x:Zd) (k:Int):Zd×Int:=({x with weight:=k,prio:=b3 (w1 k),every:=w1 (w1 k),cap:=w1 (w1 (w1 k))},w1 (w1 (w1 (w1 k))))
def Zh6 (a:Zd) (k:Int):List V:=(Zd.enc a).set 0 (.lit (.int .i64 (k)))
def Zh3 (a:Zd) (k:Int):List V:=(Zh6 a k).set 1 (.lit (.bool (b3 (w1 k))))
def Zia (a:Zd) (k:Int):List V:=(Zh3 a k).set 2 (.lit (.int .i64 (w1 (w1 k))))
def Y6i (a:Zd) (k:Int):List V:=(Zia a k).set 3 (.lit (.int .i64 (w1 (w1 (w1 k)))))
theorem Ymg (l:List Zd) (k:Int) (hl:l.length<=1152921504606846976):Qr Tryz.prog 56 false [.tr (l.map Zd.enc)] [.tr ((mkL Jq l k).1.map Zd.enc)] k (mkL Jq l k).2:=by
 refine Znk (M:=Mo) fOk (fn:=Tryz.f56) (r0:=sqL (Xd Tryz.f56)) (r1:=sqL (sqL (sqR (Xd Tryz.f56)))) (body:=lpC (blC (sqR (sqL (sqR (Xd Tryz.f56)))))) (post:=sqR (sqR (Xd Tryz.f56))) (f:=Jq) (by kernel_rfl) (by kernel_rfl) (by kernel_rfl) l k (Qp:=λ_=>True) (λ_ _=>trivial) hl (λts=>by kernel_rfl) (λl k z e ob bk bx u=>by kernel_rfl) (λl k z e ob bk bx u=>by kernel_rfl) (λl k z e i ob bk bx u=>by kernel_rfl) λl i a k z e ob bk bx u h hi hq=>
  Zax (M:=Mo) fOk 100 [.t true,.row i (Zd.enc a),.put (Zd.enc a) (rs Zd.enc l i (Zh6 a k)),.k,.row i (Zh6 a k),.put (Zh6 a k) (rs Zd.enc l i (Zh3 a k)),.row i (Zh3 a k),.put (Zh3 a k) (rs Zd.enc l i (Zia a k)),.row i (Zia a k),.put (Zia a k) ((l.set i (Jq a k).1).map Zd.enc)]
   (p:=(decide ((i:Int) < ((l.map Zd.enc).length:Int))=true)/\(nn i)/\((l.map Zd.enc)[i]?=some (Zd.enc a))/\((l.map Zd.enc)[i]?=some (Zd.enc a))/\((l.map Zd.enc).set i (Zh6 a k)=(rs Zd.enc l i (Zh6 a k)))/\(nn i)/\((rs Zd.enc l i (Zh6 a k))[i]?=some (Zh6 a k))/\((rs Zd.enc l i (Zh6 a k))[i]?=some (Zh6 a k))/\((rs Zd.enc l i (Zh6 a k)).set i (Zh3 a k)=(rs Zd.enc l i (Zh3 a k)))/\(nn i)/\((rs Zd.enc l i (Zh3 a k))[i]?=some (Zh3 a k))/\((rs Zd.enc l i (Zh3 a k))[i]?=some (Zh3 a k))/\((rs Zd.enc l i (Zh3 a k)).set i (Zia a k)=(rs Zd.enc l i (Zia a k)))/\(nn i)/\((rs Zd.enc l i (Zia a k))[i]?=some (Zia a k))/\((rs Zd.enc l i (Zia a k))[i]?=some (Zia a k))/\((rs Zd.enc l i (Zia a k)).set i (Y6i a k)=((l.set i (Jq a k).1).map Zd.enc))/\True)
   ⟨Zwt h,Xa,Zca h,Zca h,rfl,Xa,Z9 h _,Z9 h _,Zb5,Xa,Z9 h _,Z9 h _,Zb5,Xa,Z9 h _,Z9 h _,Ydz rfl,trivial⟩ (ts:=[0,1,5]) (ks:=[0]) (e:=.normal) (vs:=[.ob 0,.lit (.int .i64 (w1 (w1 (w1 (w1 k))))),.lit (.int .i64 (w1 (i:Int)))]) (bs:=[some ⟨true,z,e,((l.set i (Jq a k).1).map Zd.enc)⟩]) (by kernel_rfl) (λs h1 h2=>⟨rfl,.of (by rw[h1,Zxa hi];rfl) h2⟩)
def Kg (x:Zf) (k:Int):Zf×Int:=({x with write:=b3 (k),addr:=w1 k,size:=w1 (w1 k),burst:=w1 (w1 (w1 k)),lock:=b3 (w1 (w1 (w1 (w1 k)))),data_:=(mkL Ye x.data_ (w1 (w1 (w1 (w1 (w1 k)))))).1},(mkL Ye x.data_ (w1 (w1 (w1 (w1 (w1 k)))))).2)
def Zsq (a:Zf) (k:Int):List V:=(Zf.enc a).set 0 (.lit (.bool (b3 (k))))
def Zry (a:Zf) (k:Int):List V:=(Zsq a k).set 1 (.lit (.int .i64 (w1 k)))
def Ztm (a:Zf) (k:Int):List V:=(Zry a k).set 2 (.lit (.int .i64 (w1 (w1 k))))
def Zt2 (a:Zf) (k:Int):List V:=(Ztm a k).set 3 (.lit (.int .i64 (w1 (w1 (w1 k)))))
def Zli (a:Zf) (k:Int):List V:=(Zt2 a k).set 4 (.lit (.bool (b3 (w1 (w1 (w1 (w1 k)))))))
def rReq6 (a:Zf) (k:Int):List V:=(Zli a k).set 5 (.tr ((mkL Ye a.data_ (w1 (w1 (w1 (w1 (w1 k)))))).1.map Ze))
theorem Ysx (l:List Zf) (k:Int) (hl:l.length<=1152921504606846976) (hq:∀x∈l,x.data_.length<=1152921504606846976):Qr Tryz.prog 18 false [.tr (l.map Zf.enc)] [.tr ((mkL Kg l k).1.map Zf.enc)] k (mkL Kg l k).2:=by
 refine Znk (M:=Mo) fOk (fn:=Tryz.f18) (r0:=sqL (Xd Tryz.f18)) (r1:=sqL (sqL (sqR (Xd Tryz.f18)))) (body:=lpC (blC (sqR (sqL (sqR (Xd Tryz.f18)))))) (post:=sqR (sqR (Xd Tryz.f18))) (f:=Kg) (by kernel_rfl) (by kernel_rfl) (by kernel_rfl) l k (Qp:=λx=>x.data_.length<=1152921504606846976) hq hl (λts=>by kernel_rfl) (λl k z e ob bk bx u=>by kernel_rfl) (λl k z e ob bk bx u=>by kernel_rfl) (λl k z e i ob bk bx u=>by kernel_rfl) λl i a k z e ob bk bx u h hi hq=>
  Zax (M:=Mo) fOk 100 [.t true,.k,.row i (Zf.enc a),.put (Zf.enc a) (rs Zf.enc l i (Zsq a k)),.row i (Zsq a k),.put (Zsq a k) (rs Zf.enc l i (Zry a k)),.row i (Zry a k),.put (Zry a k) (rs Zf.enc l i (Ztm a k)),.row i (Ztm a k),.put (Ztm a k) (rs Zf.enc l i (Zt2 a k)),.k,.row i (Zt2 a k),.put (Zt2 a k) (rs Zf.enc l i (Zli a k)),.row i (Zli a k),.cell (Zli a k),.put (Zli a k) ((l.set i (Kg a k).1).map Zf.enc),.res (.lit (.int .i64 (mkL Ye a.data_ (w1 (w1 (w1 (w1 (w1 k)))))).2)) [.tr ((mkL Ye a.data_ (w1 (w1 (w1 (w1 (w1 k)))))).1.map Ze)]]
   (p:=(decide ((i:Int) < ((l.map Zf.enc).length:Int))=true)/\(nn i)/\((l.map Zf.enc)[i]?=some (Zf.enc a))/\((l.map Zf.enc)[i]?=some (Zf.enc a))/\((l.map Zf.enc).set i (Zsq a k)=(rs Zf.enc l i (Zsq a k)))/\(nn i)/\((rs Zf.enc l i (Zsq a k))[i]?=some (Zsq a k))/\((rs Zf.enc l i (Zsq a k))[i]?=some (Zsq a k))/\((rs Zf.enc l i (Zsq a k)).set i (Zry a k)=(rs Zf.enc l i (Zry a k)))/\(nn i)/\((rs Zf.enc l i (Zry a k))[i]?=some (Zry a k))/\((rs Zf.enc l i (Zry a k))[i]?=some (Zry a k))/\((rs Zf.enc l i (Zry a k)).set i (Ztm a k)=(rs Zf.enc l i (Ztm a k)))/\(nn i)/\((rs Zf.enc l i (Ztm a k))[i]?=some (Ztm a k))/\((rs Zf.enc l i (Ztm a k))[i]?=some (Ztm a k))/\((rs Zf.enc l i (Ztm a k)).set i (Zt2 a k)=(rs Zf.enc l i (Zt2 a k)))/\(nn i)/\((rs Zf.enc l i (Zt2 a k))[i]?=some (Zt2 a k))/\((rs Zf.enc l i (Zt2 a k))[i]?=some (Zt2 a k))/\((rs Zf.enc l i (Zt2 a k)).set i (Zli a k)=(rs Zf.enc l i (Zli a k)))/\(nn i)/\((rs Zf.enc l i (Zli a k))[i]?=some (Zli a k))/\((rs Zf.enc l i (Zli a k))[i]?=some (Zli a k))/\((rs Zf.enc l i (Zli a k))[i]?=some (Zli a k))/\(Qr Tryz.prog 57 false [.tr (a.data_.map Ze)] [.tr ((mkL Ye a.data_ (w1 (w1 (w1 (w1 (w1 k)))))).1.map Ze)] (w1 (w1 (w1 (w1 (w1 k))))) (mkL Ye a.data_ (w1 (w1 (w1 (w1 (w1 k)))))).2)/\((rs Zf.enc l i (Zli a k)).set i (rReq6 a k)=((l.set i (Kg a k).1).map Zf.enc))/\True)
   ⟨Zwt h,Xa,Zca h,Zca h,rfl,Xa,Z9 h _,Z9 h _,Zb5,Xa,Z9 h _,Z9 h _,Zb5,Xa,Z9 h _,Z9 h _,Zb5,Xa,Z9 h _,Z9 h _,Zb5,Xa,Z9 h _,Z9 h _,Z9 h _,Zee _ _ hq,Ydz rfl,trivial⟩ (ts:=[0,1,5]) (ks:=[0]) (e:=.normal) (vs:=[.ob 0,.lit (.int .i64 ((mkL Ye a.data_ (w1 (w1 (w1 (w1 (w1 k)))))).2)),.lit (.int .i64 (w1 (i:Int)))]) (bs:=[some ⟨true,z,e,((l.set i (Kg a k).1).map Zf.enc)⟩]) (by kernel_rfl) (λs h1 h2=>⟨rfl,.of (by rw[h1,Zxa hi];rfl) h2⟩)
def Qx (x:Zm) (k:Int):Zm×Int:=({x with at_:=k,who:=w1 k,req:={x.req with write:=b3 (w1 (w1 k)),addr:=w1 (w1 (w1 k)),size:=w1 (w1 (w1 (w1 k))),burst:=w1 (w1 (w1 (w1 (w1 k)))),lock:=b3 (w1 (w1 (w1 (w1 (w1 (w1 k)))))),data_:=(mkL Ye x.req.data_ (w1 (w1 (w1 (w1 (w1 (w1 (w1 k)))))))).1}},(mkL Ye x.req.data_ (w1 (w1 (w1 (w1 (w1 (w1 (w1 k)))))))).2)
def Zms (a:Zm) (k:Int):List V:=(Zm.enc a).set 0 (.lit (.int .i64 (k)))
def Zmn (a:Zm) (k:Int):List V:=(Zms a k).set 1 (.lit (.int .i64 (w1 k)))
def Zm8 (a:Zm) (k:Int):List V:=(Zmn a k).set 2 (.lit (.bool (b3 (w1 (w1 k)))))
def Zm1 (a:Zm) (k:Int):List V:=(Zm8 a k).set 3 (.lit (.int .i64 (w1 (w1 (w1 k)))))
def Zl9 (a:Zm) (k:Int):List V:=(Zm1 a k).set 4 (.lit (.int .i64 (w1 (w1 (w1 (w1 k))))))
def Znd (a:Zm) (k:Int):List V:=(Zl9 a k).set 5 (.lit (.int .i64 (w1 (w1 (w1 (w1 (w1 k)))))))
def Zf5 (a:Zm) (k:Int):List V:=(Znd a k).set 6 (.lit (.bool (b3 (w1 (w1 (w1 (w1 (w1 (w1 k)))))))))
def rPost8 (a:Zm) (k:Int):List V:=(Zf5 a k).set 7 (.tr ((mkL Ye a.req.data_ (w1 (w1 (w1 (w1 (w1 (w1 (w1 k)))))))).1.map Ze))
theorem Yqq (l:List Zm) (k:Int) (hl:l.length<=1152921504606846976) (hq:∀x∈l,x.req.data_.length<=1152921504606846976):Qr Tryz.prog 73 false [.tr (l.map Zm.enc)] [.tr ((mkL Qx l k).1.map Zm.enc)] k (mkL Qx l k).2:=by
 refine Znk (M:=Mo) fOk (fn:=Tryz.f73) (r0:=sqL (Xd Tryz.f73)) (r1:=sqL (sqL (sqR (Xd Tryz.f73)))) (body:=lpC (blC (sqR (sqL (sqR (Xd Tryz.f73)))))) (post:=sqR (sqR (Xd Tryz.f73))) (f:=Qx) (by kernel_rfl) (by kernel_rfl) (by kernel_rfl) l k (Qp:=λx=>x.req.data_.length<=1152921504606846976) hq hl (λts=>by kernel_rfl) (λl k z e ob bk bx u=>by kernel_rfl) (λl k z e ob bk bx u=>by kernel_rfl) (λl k z e i ob bk bx u=>by kernel_rfl) λl i a k z e ob bk bx u h hi hq=>
  Zax (M:=Mo) fOk 100 [.t true,.row i (Zm.enc a),.put (Zm.enc a) (rs Zm.enc l i (Zms a k)),.row i (Zms a k),.put (Zms a k) (rs Zm.enc l i (Zmn a k)),.k,.row i (Zmn a k),.put (Zmn a k) (rs Zm.enc l i (Zm8 a k)),.row i (Zm8 a k),.put (Zm8 a k) (rs Zm.enc l i (Zm1 a k)),.row i (Zm1 a k),.put (Zm1 a k) (rs Zm.enc l i (Zl9 a k)),.row i (Zl9 a k),.put (Zl9 a k) (rs Zm.enc l i (Znd a k)),.k,.row i (Znd a k),.put (Znd a k) (rs Zm.enc l i (Zf5 a k)),.row i (Zf5 a k),.cell (Zf5 a k),.put (Zf5 a k) ((l.set i (Qx a k).1).map Zm.enc),.res (.lit (.int .i64 (mkL Ye a.req.data_ (w1 (w1 (w1 (w1 (w1 (w1 (w1 k)))))))).2)) [.tr ((mkL Ye a.req.data_ (w1 (w1 (w1 (w1 (w1 (w1 (w1 k)))))))).1.map Ze)]]
   (p:=(decide ((i:Int) < ((l.map Zm.enc).length:Int))=true)/\(nn i)/\((l.map Zm.enc)[i]?=some (Zm.enc a))/\((l.map Zm.enc)[i]?=some (Zm.enc a))/\((l.map Zm.enc).set i (Zms a k)=(rs Zm.enc l i (Zms a k)))/\(nn i)/\((rs Zm.enc l i (Zms a k))[i]?=some (Zms a k))/\((rs Zm.enc l i (Zms a k))[i]?=some (Zms a k))/\((rs Zm.enc l i (Zms a k)).set i (Zmn a k)=(rs Zm.enc l i (Zmn a k)))/\(nn i)/\((rs Zm.enc l i (Zmn a k))[i]?=some (Zmn a k))/\((rs Zm.enc l i (Zmn a k))[i]?=some (Zmn a k))/\((rs Zm.enc l i (Zmn a k)).set i (Zm8 a k)=(rs Zm.enc l i (Zm8 a k)))/\(nn i)/\((rs Zm.enc l i (Zm8 a k))[i]?=some (Zm8 a k))/\((rs Zm.enc l i (Zm8 a k))[i]?=some (Zm8 a k))/\((rs Zm.enc l i (Zm8 a k)).set i (Zm1 a k)=(rs Zm.enc l i (Zm1 a k)))/\(nn i)/\((rs Zm.enc l i (Zm1 a k))[i]?=some (Zm1 a k))/\((rs Zm.enc l i (Zm1 a k))[i]?=some (Zm1 a k))/\((rs Zm.enc l i (Zm1 a k)).set i (Zl9 a k)=(rs Zm.enc l i (Zl9 a k)))/\(nn i)/\((rs Zm.enc l i (Zl9 a k))[i]?=some (Zl9 a k))/\((rs Zm.enc l i (Zl9 a k))[i]?=some (Zl9 a k))/\((rs Zm.enc l i (Zl9 a k)).set i (Znd a k)=(rs Zm.enc l i (Znd a k)))/\(nn i)/\((rs Zm.enc l i (Znd a k))[i]?=some (Znd a k))/\((rs Zm.enc l i (Znd a k))[i]?=some (Znd a k))/\((rs Zm.enc l i (Znd a k)).set i (Zf5 a k)=(rs Zm.enc l i (Zf5 a k)))/\(nn i)/\((rs Zm.enc l i (Zf5 a k))[i]?=some (Zf5 a k))/\((rs Zm.enc l i (Zf5 a k))[i]?=some (Zf5 a k))/\((rs Zm.enc l i (Zf5 a k))[i]?=some (Zf5 a k))/\(Qr Tryz.prog 57 false [.tr (a.req.data_.map Ze)] [.tr ((mkL Ye a.req.data_ (w1 (w1 (w1 (w1 (w1 (w1 (w1 k)))))))).1.map Ze)] (w1 (w1 (w1 (w1 (w1 (w1 (w1 k))))))) (mkL Ye a.req.data_ (w1 (w1 (w1 (w1 (w1 (w1 (w1 k)))))))).2)/\((rs Zm.enc l i (Zf5 a k)).set i (rPost8 a k)=((l.set i (Qx a k).1).map Zm.enc))/\True)
   ⟨Zwt h,Xa,Zca h,Zca h,rfl,Xa,Z9 h _,Z9 h _,Zb5,Xa,Z9 h _,Z9 h _,Zb5,Xa,Z9 h _,Z9 h _,Zb5,Xa,Z9 h _,Z9 h _,Zb5,Xa,Z9 h _,Z9 h _,Zb5,Xa,Z9 h _,Z9 h _,Zb5,Xa,Z9 h _,Z9 h _,Z9 h _,Zee _ _ hq,Ydz rfl,trivial⟩ (ts:=[0,1,5]) (ks:=[0]) (e:=.normal) (vs:=[.ob 0,.lit (.int .i64 ((mkL Ye a.req.data_ (w1 (w1 (w1 (w1 (w1 (w1 (w1 k)))))))).2)),.lit (.int .i64 (w1 (i:Int)))]) (bs:=[some ⟨true,z,e,((l.set i (Qx a k).1).map Zm.enc)⟩]) (by kernel_rfl) (λs h1 h2=>⟨rfl,.of (by rw[h1,Zxa hi];rfl) h2⟩)
def Wk (x:Zb) (k:Int):Zb×Int:=({x with queue:=(mkL Kg x.queue (k)).1,beat:=(mkL Kg x.queue (k)).2,done:=w1 ((mkL Kg x.queue (k)).2),tries:=w1 (w1 ((mkL Kg x.queue (k)).2)),parted:=b3 (w1 (w1 (w1 ((mkL Kg x.queue (k)).2)))),broken:=b3 (w1 (w1 (w1 (w1 ((mkL Kg x.queue (k)).2)))))},w1 (w1 (w1 (w1 (w1 ((mkL Kg x.queue (k)).2))))))
def Zr6 (a:Zb) (k:Int):List V:=(Zb.enc a).set 0 (.tr ((mkL Kg a.queue (k)).1.map Zf.enc))
def Zso (a:Zb) (k:Int):List V:=(Zr6 a k).set 1 (.lit (.int .i64 ((mkL Kg a.queue (k)).2)))
def Zs0 (a:Zb) (k:Int):List V:=(Zso a k).set 2 (.lit (.int .i64 (w1 ((mkL Kg a.queue (k)).2))))
def Zt6 (a:Zb) (k:Int):List V:=(Zs0 a k).set 3 (.lit (.int .i64 (w1 (w1 ((mkL Kg a.queue (k)).2)))))
def Ztr (a:Zb) (k:Int):List V:=(Zt6 a k).set 4 (.lit (.bool (b3 (w1 (w1 (w1 ((mkL Kg a.queue (k)).2)))))))
def rMst6 (a:Zb) (k:Int):List V:=(Ztr a k).set 5 (.lit (.bool (b3 (w1 (w1 (w1 (w1 ((mkL Kg a.queue (k)).2))))))))
theorem Yux (l:List Zb) (k:Int) (hl:l.length<=1152921504606846976) (hq:∀x∈l,x.queue.length<=1152921504606846976/\∀y∈x.queue,y.data_.length<=1152921504606846976):Qr Tryz.prog 74 false [.tr (l.map Zb.enc)] [.tr ((mkL Wk l k).1.map Zb.enc)] k (mkL Wk l k).2:=by
 refine Znk (M:=Mo) fOk (fn:=Tryz.f74) (r0:=sqL (Xd Tryz.f74)) (r1:=sqL (sqL (sqR (Xd Tryz.f74)))) (body:=lpC (blC (sqR (sqL (sqR (Xd Tryz.f74)))))) (post:=sqR (sqR (Xd Tryz.f74))) (f:=Wk) (by kernel_rfl) (by kernel_rfl) (by kernel_rfl) l k (Qp:=λx=>x.queue.length<=1152921504606846976/\∀y∈x.queue,y.data_.length<=1152921504606846976) hq hl (λts=>by kernel_rfl) (λl k z e ob bk bx u=>by kernel_rfl) (λl k z e ob bk bx u=>by kernel_rfl) (λl k z e i ob bk bx u=>by kernel_rfl) λl i a k z e ob bk bx u h hi hq=>
  Zax (M:=Mo) fOk 100 [.t true,.row i (Zb.enc a),.cell (Zb.enc a),.put (Zb.enc a) (rs Zb.enc l i (Zr6 a k)),.res (.lit (.int .i64 (mkL Kg a.queue (k)).2)) [.tr ((mkL Kg a.queue (k)).1.map Zf.enc)],.row i (Zr6 a k),.put (Zr6 a k) (rs Zb.enc l i (Zso a k)),.row i (Zso a k),.put (Zso a k) (rs Zb.enc l i (Zs0 a k)),.row i (Zs0 a k),.put (Zs0 a k) (rs Zb.enc l i (Zt6 a k)),.k,.row i (Zt6 a k),.put (Zt6 a k) (rs Zb.enc l i (Ztr a k)),.k,.row i (Ztr a k),.put (Ztr a k) ((l.set i (Wk a k).1).map Zb.enc)]
   (p:=(decide ((i:Int) < ((l.map Zb.enc).length:Int))=true)/\(nn i)/\((l.map Zb.enc)[i]?=some (Zb.enc a))/\((l.map Zb.enc)[i]?=some (Zb.enc a))/\((l.map Zb.enc)[i]?=some (Zb.enc a))/\(Qr Tryz.prog 18 false [.tr (a.queue.map Zf.enc)] [.tr ((mkL Kg a.queue (k)).1.map Zf.enc)] (k) (mkL Kg a.queue (k)).2)/\((l.map Zb.enc).set i (Zr6 a k)=(rs Zb.enc l i (Zr6 a k)))/\(nn i)/\((rs Zb.enc l i (Zr6 a k))[i]?=some (Zr6 a k))/\((rs Zb.enc l i (Zr6 a k))[i]?=some (Zr6 a k))/\((rs Zb.enc l i (Zr6 a k)).set i (Zso a k)=(rs Zb.enc l i (Zso a k)))/\(nn i)/\((rs Zb.enc l i (Zso a k))[i]?=some (Zso a k))/\((rs Zb.enc l i (Zso a k))[i]?=some (Zso a k))/\((rs Zb.enc l i (Zso a k)).set i (Zs0 a k)=(rs Zb.enc l i (Zs0 a k)))/\(nn i)/\((rs Zb.enc l i (Zs0 a k))[i]?=some (Zs0 a k))/\((rs Zb.enc l i (Zs0 a k))[i]?=some (Zs0 a k))/\((rs Zb.enc l i (Zs0 a k)).set i (Zt6 a k)=(rs Zb.enc l i (Zt6 a k)))/\(nn i)/\((rs Zb.enc l i (Zt6 a k))[i]?=some (Zt6 a k))/\((rs Zb.enc l i (Zt6 a k))[i]?=some (Zt6 a k))/\((rs Zb.enc l i (Zt6 a k)).set i (Ztr a k)=(rs Zb.enc l i (Ztr a k)))/\(nn i)/\((rs Zb.enc l i (Ztr a k))[i]?=some (Ztr a k))/\((rs Zb.enc l i (Ztr a k))[i]?=some (Ztr a k))/\((rs Zb.enc l i (Ztr a k)).set i (rMst6 a k)=((l.set i (Wk a k).1).map Zb.enc))/\True)
   ⟨Zwt h,Xa,Zca h,Zca h,Zca h,Ysx _ _ hq.1 hq.2,rfl,Xa,Z9 h _,Z9 h _,Zb5,Xa,Z9 h _,Z9 h _,Zb5,Xa,Z9 h _,Z9 h _,Zb5,Xa,Z9 h _,Z9 h _,Zb5,Xa,Z9 h _,Z9 h _,Ydz rfl,trivial⟩ (ts:=[0,1,5]) (ks:=[0]) (e:=.normal) (vs:=[.ob 0,.lit (.int .i64 (w1 (w1 (w1 (w1 (w1 ((mkL Kg a.queue (k)).2))))))),.lit (.int .i64 (w1 (i:Int)))]) (bs:=[some ⟨true,z,e,((l.set i (Wk a k).1).map Zb.enc)⟩]) (by kernel_rfl) (λs h1 h2=>⟨rfl,.of (by rw[h1,Zxa hi];rfl) h2⟩)
def Zl.mok (x:Zl):Prop:=(x.masters.length<=1152921504606846976)
def Xq (x:Zl) (k:Int):Zl×Int:=({x with masters:=(mkL Jq x.masters (k)).1},(mkL Jq x.masters (k)).2)
theorem Ysy (x:Zl) (k:Int) (h:x.mok):Qr Tryz.prog 17 true (Zl.enc x) (Zl.enc (Xq x k).1) k (Xq x k).2:=by
 refine mk_ok fOk (fn:=Tryz.f17) (c:=Xd Tryz.f17) (rt:=4) (by kernel_rfl) (by kernel_rfl) (by kernel_rfl) (by show 6<=1000;decide) (.inl rfl) λts=>?_;exact Zax (M:=Mo) fOk 100 [.res (.lit (.int .i64 (mkL Jq x.masters (k)).2)) [.tr ((mkL Jq x.masters (k)).1.map Zd.enc)]]
  (p:=(Qr Tryz.prog 56 false [.tr (x.masters.map Zd.enc)] [.tr ((mkL Jq x.masters (k)).1.map Zd.enc)] (k) (mkL Jq x.masters (k)).2)/\True)
  ⟨Ymg _ _ h,trivial⟩ (ts:=[4]) (ks:=[0]) (e:=.ret) (vs:=[.lit (.int .i64 (Xq x k).2)]) (bs:=[some ⟨true,(ts 0).1,(ts 0).2,((Xq x k).1.masters.map Zd.enc)⟩]) (by kernel_rfl)
  (λs h1 h2=>⟨rfl,by simpa using h1,by
   simp only[Va1,Vbx,Vcd,and_true] at h2;exact⟨h2,rfl,rfl,rfl,rfl,rfl,trivial⟩⟩)
def Zo.mok (x:Zo):Prop:=(x.regs.length<=1152921504606846976)/\(x.fifo.length<=1152921504606846976)
def Zos (x:Zo) (k:Int):Zo×Int:=({x with regs:=(mkL Ye x.regs (k)).1,fifo:=(mkL Ye x.fifo ((mkL Ye x.regs (k)).2)).1},(mkL Ye x.fifo ((mkL Ye x.regs (k)).2)).2)
theorem Yxj (x:Zo) (k:Int) (h:x.mok):Qr Tryz.prog 129 true (Zo.enc x) (Zo.enc (Zos x k).1) k (Zos x k).2:=by
 refine mk_ok fOk (fn:=Tryz.f129) (c:=Xd Tryz.f129) (rt:=4) (by kernel_rfl) (by kernel_rfl) (by kernel_rfl) (by show 3<=1000;decide) (.inl rfl) λts=>?_;exact Zax (M:=Mo) fOk 100 [.res (.lit (.int .i64 (mkL Ye x.regs (k)).2)) [.tr ((mkL Ye x.regs (k)).1.map Ze)],.res (.lit (.int .i64 (mkL Ye x.fifo ((mkL Ye x.regs (k)).2)).2)) [.tr ((mkL Ye x.fifo ((mkL Ye x.regs (k)).2)).1.map Ze)]]
  (p:=(Qr Tryz.prog 57 false [.tr (x.regs.map Ze)] [.tr ((mkL Ye x.regs (k)).1.map Ze)] (k) (mkL Ye x.regs (k)).2)/\(Qr Tryz.prog 57 false [.tr (x.fifo.map Ze)] [.tr ((mkL Ye x.fifo ((mkL Ye x.regs (k)).2)).1.map Ze)] ((mkL Ye x.regs (k)).2) (mkL Ye x.fifo ((mkL Ye x.regs (k)).2)).2)/\True)
  ⟨Zee _ _ h.1,Zee _ _ h.2,trivial⟩ (ts:=[4]) (ks:=[0,2]) (e:=.ret) (vs:=[.lit (.int .i64 (Zos x k).2)]) (bs:=[some ⟨true,(ts 0).1,(ts 0).2,((Zos x k).1.regs.map Ze)⟩,some ⟨true,(ts 2).1,(ts 2).2,((Zos x k).1.fifo.map Ze)⟩]) (by kernel_rfl)
  (λs h1 h2=>⟨rfl,by simpa using h1,by
   simp only[Va1,Vbx,Vcd,and_true] at h2;exact⟨h2.1,rfl,h2.2,trivial⟩⟩)
def Zj.mok (x:Zj):Prop:=(x.mem.length<=1152921504606846976)/\Zo.mok x.dev
def K8 (x:Zj) (k:Int):Zj×Int:=({x with mem:=(mkL Ye x.mem (k)).1,dev:=(Zos x.dev ((mkL Ye x.mem (k)).2)).1},(Zos x.dev ((mkL Ye x.mem (k)).2)).2)
theorem Yn9 (x:Zj) (k:Int) (h:x.mok):Qr Tryz.prog 76 true (Zj.enc x) (Zj.enc (K8 x k).1) k (K8 x k).2:=by
 refine mk_ok fOk (fn:=Tryz.f76) (c:=Xd Tryz.f76) (rt:=4) (by kernel_rfl) (by kernel_rfl) (by kernel_rfl) (by show 4<=1000;decide) (.inl rfl) λts=>?_;exact Zax (M:=Mo) fOk 100 [.res (.lit (.int .i64 (mkL Ye x.mem (k)).2)) [.tr ((mkL Ye x.mem (k)).1.map Ze)],.res (.lit (.int .i64 (Zos x.dev ((mkL Ye x.mem (k)).2)).2)) (Zo.enc (Zos x.dev ((mkL Ye x.mem (k)).2)).1)]
  (p:=(Qr Tryz.prog 57 false [.tr (x.mem.map Ze)] [.tr ((mkL Ye x.mem (k)).1.map Ze)] (k) (mkL Ye x.mem (k)).2)/\(Qr Tryz.prog 129 true (Zo.enc x.dev) (Zo.enc (Zos x.dev ((mkL Ye x.mem (k)).2)).1) ((mkL Ye x.mem (k)).2) (Zos x.dev ((mkL Ye x.mem (k)).2)).2)/\True)
  ⟨Zee _ _ h.1,Yxj _ _ h.2,trivial⟩ (ts:=[4]) (ks:=[0,1,3]) (e:=.ret) (vs:=[.lit (.int .i64 (K8 x k).2)]) (bs:=[some ⟨true,(ts 0).1,(ts 0).2,((K8 x k).1.mem.map Ze)⟩,some ⟨true,(ts 1).1,(ts 1).2,((K8 x k).1.dev.regs.map Ze)⟩,some ⟨true,(ts 3).1,(ts 3).2,((K8 x k).1.dev.fifo.map Ze)⟩]) (by kernel_rfl)
  (λs h1 h2=>⟨rfl,by simpa using h1,by
   simp only[Va1,Vbx,Vcd,and_true] at h2;exact⟨h2.1,h2.2.1,rfl,h2.2.2,trivial⟩⟩)
def Zi.mok (x:Zi):Prop:=(x.posts.length<=1152921504606846976/\∀y∈x.posts,y.req.data_.length<=1152921504606846976)/\(x.waits.length<=1152921504606846976)/\(x.says.length<=1152921504606846976)
def Kx (x:Zi) (k:Int):Zi×Int:=({x with posts:=(mkL Qx x.posts (k)).1,waits:=(mkL Ye x.waits ((mkL Qx x.posts (k)).2)).1,says:=(mkL Ye x.says ((mkL Ye x.waits ((mkL Qx x.posts (k)).2)).2)).1},(mkL Ye x.says ((mkL Ye x.waits ((mkL Qx x.posts (k)).2)).2)).2)
theorem Ymp (x:Zi) (k:Int) (h:x.mok):Qr Tryz.prog 27 true (Zi.enc x) (Zi.enc (Kx x k).1) k (Kx x k).2:=by
 refine mk_ok fOk (fn:=Tryz.f27) (c:=Xd Tryz.f27) (rt:=4) (by kernel_rfl) (by kernel_rfl) (by kernel_rfl) (by show 3<=1000;decide) (.inl rfl) λts=>?_;exact Zax (M:=Mo) fOk 100 [.res (.lit (.int .i64 (mkL Qx x.posts (k)).2)) [.tr ((mkL Qx x.posts (k)).1.map Zm.enc)],.res (.lit (.int .i64 (mkL Ye x.waits ((mkL Qx x.posts (k)).2)).2)) [.tr ((mkL Ye x.waits ((mkL Qx x.posts (k)).2)).1.map Ze)],.res (.lit (.int .i64 (mkL Ye x.says ((mkL Ye x.waits ((mkL Qx x.posts (k)).2)).2)).2)) [.tr ((mkL Ye x.says ((mkL Ye x.waits ((mkL Qx x.posts (k)).2)).2)).1.map Ze)]]
  (p:=(Qr Tryz.prog 73 false [.tr (x.posts.map Zm.enc)] [.tr ((mkL Qx x.posts (k)).1.map Zm.enc)] (k) (mkL Qx x.posts (k)).2)/\(Qr Tryz.prog 57 false [.tr (x.waits.map Ze)] [.tr ((mkL Ye x.waits ((mkL Qx x.posts (k)).2)).1.map Ze)] ((mkL Qx x.posts (k)).2) (mkL Ye x.waits ((mkL Qx x.posts (k)).2)).2)/\(Qr Tryz.prog 57 false [.tr (x.says.map Ze)] [.tr ((mkL Ye x.says ((mkL Ye x.waits ((mkL Qx x.posts (k)).2)).2)).1.map Ze)] ((mkL Ye x.waits ((mkL Qx x.posts (k)).2)).2) (mkL Ye x.says ((mkL Ye x.waits ((mkL Qx x.posts (k)).2)).2)).2)/\True)
  ⟨Yqq _ _ h.1.1 h.1.2,Zee _ _ h.2.1,Zee _ _ h.2.2,trivial⟩ (ts:=[4]) (ks:=[0,1,2]) (e:=.ret) (vs:=[.lit (.int .i64 (Kx x k).2)]) (bs:=[some ⟨true,(ts 0).1,(ts 0).2,((Kx x k).1.posts.map Zm.enc)⟩,some ⟨true,(ts 1).1,(ts 1).2,((Kx x k).1.waits.map Ze)⟩,some ⟨true,(ts 2).1,(ts 2).2,((Kx x k).1.says.map Ze)⟩]) (by kernel_rfl)
  (λs h1 h2=>⟨rfl,by simpa using h1,by
   simp only[Va1,Vbx,Vcd,and_true] at h2;exact⟨h2.1,h2.2.1,h2.2.2,trivial⟩⟩)
def Za.mok (x:Za):Prop:=Zl.mok x.conf/\(x.m.length<=1152921504606846976/\∀z∈x.m,z.queue.length<=1152921504606846976/\∀y∈z.queue,y.data_.length<=1152921504606846976)/\(x.buckets.length<=1152921504606846976)/\(x.splits.length<=1152921504606846976)/\Zj.mok x.model/\(x.log.length<=1152921504606846976)
def Yg (x:Za) (k:Int):Za×Int:=({x with conf:=(Xq x.conf (k)).1,m:=(mkL Wk x.m ((Xq x.conf (k)).2)).1,buckets:=(mkL Xc x.buckets ((mkL Wk x.m ((Xq x.conf (k)).2)).2)).1,splits:=(mkL Ye x.splits ((mkL Xc x.buckets ((mkL Wk x.m ((Xq x.conf (k)).2)).2)).2)).1,model:=(K8 x.model ((mkL Ye x.splits ((mkL Xc x.buckets ((mkL Wk x.m ((Xq x.conf (k)).2)).2)).2)).2)).1,log:=(mkL Zbc x.log ((K8 x.model ((mkL Ye x.splits ((mkL Xc x.buckets ((mkL Wk x.m ((Xq x.conf (k)).2)).2)).2)).2)).2)).1},(mkL Zbc x.log ((K8 x.model ((mkL Ye x.splits ((mkL Xc x.buckets ((mkL Wk x.m ((Xq x.conf (k)).2)).2)).2)).2)).2)).2)
theorem Ygd (x:Za) (k:Int) (h:x.mok):Qr Tryz.prog 28 true (Za.enc x) (Za.enc (Yg x k).1) k (Yg x k).2:=by
 refine mk_ok fOk (fn:=Tryz.f28) (c:=Xd Tryz.f28) (rt:=4) (by kernel_rfl) (by kernel_rfl) (by kernel_rfl) (by show 37<=1000;decide) (.inl rfl) λts=>?_;exact Zax (M:=Mo) fOk 100 [.res (.lit (.int .i64 (Xq x.conf (k)).2)) (Zl.enc (Xq x.conf (k)).1),.res (.lit (.int .i64 (mkL Wk x.m ((Xq x.conf (k)).2)).2)) [.tr ((mkL Wk x.m ((Xq x.conf (k)).2)).1.map Zb.enc)],.res (.lit (.int .i64 (mkL Xc x.buckets ((mkL Wk x.m ((Xq x.conf (k)).2)).2)).2)) [.tr ((mkL Xc x.buckets ((mkL Wk x.m ((Xq x.conf (k)).2)).2)).1.map Zc.enc)],.res (.lit (.int .i64 (mkL Ye x.splits ((mkL Xc x.buckets ((mkL Wk x.m ((Xq x.conf (k)).2)).2)).2)).2)) [.tr ((mkL Ye x.splits ((mkL Xc x.buckets ((mkL Wk x.m ((Xq x.conf (k)).2)).2)).2)).1.map Ze)],.res (.lit (.int .i64 (K8 x.model ((mkL Ye x.splits ((mkL Xc x.buckets ((mkL Wk x.m ((Xq x.conf (k)).2)).2)).2)).2)).2)) (Zj.enc (K8 x.model ((mkL Ye x.splits ((mkL Xc x.buckets ((mkL Wk x.m ((Xq x.conf (k)).2)).2)).2)).2)).1),.res (.lit (.int .i64 (mkL Zbc x.log ((K8 x.model ((mkL Ye x.splits ((mkL Xc x.buckets ((mkL Wk x.m ((Xq x.conf (k)).2)).2)).2)).2)).2)).2)) [.tr ((mkL Zbc x.log ((K8 x.model ((mkL Ye x.splits ((mkL Xc x.buckets ((mkL Wk x.m ((Xq x.conf (k)).2)).2)).2)).2)).2)).1.map Zn.enc)]]
  (p:=(Qr Tryz.prog 17 true (Zl.enc x.conf) (Zl.enc (Xq x.conf (k)).1) (k) (Xq x.conf (k)).2)/\(Qr Tryz.prog 74 false [.tr (x.m.map Zb.enc)] [.tr ((mkL Wk x.m ((Xq x.conf (k)).2)).1.map Zb.enc)] ((Xq x.conf (k)).2) (mkL Wk x.m ((Xq x.conf (k)).2)).2)/\(Qr Tryz.prog 75 false [.tr (x.buckets.map Zc.enc)] [.tr ((mkL Xc x.buckets ((mkL Wk x.m ((Xq x.conf (k)).2)).2)).1.map Zc.enc)] ((mkL Wk x.m ((Xq x.conf (k)).2)).2) (mkL Xc x.buckets ((mkL Wk x.m ((Xq x.conf (k)).2)).2)).2)/\(Qr Tryz.prog 57 false [.tr (x.splits.map Ze)] [.tr ((mkL Ye x.splits ((mkL Xc x.buckets ((mkL Wk x.m ((Xq x.conf (k)).2)).2)).2)).1.map Ze)] ((mkL Xc x.buckets ((mkL Wk x.m ((Xq x.conf (k)).2)).2)).2) (mkL Ye x.splits ((mkL Xc x.buckets ((mkL Wk x.m ((Xq x.conf (k)).2)).2)).2)).2)/\(Qr Tryz.prog 76 true (Zj.enc x.model) (Zj.enc (K8 x.model ((mkL Ye x.splits ((mkL Xc x.buckets ((mkL Wk x.m ((Xq x.conf (k)).2)).2)).2)).2)).1) ((mkL Ye x.splits ((mkL Xc x.buckets ((mkL Wk x.m ((Xq x.conf (k)).2)).2)).2)).2) (K8 x.model ((mkL Ye x.splits ((mkL Xc x.buckets ((mkL Wk x.m ((Xq x.conf (k)).2)).2)).2)).2)).2)/\(Qr Tryz.prog 19 false [.tr (x.log.map Zn.enc)] [.tr ((mkL Zbc x.log ((K8 x.model ((mkL Ye x.splits ((mkL Xc x.buckets ((mkL Wk x.m ((Xq x.conf (k)).2)).2)).2)).2)).2)).1.map Zn.enc)] ((K8 x.model ((mkL Ye x.splits ((mkL Xc x.buckets ((mkL Wk x.m ((Xq x.conf (k)).2)).2)).2)).2)).2) (mkL Zbc x.log ((K8 x.model ((mkL Ye x.splits ((mkL Xc x.buckets ((mkL Wk x.m ((Xq x.conf (k)).2)).2)).2)).2)).2)).2)/\True)
  ⟨Ysy _ _ h.1,Yux _ _ h.2.1.1 h.2.1.2,Yi5 _ _ h.2.2.1,Zee _ _ h.2.2.2.1,Yn9 _ _ h.2.2.2.2.1,Yq4 _ _ h.2.2.2.2.2,trivial⟩ (ts:=[4]) (ks:=[0,7,10,11,31,32,34,36]) (e:=.ret) (vs:=[.lit (.int .i64 (Yg x k).2)]) (bs:=[some ⟨true,(ts 0).1,(ts 0).2,((Yg x k).1.conf.masters.map Zd.enc)⟩,some ⟨true,(ts 7).1,(ts 7).2,((Yg x k).1.m.map Zb.enc)⟩,some ⟨true,(ts 10).1,(ts 10).2,((Yg x k).1.buckets.map Zc.enc)⟩,some ⟨true,(ts 11).1,(ts 11).2,((Yg x k).1.splits.map Ze)⟩,some ⟨true,(ts 31).1,(ts 31).2,((Yg x k).1.model.mem.map Ze)⟩,some ⟨true,(ts 32).1,(ts 32).2,((Yg x k).1.model.dev.regs.map Ze)⟩,some ⟨true,(ts 34).1,(ts 34).2,((Yg x k).1.model.dev.fifo.map Ze)⟩,some ⟨true,(ts 36).1,(ts 36).2,((Yg x k).1.log.map Zn.enc)⟩]) (by kernel_rfl)
  (λs h1 h2=>⟨rfl,by simpa using h1,by
   simp only[Va1,Vbx,Vcd,and_true] at h2;exact⟨h2.1,rfl,rfl,rfl,rfl,rfl,rfl,h2.2.1,rfl,rfl,h2.2.2.1,h2.2.2.2.1,rfl,rfl,rfl,rfl,rfl,rfl,rfl,rfl,rfl,rfl,rfl,rfl,rfl,rfl,rfl,rfl,rfl,rfl,rfl,h2.2.2.2.2.1,h2.2.2.2.2.2.1,rfl,h2.2.2.2.2.2.2.1,rfl,h2.2.2.2.2.2.2.2,trivial⟩⟩)
end
end Go.Proofs.YtagdmghmblplbaaGreat.Ev
namespace Go.Proofs.YtagdmghmblplbaaGreat.Ev
open Go Go.Proofs
theorem Zzv {n:Int} (h1:-9223372036854775808<=n) (h2:n < 9223372036854775808):IntKind.i64.wrap n=n:=w64_of h1 h2
theorem Ys {a b:Int} (h1:-9223372036854775808<=a+b) (h2:a+b < 9223372036854775808):Zq a b=a+b:=Zzv h1 h2
theorem Xe {a b:Int} (h1:-9223372036854775808<=a - b) (h2:a - b < 9223372036854775808):Y6 a b=a - b:=Zzv h1 h2
theorem Zft {a b:Int} (h1:-9223372036854775808<=a*b) (h2:a*b < 9223372036854775808):Jr a b=a*b:=Zzv h1 h2
theorem Wq {k:Nat} (h:k < 4611686018427387904):Zq (k:Int) 1=((k+1:Nat):Int):=by rw[Ys (by omega) (by omega)];rfl
theorem ok_i64 {n:Int} (h:(Lit.int .i64 n).wf=true):-9223372036854775808<=n/\n < 9223372036854775808:=by
 simp[Lit.wf,IntKind.min,IntKind.max,IntKind.signed,IntKind.bits] at h;omega
section
variable {α β σ ρ:Type}
theorem Xu {xs:List α} {k:Nat} (h:k < xs.length):idx xs (k:Int)=some xs[k]:=by
 simp[idx,h]
theorem Kr:4611686018427387904 < FU:=by decide
def Z3c (step:α->σ->Option (σ ⊕ ρ)) (fin:σ->Option ρ):List α->σ->Option ρ
 | [],s=>fin s
 | a::l,s=>(step a s).bind λr=>match r with|.inl s'=>Z3c step fin l s'|.inr x=>some x
def goL (k:σ->Option ρ):σ ⊕ ρ->Option ρ
 | .inl s=>k s
 | .inr x=>some x
theorem Y0x (xs:List α) (hl:xs.length < 4611686018427387904) (step:α->σ->Option (σ ⊕ ρ)) (fin:σ->Option ρ) (L:Nat->σ->Int->Option ρ)
  (hL:∀m s i,L (m+1) s i=if decide (i < (xs.length:Int))=true then (idx xs i).bind λa=>(step a s).bind (goL λs'=>L m s' (Zq i 1)) else fin s):
  ∀(m k:Nat) (s:σ),k<=xs.length->xs.length - k < m->L m s k=Z3c step fin (xs.drop k) s:=by
 intro m
 induction m with
 | zero=>intro k s _ h;omega
 | succ m ih=>
  intro k s hk hm;rw[hL];by_cases hc:k < xs.length
  .have h1:decide ((k:Int) < (xs.length:Int))=true:=by simpa using hc
   rw[ZZj h1,Xu hc,ZZa,Va4 hc];simp only[Z3c]
   congr 1
   funext r
   cases r with
   | inl s'=>
    simp only[goL];rw[Wq (by omega)];exact ih (k+1) s' (by omega) (by omega)
   | inr x=>rfl
  .have h1:¬decide ((k:Int) < (xs.length:Int))=true:=by simpa using hc
   rw[ZZi h1,Vbb (by omega)];rfl
theorem Ydu (xs:List α) (hl:xs.length < 4611686018427387904) (step:α->σ->Option (σ ⊕ ρ)) (fin:σ->Option ρ) (L:Nat->σ->Int->Option ρ)
  (hL:∀m s i,L (m+1) s i=if decide (i < (xs.length:Int))=true then (idx xs i).bind λa=>(step a s).bind (goL λs'=>L m s' (Zq i 1)) else fin s) (s:σ):
  L FU s 0=Z3c step fin xs s:=by
 have:=Y0x xs hl step fin L hL FU 0 s (Vbl _) (by have:=Kr;omega);simpa using this
theorem Zqy (xs:List α) (g:α->β) (hl:xs.length < 4611686018427387904) (f:α->Option β) (hf:∀a∈xs,f a=some (g a)) (L:Nat->List β->Int->Option (List β))
  (hL:∀m v i,L (m+1) v i=if decide (i < (xs.length:Int))=true then (idx xs i).bind λa=>(f a).bind λb=>(idx v i).bind λ_=>(W9 v i b).bind λy=>L m y (Zq i 1) else some v) (v:List β) (hv:v.length=xs.length):L FU v 0=some (xs.map g):=by
 have key:∀(m k:Nat) (v:List β),k<=xs.length->xs.length - k < m->v.length=xs.length->v.take k=(xs.take k).map g->L m v k=some (xs.map g):=by
  intro m
  induction m with
  | zero=>intro k v _ h;omega
  | succ m ih=>
   intro k v hk hm hv ht;rw[hL];by_cases hc:k < xs.length
   .have h1:decide ((k:Int) < (xs.length:Int))=true:=by simpa using hc
    have hc2:k < v.length:=by omega
    rw[ZZj h1,Xu hc,ZZa,hf _ (Vas hc),ZZa,Xu hc2,ZZa];simp only[W9,ZZa];rw[Wq (by omega)];refine ih (k+1) _ (by omega) (by omega) (by simp[hv]) ?_;rw[Vbr,List.take_add_one,List.take_add_one,Vdk,List.take_set_of_le (Vav _),ht,Vea hc2,Vab hc];rfl
   .have h1:¬decide ((k:Int) < (xs.length:Int))=true:=by simpa using hc
    rw[ZZi h1];rw[Vbh (by omega),Vbh (by omega)] at ht;rw[ht]
 have:=key FU 0 v (Vbl _) (by have:=Kr;omega) hv (by simp);simpa using this
theorem Zwq {sz n:Nat} {z:α} (h1:n*sz<=70368744177664) (h2:n<=9223372036854775807):mkI sz (n:Int) z=some (List.replicate n z):=by
 simp[mkI,h1,h2]
theorem Qu {sz:Nat} {xs ys:List α} (h1:(xs.length+ys.length)*sz<=140737488355328) (h2:xs.length+ys.length<=9223372036854775807):X8 sz xs ys=some (xs++ys):=by
 unfold X8;rw[ZZj ⟨h1,h2⟩]
end
section
variable {α:Type}
theorem Wz (xs:List α) (i:Int) (a:α):W9 xs i a=some (xs.set i.toNat a):=rfl
def atI [Inhabited α] (xs:List α) (i:Int):α:=xs.getD i.toNat default
theorem Qj [Inhabited α] {xs:List α} {k:Nat} (h:k < xs.length):atI xs (k:Int)=xs[k]:=by
 simp[atI,h]
theorem Xr [Inhabited α] {xs:List α} {i:Int} (h0:0<=i) (h1:i < (xs.length:Int)):idx xs i=some (atI xs i):=by
 obtain⟨k,rfl⟩:∃k:Nat,i=k:=⟨i.toNat,by omega⟩;have hk:k < xs.length:=by omega
 rw[Xu hk,Qj hk]
theorem Zj5 [Inhabited α] {xs:List α} {i:Int} (h0:0<=i) (h1:i < (xs.length:Int)):atI xs i∈xs:=by
 obtain⟨k,rfl⟩:∃k:Nat,i=k:=⟨i.toNat,by omega⟩;have hk:k < xs.length:=by omega
 rw[Qj hk];exact Vas hk
theorem Zpv [Inhabited α] {xs:List α} {i:Int} (a:α) (h0:0<=i) (h1:i < (xs.length:Int)):atI (xs.set i.toNat a) i=a:=by
 obtain⟨k,rfl⟩:∃k:Nat,i=k:=⟨i.toNat,by omega⟩;have hk:k < xs.length:=by omega
 rw[Qj (by simpa using hk)];simp
theorem Ylm [Inhabited α] {xs:List α} {i j:Int} (a:α) (h0:0<=i) (h1:0<=j) (hn:i≠j):atI (xs.set i.toNat a) j=atI xs j:=by
 unfold atI;rw[Vaw,Vaw,List.getElem?_set_ne (by omega)]
theorem Zw4 {n:Int} (h:n≠0):nzI n=some ():=by unfold nzI;rw[ZZi h]
theorem Y2q {n:Int} (h:0<=n):nnI n=some ():=by unfold nnI;rw[ZZj h]
theorem Zek {a n:Int} (h0:0<=a):Zam a n=a % n:=by unfold Zam;rw[Int.tmod_eq_emod_of_nonneg h0]
theorem Ybc {a n:Int} (h0:0<=a) (h1:a < 9223372036854775808) (hn:1<=n):Ztv a n=a / n:=by
 unfold Ztv;rw[Int.tdiv_eq_ediv_of_nonneg h0];have h2:0<=a / n:=Int.ediv_nonneg h0 (by omega);have h3:a / n<=a:=Int.ediv_le_self n h0;exact Zzv (by omega) (by omega)
theorem Yfj (xs:List α) (hl:xs.length < 4611686018427387904) (f:α->Option Bool) (q:α->Bool) (hf:∀a∈xs,f a=some (!q a)) (L:Nat->Int->Option Int)
  (hL:∀m i,L (m+1) i=if decide (i < (xs.length:Int))=true then (idx xs i).bind λa=>(f a).bind λr=>if r=true then some i else L m (Zq i 1) else some (-1)):
  (xs.all q=true/\L FU 0=some (-1))\/∃k:Nat,∃h:k < xs.length,L FU 0=some (k:Int)/\q xs[k]=false/\(xs.take k).all q=true:=by
 have key:∀(m k:Nat),k<=xs.length->xs.length - k < m->(xs.take k).all q=true->(xs.all q=true/\L m k=some (-1))\/∃j:Nat,∃h:j < xs.length,L m k=some (j:Int)/\q xs[j]=false/\(xs.take j).all q=true:=by
  intro m
  induction m with
  | zero=>intro k _ h;omega
  | succ m ih=>
   intro k hk hm ht;rw[hL];by_cases hc:k < xs.length
   .have h1:decide ((k:Int) < (xs.length:Int))=true:=by simpa using hc
    rw[ZZj h1,Xu hc,ZZa,hf _ (Vas hc),ZZa];by_cases hq:q xs[k]=true
    .have h2:¬(!q xs[k])=true:=by simp[hq]
     rw[ZZi h2,Wq (by omega)];refine ih (k+1) (by omega) (by omega) ?_;rw[List.take_succ_eq_append_getElem hc,List.all_append,ht];simp[hq]
    .have h2:(!q xs[k])=true:=by simpa using hq
     rw[ZZj h2];exact .inr ⟨k,hc,rfl,by simpa using hq,ht⟩
   .have h1:¬decide ((k:Int) < (xs.length:Int))=true:=by simpa using hc
    rw[ZZi h1];rw[Vbh (by omega)] at ht;exact .inl ⟨ht,rfl⟩
 exact key FU 0 (Vbl _) (by have:=Kr;omega) (by simp)
theorem Z2j (xs:List α) (hl:xs.length < 4611686018427387904) (f:α->Option Bool) (q:α->Bool) (hf:∀a∈xs,f a=some (!q a)) (L:Nat->Int->Option Int)
  (hL:∀m i,L (m+1) i=if decide (i < (xs.length:Int))=true then (idx xs i).bind λa=>(f a).bind λr=>if r=true then some i else L m (Zq i 1) else some (-1)):
  ((L FU 0).bind λr=>some (decide (r≥0)))=some (!xs.all q):=by
 rcases Yfj xs hl f q hf L hL with⟨h1,h2⟩|⟨k,hk,h1,h2,h3⟩
 .rw[h2,h1];rfl
 .rw[h1,ZZa]
  have:xs.all q=false:=by
   rw[List.all_eq_false];exact⟨xs[k],Vas hk,by simp[h2]⟩
  rw[this];have h4:((k:Nat):Int)≥0:=by omega
  simp[h4]
theorem Yu9 (xs:List α) (z:α) (hl:xs.length < 4611686018427387904) (f:α->Option Bool) (q:α->Bool) (hf:∀a∈xs,f a=some (!q a)) (I:Nat->Int->Option Int)
  (hI:∀m i,I (m+1) i=if decide (i < (xs.length:Int))=true then (idx xs i).bind λa=>(f a).bind λr=>if r=true then some i else I m (Zq i 1) else some (-1))
  (L:Nat->List α->Int->Int->Option (List α))
  (hL:∀m v i j,L (m+1) v i j=if decide (j < (v.length:Int))=true then (idx v j).bind λa=>(f a).bind λr=>if (!r)=true then (idx v i).bind λ_=>(W9 v i a).bind λy=>L m y (Zq i 1) (Zq j 1) else L m v i (Zq j 1)
   else (J9 v i (v.length:Int)).bind λ_=>(Z24 z v i (v.length:Int)).bind λy=>(J9 y 0 i).bind λs=>some s):
  ((I FU 0).bind λr=>if decide (r=(-1))=true then some xs else L FU xs r (Zq r 1))=some (xs.filter q):=by
 have key:∀(m i j:Nat) (v:List α),i<=j->j<=xs.length->xs.length - j < m->v.length=xs.length->v.take i=(xs.take j).filter q->v.drop j=xs.drop j->L m v i j=some (xs.filter q):=by
  intro m
  induction m with
  | zero=>intro i j v _ _ h;omega
  | succ m ih=>
   intro i j v hij hj hm hv ht hd;rw[hL];by_cases hc:j < v.length
   .have hc2:j < xs.length:=by omega
    have h1:decide ((j:Int) < (v.length:Int))=true:=by simpa using hc
    have e:v[j]=xs[j]:=by
     have:=congrArg List.head? hd;simpa [List.head?_drop,hc,hc2] using this
    have hd2:v.drop (j+1)=xs.drop (j+1):=by
     have:=congrArg (List.drop 1) hd;simpa [List.drop_drop] using this
    rw[ZZj h1,Xu hc,ZZa,e,hf _ (Vas hc2),ZZa,Vej];by_cases hq:q xs[j]=true
    .rw[ZZj hq,Xu (by omega:i < v.length),ZZa]
     simp only[W9,ZZa];rw[Wq (by omega),Wq (by omega)];refine ih (i+1) (j+1) _ (by omega) (by omega) (by omega) (by simp[hv]) ?_ ?_
     .rw[Vbr,List.take_succ_eq_append_getElem (by simpa using (by omega:i < v.length)),List.take_set_of_le (Vav _),ht,List.take_succ_eq_append_getElem hc2,Vc1]
      simp[hq]
     .rw[Vbr,List.drop_set_of_lt (by omega),hd2]
    .rw[ZZi hq,Wq (by omega)]
     refine ih i (j+1) v (by omega) (by omega) (by omega) hv ?_ hd2;rw[ht,List.take_succ_eq_append_getElem hc2,Vc1];simp[hq]
   .have h1:¬decide ((j:Int) < (v.length:Int))=true:=by simpa using hc
    have hjx:j=xs.length:=by omega
    rw[ZZi h1];have h2:J9 v (i:Int) (v.length:Int)=some ((v.drop i).take (v.length - i)):=by
     unfold J9;rw[ZZj ⟨by omega,by omega,by omega⟩];simp
    have h3:Z24 z v (i:Int) (v.length:Int)=some (v.take i++List.replicate (v.length - i) z++v.drop v.length):=by
     unfold Z24;have:(i:Int).toNat+((v.length:Int).toNat - (i:Int).toNat)=v.length:=by omega
     rw[ZZj (by omega),this];simp
    rw[h2,ZZa,h3,ZZa];have h4:J9 (v.take i++List.replicate (v.length - i) z++v.drop v.length) 0 (i:Int)=some (v.take i):=by
     unfold J9;rw[ZZj ⟨by omega,by omega,by simp;omega⟩];have:(v.take i).length=i:=by rw[Vbv];omega
     simp[List.append_assoc,List.take_append,this]
    rw[h4,ZZa,ht,hjx,Vby]
 rcases Yfj xs hl f q hf I hI with⟨h1,h2⟩|⟨k,hk,h1,h2,h3⟩
 .rw[h2,ZZa,ZZj (by decide)]
  congr 1
  exact (List.filter_eq_self.2 (λa ha=>ZZk.1 h1 a ha)).symm
 .rw[h1,ZZa,ZZi (by simp),Wq (by omega)]
  refine key FU k (k+1) xs (by omega) (by omega) (by have:=Kr;omega) rfl ?_ rfl;rw[List.take_succ_eq_append_getElem hk,Vc1,List.filter_eq_self.2 (λa ha=>ZZk.1 h3 a ha)];simp[h2]
theorem Yld (sz:Nat) (hz:sz<=1024) (xs:List α) (hl:xs.length < 1048577) (f:α->Option α) (hf:∀a∈xs,f a=some a) {ρ:Type} (fin:List α->Option ρ) (L:Nat->List α->Int->Option ρ)
  (hL:∀m v i,L (m+1) v i=if decide (i < (xs.length:Int))=true then (idx xs i).bind λa=>(f a).bind λb=>(X8 sz v [b]).bind λz=>L m z (Zq i 1) else fin v):L FU [] 0=fin xs:=by
 have key:∀(m k:Nat),k<=xs.length->xs.length - k < m->L m (xs.take k) k=fin xs:=by
  intro m
  induction m with
  | zero=>intro k _ h;omega
  | succ m ih=>
   intro k hk hm;rw[hL];by_cases hc:k < xs.length
   .have h1:decide ((k:Int) < (xs.length:Int))=true:=by simpa using hc
    have Yp:(xs.take k).length=k:=by rw[Vbv];omega
    have hb:(k+1)*sz<=140737488355328:=Vb6 (Nat.mul_le_mul (by omega:k+1<=1048577) hz) (by decide);rw[ZZj h1,Xu hc,ZZa,hf _ (Vas hc),ZZa,Qu (by simpa [Yp] using hb) (by simp[Yp];omega),ZZa,Wq (by omega),<-List.take_succ_eq_append_getElem hc];exact ih (k+1) (by omega) (by omega)
   .have h1:¬decide ((k:Int) < (xs.length:Int))=true:=by simpa using hc
    rw[ZZi h1,Vbh (by omega)]
 have:=key FU 0 (Vbl _) (by have:=Kr;omega);simpa using this
end
theorem Y7a (bs:ByteArray):∀(n i:Nat) (r:List UInt8),bs.size - i=n->ByteArray.toList.loop bs i r=r.reverse++bs.data.toList.drop i:=by
 intro n
 induction n with
 | zero=>
  intro i r h;unfold ByteArray.toList.loop;have hs:bs.data.toList.length=bs.size:=rfl;rw[ZZi (by omega),Vbb (by omega)];simp
 | succ n ih=>
  intro i r h;unfold ByteArray.toList.loop;have hs:bs.data.toList.length=bs.size:=rfl;have hi:i < bs.data.toList.length:=by omega
  rw[ZZj (by omega),ih (i+1) _ (by omega),Va4 hi];have:bs.get! i=bs.data.toList[i]:=by
   have hi2:i < bs.data.size:=hi;simp[ByteArray.get!,getElem!_def,Vae hi2]
  rw[this];simp
theorem Yln (bs:ByteArray):bs.toList=bs.data.toList:=by
 unfold ByteArray.toList;rw[Y7a bs _ 0 [] rfl];simp
theorem Yd5 {β:Type} {c:Prop} [Decidable c] {x:β}:(if c then x else x)=x:=by split<;>rfl
theorem Zdj {σ ρ:Type} {n:Nat} (hn:n < 4611686018427387904) (st:Nat->σ) {B:(σ->Int->ρ)->σ->Int->ρ} {L:Nat->σ->Int->ρ} (hL:∀m s i,L (m+1) s i=B (L m) s i)
  (hs:∀k,k < n->∀κ,B κ (st k) (k:Int)=κ (st (k+1)) (Zq (k:Int) 1)) {r:ρ} (hf:∀κ,B κ (st n) (n:Int)=r):L FU (st 0) 0=r:=by
 have key:∀(m k:Nat),k<=n->n - k < m->L m (st k) (k:Int)=r:=by
  intro m
  induction m with
  | zero=>intro k _ h;omega
  | succ m ih=>
   intro k hk hm;rw[hL];by_cases hc:k < n
   .rw[hs k hc,Wq (by omega)]
    exact ih (k+1) (by omega) (by omega)
   .have:k=n:=by omega
    subst this;exact hf _
 have:=key FU 0 (Vbl _) (by have:=Kr;omega);simpa using this
theorem Yo3 {ρ:Type} {n:Nat} (hn:n < 4611686018427387904) {B:(Int->ρ)->Int->ρ} {L:Nat->Int->ρ} (hL:∀m i,L (m+1) i=B (L m) i)
  (hs:∀k,k < n->∀κ,B κ (k:Int)=κ (Zq (k:Int) 1)) {r:ρ} (hf:∀κ,B κ (n:Int)=r):L FU 0=r:=
 Zdj (σ:=Unit) hn (λ_=>()) (B:=λκ _ i=>B (κ ()) i) (L:=λm _ i=>L m i) (λm _ i=>hL m i) (λk hk κ=>hs k hk _) λκ=>hf _
theorem Zx4 {k:Int} (h0:0<=k) (h1:k < 1152921504606846976):w1 k=k+1:=by
 simp[w1,IntKind.wrap,IntKind.bits,IntKind.signed];omega
theorem Zup {k:Int}:Zq k 1=w1 k:=rfl
theorem Z34 {k:Int}:decide (Zam k 3=0)=b3 k:=rfl
def Inc {α:Type} (f:α->Int->α×Int) (w:α->Nat):Prop:=∀x k,0<=k->k+(w x:Int)<=1152921504606846976->(f x k).2=k+(w x:Int)
def Kw {α:Type} (w:α->Nat) (l:List α):Nat:=(l.map w).sum
section
variable {α:Type} {f:α->Int->α×Int} {w:α->Nat}
theorem Zmx {x:α} {l:List α}:Kw w (x::l)=w x+Kw w l:=by simp[Kw]
theorem Yvu (hf:Inc f w):∀{j:Nat} {l:List α} {k:Int},0<=k->k+(Kw w l:Int)<=1152921504606846976->(mkN f j l k).2=k+(Kw w (l.take j):Int):=by
 intro j
 induction j with
 | zero=>intro l k _ _;simp[mkN,Kw]
 | succ j ih=>
  intro l k h0 h1;cases l with
  | nil=>simp[mkN,Kw]
  | cons x l=>
   rw[Zmx] at h1;have e:=hf x k h0 (by omega);simp only[mkN,Vdo,Zmx];rw[ih (by rw[e];omega) (by rw[e];omega),e];omega
theorem Zob (hf:Inc f w) {l:List α} {k:Int} (h0:0<=k) (h1:k+(Kw w l:Int)<=1152921504606846976):(mkL f l k).2=k+(Kw w l:Int):=by
 rw[<-Ya9,Yvu hf h0 h1,Vby]
theorem Y53 {l:List α} {k:Int}:(mkL f l k).1.length=l.length:=by rw[<-Ya9,Yv3]
theorem Y6s:∀{j:Nat} {l:List α} {k:Int} {x:α},l[j]?=some x->(mkL f l k).1[j]?=some (f x (mkN f j l k).2).1/\(mkN f (j+1) l k).2=(f x (mkN f j l k).2).2:=by
 intro j
 induction j with
 | zero=>
  intro l k x h;cases l with
  | nil=>simp at h
  | cons y l=>
   have e:y=x:=by simpa using h
   subst e;exact⟨rfl,rfl⟩
 | succ j ih=>
  intro l k x h;cases l with
  | nil=>simp at h
  | cons y l=>
   obtain⟨h1,h2⟩:=ih (l:=l) (k:=(f y k).2) (x:=x) (by simpa using h);exact⟨by simpa [mkL,mkN] using h1,by simpa [mkN] using h2⟩
theorem Y5t {l:List α} {j:Nat} {x:α} (h:l[j]?=some x):Kw w (l.take j)+w x<=Kw w l:=by
 induction l generalizing j with
 | nil=>simp at h
 | cons y l ih=>
  cases j with
  | zero=>
   have e:y=x:=by simpa using h
   subst e;rw[Zmx];simp[Kw]
  | succ j=>
   have:=ih (j:=j) (by simpa using h);rw[Vdo,Zmx,Zmx];omega
theorem Zml (hf:Inc f w) (l:List α) (k:Int) (hl:l.length < 1048577) (h0:0<=k) (h1:k+(Kw w l:Int)<=1152921504606846976) {B:(Int->Int->Option Int)->Int->Int->Option Int} {L:Nat->Int->Int->Option Int} (hL:∀m s i,L (m+1) s i=B (L m) s i)
  (step:∀(κ:Int->Int->Option Int) (j:Nat) (x:α) (c:Int),(hj:j < (mkL f l k).1.length)->x∈l->0<=c->c+(w x:Int)<=1152921504606846976->(mkL f l k).1[j]=(f x c).1->B κ c (j:Int)=κ (f x c).2 (Zq (j:Int) 1))
  (fin:∀(κ:Int->Int->Option Int) (c:Int),B κ c ((mkL f l k).1.length:Int)=some c):L FU k 0=some (mkL f l k).2:=by
 have hn:(mkL f l k).1.length=l.length:=Y53;refine Zdj (n:=(mkL f l k).1.length) (by omega) (λj=>(mkN f j l k).2) hL (λj hj κ=>?_) (λκ=>?_)
 .have hx:l[j]?=some (l[j]'(by omega)):=Vab (by omega)
  obtain⟨e1,e2⟩:=Y6s (f:=f) (k:=k) hx;have e3:(mkL f l k).1[j]=(f (l[j]'(by omega)) (mkN f j l k).2).1:=by
   rw[Vab hj] at e1;injection e1
  have e4:=Yvu hf (j:=j) h0 h1;have e5:=Y5t (w:=w) hx;rw[e2];exact step κ j _ _ hj (Vas _) (by rw[e4];omega) (by rw[e4];omega) e3
 .rw[hn,Ya9,<-hn];exact fin κ _
end
theorem Zg8 {α:Type} (n:Nat) (l:List α):Kw (λ_=>n) l=n*l.length:=by
 induction l with
 | nil=>rfl
 | cons x l ih=>rw[Zmx,ih,Vag,Nat.mul_succ];omega
theorem Yvd:Inc Ye (λ_=>1):=λx k h0 h1=>by
 have h2:k+1<=1152921504606846976:=h1;simp only[Ye];simp (discharger:=omega) only[Zx4];rfl
theorem Yob:Inc Zbc (λ_=>7):=λx k h0 h1=>by
 have h2:k+7<=1152921504606846976:=h1;show _=k+7;simp only[Zbc];simp (discharger:=omega) only[Zx4];omega
theorem Yol:Inc X4 (λ_=>9):=λx k h0 h1=>by
 have h2:k+9<=1152921504606846976:=h1;show _=k+9;simp only[X4];simp (discharger:=omega) only[Zx4];omega
theorem Yht:Inc Xc (λ_=>2):=λx k h0 h1=>by
 have h2:k+2<=1152921504606846976:=h1;show _=k+2;simp only[Xc];simp (discharger:=omega) only[Zx4];omega
theorem Yk2:Inc Jq (λ_=>4):=λx k h0 h1=>by
 have h2:k+4<=1152921504606846976:=h1;show _=k+4;simp only[Jq];simp (discharger:=omega) only[Zx4];omega
def Z3a (r:Zf):Nat:=5+r.data_.length
theorem Zfx {l:List Int} {k:Int} (h0:0<=k) (h1:k+(l.length:Int)<=1152921504606846976):(mkL Ye l k).2=k+(l.length:Int):=by
 have e:=Zg8 (α:=Int) 1 l;have:=Zob Yvd (l:=l) h0 (by rw[e];omega);rw[this,e];omega
theorem Ykb:Inc Kg Z3a:=λx k h0 h1=>by
 have h2:k+5+(x.data_.length:Int)<=1152921504606846976:=by unfold Z3a at h1;omega
 simp only[Kg];simp (discharger:=omega) only[Zx4];rw[Zfx (by omega) (by omega)];unfold Z3a;omega
def Zh1 (m:Zb):Nat:=Kw Z3a m.queue+5
theorem Yv1:Inc Wk Zh1:=λx k h0 h1=>by
 have h2:k+(Kw Z3a x.queue:Int)+5<=1152921504606846976:=by unfold Zh1 at h1;omega
 have e:=Zob Ykb (l:=x.queue) h0 (by omega);simp only[Wk,e];simp (discharger:=omega) only[Zx4];unfold Zh1;omega
theorem Zsz (l:List Int) (k:Int) (hl:l.length < 1048577) (h0:0<=k) (h1:k+(l.length:Int)<=1152921504606846976):Zc6 (mkL Ye l k).1 k=some (mkL Ye l k).2:=by
 unfold Zc6;refine Zml Yvd l k hl h0 (by rw[Zg8];omega) (B:=λκ st j=>Zhh (mkL Ye l k).1 k κ st j) (λm s i=>rfl) (λκ j x c hj hx hc hm e=>?_) (λκ c=>?_)
 .unfold Zhh
  rw[ZZj (by simpa using hj),Xu hj,ZZa,e];simp[Ye,Zup]
 .unfold Zhh
  rw[ZZi (by simp)]
theorem Yse (l:List Zn) (k:Int) (hl:l.length < 1048577) (h0:0<=k) (h1:k+7*(l.length:Int)<=1152921504606846976):Zqr (mkL Zbc l k).1 k=some (mkL Zbc l k).2:=by
 unfold Zqr;refine Zml Yob l k hl h0 (by rw[Zg8];omega) (B:=λκ st j=>Zgn (mkL Zbc l k).1 k κ st j) (λm s i=>rfl) (λκ j x c hj hx hc hm e=>?_) (λκ c=>?_)
 .unfold Zgn
  rw[ZZj (by simpa using hj),Xu hj,ZZa,e]
  try simp only[Z34]
  simp[Zbc,Zup]
 .unfold Zgn
  rw[ZZi (by simp)]
theorem Yto (l:List Zg) (k:Int) (hl:l.length < 1048577) (h0:0<=k) (h1:k+9*(l.length:Int)<=1152921504606846976):Zqv (mkL X4 l k).1 k=some (mkL X4 l k).2:=by
 unfold Zqv;refine Zml Yol l k hl h0 (by rw[Zg8];omega) (B:=λκ st j=>Zgg (mkL X4 l k).1 k κ st j) (λm s i=>rfl) (λκ j x c hj hx hc hm e=>?_) (λκ c=>?_)
 .unfold Zgg
  rw[ZZj (by simpa using hj),Xu hj,ZZa,e]
  try simp only[Z34]
  simp[X4,Zup]
 .unfold Zgg
  rw[ZZi (by simp)]
theorem Ymq (l:List Zc) (k:Int) (hl:l.length < 1048577) (h0:0<=k) (h1:k+2*(l.length:Int)<=1152921504606846976):Zlk (mkL Xc l k).1 k=some (mkL Xc l k).2:=by
 unfold Zlk;refine Zml Yht l k hl h0 (by rw[Zg8];omega) (B:=λκ st j=>Zd0 (mkL Xc l k).1 k κ st j) (λm s i=>rfl) (λκ j x c hj hx hc hm e=>?_) (λκ c=>?_)
 .unfold Zd0
  rw[ZZj (by simpa using hj),Xu hj,ZZa,e]
  try simp only[Z34]
  simp[Xc,Zup]
 .unfold Zd0
  rw[ZZi (by simp)]
theorem Yn7 (l:List Zd) (k:Int) (hl:l.length < 1048577) (h0:0<=k) (h1:k+4*(l.length:Int)<=1152921504606846976):Zod (mkL Jq l k).1 k=some (mkL Jq l k).2:=by
 unfold Zod;refine Zml Yk2 l k hl h0 (by rw[Zg8];omega) (B:=λκ st j=>Zff (mkL Jq l k).1 k κ st j) (λm s i=>rfl) (λκ j x c hj hx hc hm e=>?_) (λκ c=>?_)
 .unfold Zff
  rw[ZZj (by simpa using hj),Xu hj,ZZa,e]
  try simp only[Z34]
  simp[Jq,Zup]
 .unfold Zff
  rw[ZZi (by simp)]
theorem Yxg (l:List Zf) (k:Int) (hl:l.length < 1048577) (hd:∀r∈l,r.data_.length < 1048577) (h0:0<=k) (h1:k+(Kw Z3a l:Int)<=1152921504606846976):Zr4 (mkL Kg l k).1 k=some (mkL Kg l k).2:=by
 unfold Zr4;refine Zml Ykb l k hl h0 h1 (B:=λκ st j=>Zht (mkL Kg l k).1 k κ st j) (λm s i=>rfl) (λκ j x c hj hx hc hm e=>?_) (λκ c=>?_)
 .have h2:c+5+(x.data_.length:Int)<=1152921504606846976:=by unfold Z3a at hm;omega
  have e5:w1 (w1 (w1 (w1 (w1 c))))=c+5:=by
   simp (discharger:=omega) only[Zx4];omega
  have e6:=Zfx (l:=x.data_) (k:=c+5) (by omega) (by omega);have e7:=Zsz x.data_ (c+5) (hd x hx) (by omega) (by omega);unfold Zht;rw[ZZj (by simpa using hj),Xu hj,ZZa,e];have e8:Zq (Zq (Zq (Zq (Zq c 1) 1) 1) 1) 1=c+5:=e5
  try simp only[Z34]
  simp only[Kg,e8,e5,e7,ZZa,e6];rw[ZZi (show ¬decide (c+5+(x.data_.length:Int) < 0)=true by simp;omega)];simp[Zup]
 .unfold Zht
  rw[ZZi (by simp)]
theorem Yyh (l:List Zb) (k:Int) (hl:l.length < 1048577) (hd:∀m∈l,m.queue.length < 1048577/\∀r∈m.queue,r.data_.length < 1048577) (h0:0<=k) (h1:k+(Kw Zh1 l:Int)<=1152921504606846976):Zti (mkL Wk l k).1 k=some (mkL Wk l k).2:=by
 unfold Zti;refine Zml Yv1 l k hl h0 h1 (B:=λκ st j=>Zhl (mkL Wk l k).1 k κ st j) (λm s i=>rfl) (λκ j x c hj hx hc hm e=>?_) (λκ c=>?_)
 .have h2:c+(Kw Z3a x.queue:Int)+5<=1152921504606846976:=by unfold Zh1 at hm;omega
  have e6:=Zob Ykb (l:=x.queue) (k:=c) hc (by omega);have e7:=Yxg x.queue c (hd x hx).1 (hd x hx).2 hc (by omega);unfold Zhl;rw[ZZj (by simpa using hj),Xu hj,ZZa,e]
  try simp only[Z34]
  simp only[Wk,e7,ZZa];rw[ZZi (show ¬decide ((mkL Kg x.queue c).2 < 0)=true by rw[e6];simp;omega)];simp[Zup]
 .unfold Zhl
  rw[ZZi (by simp)]
end Go.Proofs.YtagdmghmblplbaaGreat.Ev
namespace Go.Proofs.YtagdmghmblplbaaGreat.Ev
open Go Go.Proofs Go.RowKit KM
theorem Zqj {a:Int} (h:0<=a):decide (a < 0)=false:=by simp;omega
theorem dlt_t {a:Int} (h:a < 0):decide (a < 0)=true:=by simpa using h
theorem dne_f {a:Int}:decide (a≠a)=false:=by simp
theorem Ym6 {a:Bool} (h:a=false):(a == false)=true:=by rw[h];rfl
section
variable [Anchor]
theorem Z7u (x0:Za) (x1:Zi) (x2:Int) {l0:Int}  (hc0:Zwm x0 1048576=some l0) (hn1:l0 < 0):Zu Tryz.prog Mo (7,[.agg (Za.enc x0),.agg (Zi.enc x1),il x2],.lit (.bool true),[.undef,.undef,.undef]):=by
 refine Yow fOk (fn:=Tryz.f7) (c:=Xd Tryz.f7) (rt:=6) (b:=true) (xs:=[.agg (Za.enc x0),.agg (Zi.enc x1),il x2]) (by kernel_rfl) (by kernel_rfl) (by kernel_rfl) (by kernel_rfl) (by rfl) (of_decide_eq_true (by kernel_rfl)) ?_;exact Zax (M:=Mo) fOk 300 [.res (Zef x0 1048576 l0).2.2.1 (Zef x0 1048576 l0).2.2.2,.t true]
  (p:=(Zu Tryz.prog Mo (Zef x0 1048576 l0))/\((decide (l0 < 0))=true)/\(True))
  ⟨Z77 hc0,(dlt_t hn1),trivial⟩ (ts:=[6]) (ks:=[]) (e:=.ret) (vs:=[.lit (.bool true)]) (bs:=[]) (by kernel_rfl) (λs h1 _=>⟨rfl,by simpa using h1⟩)
theorem Z7v (x0:Za) (x1:Zi) (x2:Int) {l0 l1:Int}  (hc0:Zwm x0 1048576=some l0) (hz1:0<=l0) (hc2:Zrv x1 l0=some l1) (hn3:l1 < 0):Zu Tryz.prog Mo (7,[.agg (Za.enc x0),.agg (Zi.enc x1),il x2],.lit (.bool true),[.undef,.undef,.undef]):=by
 refine Yow fOk (fn:=Tryz.f7) (c:=Xd Tryz.f7) (rt:=6) (b:=true) (xs:=[.agg (Za.enc x0),.agg (Zi.enc x1),il x2]) (by kernel_rfl) (by kernel_rfl) (by kernel_rfl) (by kernel_rfl) (by rfl) (of_decide_eq_true (by kernel_rfl)) ?_;exact Zax (M:=Mo) fOk 300 [.res (Zef x0 1048576 l0).2.2.1 (Zef x0 1048576 l0).2.2.2,.t false,.res (Ze4 x1 l0 l1).2.2.1 (Ze4 x1 l0 l1).2.2.2,.t true]
  (p:=(Zu Tryz.prog Mo (Zef x0 1048576 l0))/\((decide (l0 < 0))=false)/\(Zu Tryz.prog Mo (Ze4 x1 l0 l1))/\((decide (l1 < 0))=true)/\(True))
  ⟨Z77 hc0,(Zqj hz1),Z90 hc2,(dlt_t hn3),trivial⟩ (ts:=[6]) (ks:=[]) (e:=.ret) (vs:=[.lit (.bool true)]) (bs:=[]) (by kernel_rfl) (λs h1 _=>⟨rfl,by simpa using h1⟩)
theorem Ybp (x0:Za) (x1:Zi) (x2:Int) {l0 l1:Int} (v0:Za) (v1:List Zg) (hc0:Zwm x0 1048576=some l0) (hz1:0<=l0) (hc2:Zrv x1 l0=some l1) (hz3:0<=l1) (hc4:Z19 x0=some x0) (hc5:Ztw x1=some x1) (hc6:Zy0 x0 x1 x2=some (v0,v1)) (hc7:Zyh x0 x1 x2=some (v0,v1)) (hc8:Zrl v0 v0=some true) (hc9:Zvn v1 v1=some true) (hc10:Zrl x0 x0=some true) (hc11:Zt9 x1 x1=some true) (hm12:x0.mok) (hm13:x1.mok) (Yr4:0<=(Kx x1 ((Yg x0 1).2)).2) (hm15:v0.mok) (hm16:v1.length<=1152921504606846976) (hc17:Zpu ((Yg v0 1).1) 1=some ((Yg v0 1).2)) (hz18:0<=(Yg v0 1).2) (hc19:Zqv ((mkL X4 v1 ((Yg v0 1).2)).1) ((Yg v0 1).2)=some ((mkL X4 v1 ((Yg v0 1).2)).2)) (hz20:0<=(mkL X4 v1 ((Yg v0 1).2)).2):Zu Tryz.prog Mo (7,[.agg (Za.enc x0),.agg (Zi.enc x1),il x2],.lit (.bool true),[.undef,.undef,.undef]):=by
 refine Yow fOk (fn:=Tryz.f7) (c:=Xd Tryz.f7) (rt:=6) (b:=true) (xs:=[.agg (Za.enc x0),.agg (Zi.enc x1),il x2]) (by kernel_rfl) (by kernel_rfl) (by kernel_rfl) (by kernel_rfl) (by rfl) (of_decide_eq_true (by kernel_rfl)) ?_;exact Zax (M:=Mo) fOk 300 [.res (Zef x0 1048576 l0).2.2.1 (Zef x0 1048576 l0).2.2.2,.t false,.res (Ze4 x1 l0 l1).2.2.1 (Ze4 x1 l0 l1).2.2.2,.t false,.res (Zau x0 x0).2.2.1 (Zau x0 x0).2.2.2,.res (Q1 x1 x1).2.2.1 (Q1 x1 x1).2.2.2,.res (Zpb x0 x1 x2 ((v0,v1))).2.2.1 (Zpb x0 x1 x2 ((v0,v1))).2.2.2,.res (Zau x0 x0).2.2.1 (Zau x0 x0).2.2.2,.res (Q1 x1 x1).2.2.1 (Q1 x1 x1).2.2.2,.res (Zd3 x0 x1 x2 ((v0,v1))).2.2.1 (Zd3 x0 x1 x2 ((v0,v1))).2.2.2,.res (Zat v0 v0 true).2.2.1 (Zat v0 v0 true).2.2.2,.k,.k,.k,.res (J8 v1 v1 true).2.2.1 (J8 v1 v1 true).2.2.2,.k,.k,.k,.res (Zau x0 x0).2.2.1 (Zau x0 x0).2.2.2,.res (Zat x0 x0 true).2.2.1 (Zat x0 x0 true).2.2.2,.k,.res (Q1 x1 x1).2.2.1 (Q1 x1 x1).2.2.2,.res (Zsl x1 x1 true).2.2.1 (Zsl x1 x1 true).2.2.2,.k,.res (.lit (.int .i64 (Yg x0 1).2)) (Za.enc (Yg x0 1).1),.res (.lit (.int .i64 (Kx x1 ((Yg x0 1).2)).2)) (Zi.enc (Kx x1 ((Yg x0 1).2)).1),.t true,.t true,.t true,.res (Zat v0 v0 true).2.2.1 (Zat v0 v0 true).2.2.2,.t true,.t false,.k,.k,.k,.res (J8 v1 v1 true).2.2.1 (J8 v1 v1 true).2.2.2,.k,.k,.k,.res (.lit (.int .i64 (Yg v0 1).2)) (Za.enc (Yg v0 1).1),.res (.lit (.int .i64 (mkL X4 v1 ((Yg v0 1).2)).2)) [.tr ((mkL X4 v1 ((Yg v0 1).2)).1.map Zg.enc)],.res (Zg7 ((Yg v0 1).1) 1 ((Yg v0 1).2)).2.2.1 (Zg7 ((Yg v0 1).1) 1 ((Yg v0 1).2)).2.2.2,.t false,.res (Zbz ((mkL X4 v1 ((Yg v0 1).2)).1) ((Yg v0 1).2) ((mkL X4 v1 ((Yg v0 1).2)).2)).2.2.1 (Zbz ((mkL X4 v1 ((Yg v0 1).2)).1) ((Yg v0 1).2) ((mkL X4 v1 ((Yg v0 1).2)).2)).2.2.2,.t false,.t false,.res (Zau x0 x0).2.2.1 (Zau x0 x0).2.2.2,.res (Q1 x1 x1).2.2.1 (Q1 x1 x1).2.2.2,.res (Zd3 x0 x1 x2 ((v0,v1))).2.2.1 (Zd3 x0 x1 x2 ((v0,v1))).2.2.2,.res (Zat v0 v0 true).2.2.1 (Zat v0 v0 true).2.2.2,.k,.k,.k,.res (J8 v1 v1 true).2.2.1 (J8 v1 v1 true).2.2.2,.k,.k,.k,.res (Zg7 ((Yg v0 1).1) 1 ((Yg v0 1).2)).2.2.1 (Zg7 ((Yg v0 1).1) 1 ((Yg v0 1).2)).2.2.2,.t false,.res (Zbz ((mkL X4 v1 ((Yg v0 1).2)).1) ((Yg v0 1).2) ((mkL X4 v1 ((Yg v0 1).2)).2)).2.2.1 (Zbz ((mkL X4 v1 ((Yg v0 1).2)).1) ((Yg v0 1).2) ((mkL X4 v1 ((Yg v0 1).2)).2)).2.2.2,.t false,.t false]
  (p:=(Zu Tryz.prog Mo (Zef x0 1048576 l0))/\((decide (l0 < 0))=false)/\(Zu Tryz.prog Mo (Ze4 x1 l0 l1))/\((decide (l1 < 0))=false)/\(Zu Tryz.prog Mo (Zau x0 x0))/\(Zu Tryz.prog Mo (Q1 x1 x1))/\(Zu Tryz.prog Mo (Zpb x0 x1 x2 ((v0,v1))))/\(Zu Tryz.prog Mo (Zau x0 x0))/\(Zu Tryz.prog Mo (Q1 x1 x1))/\(Zu Tryz.prog Mo (Zd3 x0 x1 x2 ((v0,v1))))/\(Zu Tryz.prog Mo (Zat v0 v0 true))/\(Zu Tryz.prog Mo (J8 v1 v1 true))/\(Zu Tryz.prog Mo (Zau x0 x0))/\(Zu Tryz.prog Mo (Zat x0 x0 true))/\(Zu Tryz.prog Mo (Q1 x1 x1))/\(Zu Tryz.prog Mo (Zsl x1 x1 true))/\(Qr Tryz.prog 28 true (Za.enc x0) (Za.enc (Yg x0 1).1) 1 (Yg x0 1).2)/\(Qr Tryz.prog 27 true (Zi.enc x1) (Zi.enc (Kx x1 ((Yg x0 1).2)).1) ((Yg x0 1).2) (Kx x1 ((Yg x0 1).2)).2)/\(((decide ((Kx x1 ((Yg x0 1).2)).2 < 0)) == false)=true)/\(((decide ((Kx x1 ((Yg x0 1).2)).2 < 0)) == false)=true)/\(((decide ((Kx x1 ((Yg x0 1).2)).2 < 0)) == false)=true)/\(Zu Tryz.prog Mo (Zat v0 v0 true))/\(((decide ((Kx x1 ((Yg x0 1).2)).2 < 0)) == false)=true)/\((decide ((Kx x1 ((Yg x0 1).2)).2 < 0))=false)/\(Zu Tryz.prog Mo (J8 v1 v1 true))/\(Qr Tryz.prog 28 true (Za.enc v0) (Za.enc (Yg v0 1).1) 1 (Yg v0 1).2)/\(Qr Tryz.prog 40 false [.tr (v1.map Zg.enc)] [.tr ((mkL X4 v1 ((Yg v0 1).2)).1.map Zg.enc)] ((Yg v0 1).2) (mkL X4 v1 ((Yg v0 1).2)).2)/\(Zu Tryz.prog Mo (Zg7 ((Yg v0 1).1) 1 ((Yg v0 1).2)))/\((decide ((Yg v0 1).2 < 0))=false)/\(Zu Tryz.prog Mo (Zbz ((mkL X4 v1 ((Yg v0 1).2)).1) ((Yg v0 1).2) ((mkL X4 v1 ((Yg v0 1).2)).2)))/\((decide ((mkL X4 v1 ((Yg v0 1).2)).2 < 0))=false)/\((decide ((mkL X4 v1 ((Yg v0 1).2)).2≠(mkL X4 v1 ((Yg v0 1).2)).2))=false)/\(Zu Tryz.prog Mo (Zau x0 x0))/\(Zu Tryz.prog Mo (Q1 x1 x1))/\(Zu Tryz.prog Mo (Zd3 x0 x1 x2 ((v0,v1))))/\(Zu Tryz.prog Mo (Zat v0 v0 true))/\(Zu Tryz.prog Mo (J8 v1 v1 true))/\(Zu Tryz.prog Mo (Zg7 ((Yg v0 1).1) 1 ((Yg v0 1).2)))/\((decide ((Yg v0 1).2 < 0))=false)/\(Zu Tryz.prog Mo (Zbz ((mkL X4 v1 ((Yg v0 1).2)).1) ((Yg v0 1).2) ((mkL X4 v1 ((Yg v0 1).2)).2)))/\((decide ((mkL X4 v1 ((Yg v0 1).2)).2 < 0))=false)/\((decide ((mkL X4 v1 ((Yg v0 1).2)).2≠(mkL X4 v1 ((Yg v0 1).2)).2))=false)/\(True))
  ⟨Z77 hc0,(Zqj hz1),Z90 hc2,(Zqj hz3),Z1n hc4,Zsy hc5,Yzg hc6,Z1n hc4,Zsy hc5,Ygp hc7,Z2i hc8,Z21 hc9,Z1n hc4,Z2i hc10,Zsy hc5,Yny hc11,Ygd _ _ hm12,Ymp _ _ hm13,Ym6 (Zqj Yr4),Ym6 (Zqj Yr4),Ym6 (Zqj Yr4),Z2i hc8,Ym6 (Zqj Yr4),(Zqj Yr4),Z21 hc9,Ygd _ _ hm15,Yq1 _ _ hm16,Yc2 hc17,(Zqj hz18),Z7l hc19,(Zqj hz20),(dne_f),Z1n hc4,Zsy hc5,Ygp hc7,Z2i hc8,Z21 hc9,Yc2 hc17,(Zqj hz18),Z7l hc19,(Zqj hz20),(dne_f),trivial⟩ (ts:=[6]) (ks:=[]) (e:=.ret) (vs:=[.lit (.bool true)]) (bs:=[]) (by kernel_rfl) (λs h1 _=>⟨rfl,by simpa using h1⟩)
end
end Go.Proofs.YtagdmghmblplbaaGreat.Ev
