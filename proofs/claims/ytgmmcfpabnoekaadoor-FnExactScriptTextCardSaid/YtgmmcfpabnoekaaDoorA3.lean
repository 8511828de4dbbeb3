/- A part of the proof of FnExactScriptText: see the text YtgmmcfpabnoekaaDoorLawFnExactScriptText for what is proved and its conditions. Conditions here: those in each line. -/
import Derived.Test.YtgmmcfpabnoekaaDoorA2
import Derived.KernelRfl
import Derived.Lib.AtoiAll
import Derived.Lib.ItoaNum
import Derived.Lib.Join
import Derived.Lib.Split
import Derived.Lib.Strings
import Derived.Shelf.LaysC
import Derived.Shelf.LaysM
import Derived.Shelf.Strconv.AtoiAll
import Derived.Shelf.Strconv.Itoa3
import Derived.Shelf.Strings.OnBuilder
import Derived.Shelf.Strings.Prefix
import Derived.Shelf.Strings.SplitShaped
import Derived.Test.YtgmmcfpabnoekaaDoorProg
import GoSem.ClaimData
namespace Go.Proofs.YtgmmcfpabnoekaaDoor.Ev
open Go Go.RowKit KM
set_option linter.unusedVariables false
set_option linter.unusedSimpArgs false
set_option linter.unusedSectionVars false
variable [Anchor]
section
variable {P:Program} {M:Hints}
def Zeo (ts:List (Option TypeId)) (x:V) (s:St):KM (V×St):=
 match x with
 | .agg cs=>bnd (Kg ts cs s) fun y=>ret (.agg y.1,y.2)
 | .ptr id 0 0=>bnd (Zac s ts id) fun y=>ret (.obx y.1,y.2)
 | x=>Ji s (ts.headD none) x
theorem Zj6 {s:St} {ts:List (Option TypeId)} {x:V}:KS (Zeo ts x s) (s.liftOne ts x):=by
 unfold Zeo
 split
 ·exact Zv Jo
 ·exact Zv Zbe
 ·rename_i _ h1 h2
  have:s.liftOne ts x=s.giveCell (ts.headD none) x:=by
   unfold St.liftOne
   split<;>simp_all
  rw[this];exact J9
def Zeg (P:Program):List TypeId→List V→(s:St)→KM (List V×St)
 | _,[],s=>ret ([],s)
 | ts,x::r,s=>bnd (Zeo (Zbk P (ts.headD 0)) x s) fun y=>bnd (Zeg P ts.tail r y.2) fun z=>ret (y.1::z.1,z.2)
theorem Zj3:∀{xs:List V} {s:St} {ts:List TypeId},KS (Zeg P ts xs s) (s.liftAll P ts xs):=by
 intro xs
 induction xs with
 | nil=>intro s ts;exact Zy
 | cons x xs ih=>intro s ts;exact Xz Zj6 fun y=>Zv ih
def Wy (p:Nat):(k:Nat)→List V→(s:St)→KM (List V×St)
 | _,[],s=>ret ([],s)
 | k,x::r,s=>match x with
  | .own e rows=>bnd (Zbs s (0,64*p+k) 0 rows.length) fun er=>if er.1=e then bnd (Wy p (k+1) r (s.kill (0,64*p+k))) fun z=>ret (.own er.1 er.2::z.1,z.2) else fail
  | _=>bnd (Wy p (k+1) r s) fun z=>ret (.undef::z.1,z.2)
theorem Zcq {p:Nat}:∀{xs:List V} {k:Nat} {s:St},KS (Wy p k xs s) (s.outCells p k xs):=by
 intro xs
 induction xs with
 | nil=>intro k s;exact Zy
 | cons x xs ih=>
  intro k s
  cases x with
  | own e rows=>
   simp only[Wy,St.outCells]
   refine Za Zav (fun er he=>?_)
   rw[he,Option.bind_some]
   refine Zt (fun hx=>?_) (fun _=>Zb)
   rw[if_pos hx]
   exact Zv ih
  | _=>
   simp only[Wy,St.outCells]
   exact Zv ih
def outK (p:Nat) (ts:List (Option TypeId)) (m:Mode) (x:V) (s:St):KM (V×St):=
 match m with
 | .rd|.mv=>ret (.undef,s)
 | .io=>match x with
  | .agg cs=>bnd (Zac s ts (0,64*p+63)) fun y=>if y.1.length=cs.length then ret (.agg y.1,y.2) else fail
  | _=>fail
 | .iov=>match x with
  | .agg cs=>bnd (Wy p 0 cs s) fun y=>ret (.agg y.1,y.2)
  | x=>bnd (Wy p 0 [x] s) fun y=>bnd (opt y.1.head?) fun v=>ret (v,y.2)
theorem Zqf {s:St} {p:Nat} {ts:List (Option TypeId)} {m:Mode} {x:V}:KS (outK p ts m x s) (s.out p ts m x):=by
 cases m
 ·exact Zy
 ·cases x with
  | agg cs=>
   simp only[outK,St.out]
   refine Za Zbe (fun y hy=>?_)
   rw[hy]
   simp only[Option.bind_some]
   refine Zt (fun hx=>?_) (fun _=>Zb)
   rw[if_pos hx]
   exact Ze rfl
  | _=>exact Zb
 ·exact Zy
 ·cases x with
  | agg cs=>exact Zv Zcq
  | _=>simp only[outK,St.out];exact Xz Zcq fun y=>Zv Jh
def Zl2 (P:Program):(p:Nat)→List TypeId→List Mode→List V→(s:St)→KM (List V)
 | _,_,_,[],s=>ret []
 | p,ts,ms,x::r,s=>bnd (outK p (Zbk P (ts.headD 0)) (ms.headD .rd) x s) fun y=>bnd (Zl2 P (p+1) ts.tail ms.tail r y.2) fun z=>ret (y.1::z)
theorem Zpe:∀{xs:List V} {s:St} {p:Nat} {ts:List TypeId} {ms:List Mode},KS (Zl2 P p ts ms xs s) (s.outs P p ts ms xs):=by
 intro xs
 induction xs with
 | nil=>intro s p ts ms;exact Zy
 | cons x xs ih=>intro s p ts ms;exact Xz Zqf fun y=>Zv ih
def retK (P:Program) (M:Hints) (f:FuncId) (fn:Func) (xs:List V) (s:St):KM (V×List V):=
 bnd (opt (resV P s fn.results.toList)) fun vs=>bnd (Zeg P fn.resultTypes.toList vs s) fun z=>bnd (Zl2 P 0 fn.params.toList (M.modes f) xs z.2) fun os=>ret (Zc6 z.1,os)
theorem Zk8 {f:FuncId} {fn:Func} {xs:List V} {s:St}:KS (retK P M f fn xs s) ((resV P s fn.results.toList).bind fun vs=>(s.liftAll P fn.resultTypes.toList vs).bind fun z=>(z.2.outs P 0 fn.params.toList (M.modes f) xs).map fun os=>(Zc6 z.1,os)):=
 Xz Jh fun vs=>Xz Zj3 fun z=>Zv Zpe
def Zlh (P:Program) (M:Hints) (s:St) (k:Nat) (g:FuncId) (args:List V):KM (V×St):=
 if args.length≤8 then bnd (Zie P (((P.funcs[g]?).map (·.params.toList)).getD []) (M.modes g) args s) fun y=>bnd (Zfa y.2 (M.modes g) y.1) fun xs=>bnd hear fun o=>match o with
  | .res r os=>bnd (obl (Fine P M (g,xs,r,os))) fun _=>if ((Zbz r||os.any Wb)&&!Wz (M.modes g) args)=true then fail else
   bnd (Zis s.ep (M.modes g) (16*k+8) args os y.2) fun s'=>opt (s'.takeRes s.ep (16*k) r)
  | _=>fail
 else fail
theorem Zo3 (hP:FuncsOk P) {s:St} {k:Nat} {g:FuncId} {args:List V}:KP (Zlh P M s k g args) (fun y=>∃C,Xh P M C∧Ql P M C s k g args=some y):=by
 unfold Zlh
 refine Zt (fun h8=>?_) (fun _=>Zb)
 refine Za Znd (fun y hy=>Za Zmw (fun xs hx=>Za Z0 (fun o _=>?_)))
 split
 ·rename_i r os
  refine Za Zf (fun _ hf=>Zt (fun _=>Zb) (fun ht=>Za Zmu (fun s' hs=>Yy.mono fun z hz=>⟨one (g,xs,r,os),one_ok hP hf,?_⟩)))
  unfold Ql
  rw[if_pos h8,hy,Option.bind_some,hx,Option.bind_some]
  have h1:one (g,xs,r,os) g xs=some (r,os):=by unfold one;rw[if_pos ⟨rfl,rfl⟩]
  rw[h1,Option.bind_some]
  simp only
  rw[if_neg ht,hs,Option.bind_some,hz]
 ·exact Zb
def Zij (s:St) (all:Bool) (x:V) (m:List (List V)) (lb:Bool):KM St:=
 match x with
 | .sl id off len=>if id.1=s.ep∨all=true then (if lb=true then bnd (Zbs s id off len) fun er=>bnd (obl (er.2=m)) fun _=>ret (s.kill id) else match s.heap id with
   | some b=>if b.cl=false then bnd (Km s (.sl id off len)) fun rows=>bnd (obl (rows=m)) fun _=>bnd (obl (Y3 m=lb)) fun _=>ret s else fail
   | none=>fail)
  else bnd (Km s x) fun rows=>bnd (obl (rows=m)) fun _=>bnd (obl (Y3 m=lb)) fun _=>ret s
 | x=>bnd (Km s x) fun rows=>bnd (obl (rows=m)) fun _=>bnd (obl (Y3 m=lb)) fun _=>ret s
theorem Znp {s:St} {all:Bool} {x:V} {m:List (List V)} {lb:Bool}:KP (Zij s all x m lb) (fun s1=>s.moved all x=some (m,lb,s1)):=by
 unfold Zij
 split
 ·rename_i id off len
  simp only[St.moved]
  refine Zt (fun hx=>Zt (fun hl=>?_) (fun _=>?_)) (fun hn=>?_)
  ·refine Za Zav (fun er he=>Za Zf (fun _ hm=>Ze ?_))
   rw[if_pos hx,he,hl]
   simp only[hm]
  ·split
   ·rename_i b hb
    refine Zt (fun hc=>?_) (fun _=>Zb)
    refine Za Xr (fun rows hr=>Za Zf (fun _ hm=>Za Zf (fun _ hl=>Ze ?_)))
    have hw:s.whole id off len=none:=by
     unfold St.whole
     rw[hb,Option.bind_some,if_neg (fun h=>by rw[hc] at h;cases h.2.2.1)]
    rw[if_pos hx,hw,hr]
    simp only[Option.map_some,hm,hl]
   ·exact Zb
  ·refine Za Xr (fun rows hr=>Za Zf (fun _ hm=>Za Zf (fun _ hl=>Ze ?_)))
   rw[if_neg hn,hr]
   simp only[Option.map_some,hm,hl]
 ·rename_i _ hne
  refine Za Xr (fun rows hr=>Za Zf (fun _ hm=>Za Zf (fun _ hl=>Ze ?_)))
  have:s.moved all x=(s.rowsOf x).map fun rows=>(rows,Y3 rows,s):=by
   unfold St.moved
   split<;>simp_all
  rw[this,hr]
  simp only[Option.map_some,hm,hl]
def appK (P:Program) (all:Bool) (s:St) (id:Id) (t:TypeId) (b x:V):KM (V×St):=
 bnd (opt (Zz P t)) fun e=>bnd hear fun o=>match o with
 | .app m lb R n=>bnd (Zij s all x m lb) fun s1=>if Zc P e≠0∧Kj P e=true then bnd (obl (Wv (Zc P e) m=true)) fun _=>
  match b with
  | .lit (.slice none 0 0)=>bnd (obl (m.length*P.bytesOf e≤140737488355328∧m.length≤9223372036854775807)) fun _=>bnd (obl (m=R)) fun _=>bnd (obl (n=R.length)) fun _=>ret (.sl id 0 n,s1.setB id ⟨false,true,lb,e,R⟩)
  | .sl i 0 len=>match s1.heap i with
   | some k=>if k.box=false∧k.own=true∧k.el=e then bnd (obl (len=k.rows.length)) fun _=>bnd (obl ((len+m.length)*P.bytesOf e≤140737488355328∧len+m.length≤9223372036854775807)) fun _=>
     bnd (obl (k.rows++m=R)) fun _=>bnd (obl (n=R.length)) fun _=>ret (.sl id 0 n,(s1.kill i).setB id ⟨false,true,k.cl&&lb,e,R⟩) else fail
   | none=>fail
  | _=>fail
  else fail
 | _=>fail
theorem Zqj {all:Bool} {s:St} {id:Id} {t:TypeId} {b x:V}:KS (appK P all s id t b x) (W1 P all s id t b x):=by
 unfold appK W1
 refine Xz Jh fun e=>Za Z0 (fun o _=>?_)
 split
 ·rename_i m lb R n
  refine Za Znp (fun s1 hm=>Zt (fun hz=>Za Zf (fun _ ha=>?_)) (fun _=>Zb))
  rw[hm,Option.bind_some,if_pos ⟨ha,hz.1,hz.2⟩]
  split
  ·refine Za Zf (fun _ h1=>Za Zf (fun _ h2=>Za Zf (fun _ h3=>Ze ?_)))
   rw[if_pos h1,h3,h2]
   rfl
  ·rename_i i len
   simp only
   split
   ·rename_i k hk
    refine Zt (fun hx=>?_) (fun _=>Zb)
    refine Za Zf (fun _ h0=>Za Zf (fun _ h1=>Za Zf (fun _ h2=>Za Zf (fun _ h3=>Ze ?_))))
    rw[hk,Option.bind_some,if_pos ⟨hx.1,hx.2.1,by omega,hx.2.2,h1⟩,h3,←h2,List.drop_zero,List.length_append,h0]
   ·exact Zb
  ·exact Zb
 ·exact Zb
def Zhq (c:Bool):KM Bool:=bnd hear fun o=>match o with
 | .t e=>bnd (obl (c=e)) fun _=>ret e
 | .k=>ret c
 | _=>fail
theorem Zjc {c:Bool}:KP (Zhq c) (fun e=>c=e):=by
 unfold Zhq
 refine Za Z0 (fun o _=>?_)
 split
 ·exact Za Zf (fun _ h=>Ze h)
 ·exact Ze rfl
 ·exact Zb
def Zak (p:Prop) [Decidable p]:KM Unit:=bnd hear fun o=>match o with
 | .k=>if p then ret () else fail
 | .obl=>obl p
 | _=>fail
theorem Jg {p:Prop} [Decidable p]:KP (Zak p) (fun _=>p):=by
 unfold Zak
 refine Za Z0 (fun o _=>?_)
 split
 ·exact Zt (fun h=>Ze h) (fun _=>Zb)
 ·exact Zf
 ·exact Zb
def Zl6 (op:BinOp) (k k':IntKind) (a b:Int):KM V:=
 match op with
 | .shl=>bnd (Zak (0≤b)) fun _=>ret (.lit (.int k (k.wrap (a*2^min b.toNat k.bits))))
 | .shr=>bnd (Zak (0≤b)) fun _=>ret (.lit (.int k (a.fdiv (2^min b.toNat k.bits))))
 | .quo=>if k=k' then bnd (Zak (b≠0)) fun _=>ret (.lit (.int k (k.wrap (a.tdiv b)))) else fail
 | .rem=>if k=k' then bnd (Zak (b≠0)) fun _=>ret (.lit (.int k (a.tmod b))) else fail
 | op=>opt (binI op k k' a b)
theorem Zoi {op:BinOp} {k k':IntKind} {a b:Int}:KS (Zl6 op k k' a b) (binI op k k' a b):=by
 unfold Zl6
 split
 ·refine Za Jg (fun _ h=>Ze ?_)
  simp only[binI];rw[if_neg (by omega)]
 ·refine Za Jg (fun _ h=>Ze ?_)
  simp only[binI];rw[if_neg (by omega)]
 ·refine Zt (fun hk=>Za Jg (fun _ h=>Ze ?_)) (fun _=>Zb)
  simp only[binI];rw[if_pos hk,if_neg h]
 ·refine Zt (fun hk=>Za Jg (fun _ h=>Ze ?_)) (fun _=>Zb)
  simp only[binI];rw[if_pos hk,if_neg h]
 ·exact Jh
def Zl9 (op:BinOp) (a b:ByteArray):KM V:=
 match op with
 | .add=>bnd (Zak (¬((a.size+b.size:Nat):Int) > IntKind.i64.max)) fun _=>ret (.lit (.string (a++b)))
 | op=>opt (binS op a b)
theorem Zow {op:BinOp} {a b:ByteArray}:KS (Zl9 op a b) (binS op a b):=by
 unfold Zl9
 split
 ·refine Za Jg (fun _ h=>Ze ?_)
  simp only[binS];rw[if_neg h]
 ·exact Jh
def opK (P:Program) (M:Hints) (f:Operand→V) (s:St) (k:Nat) (o:Oper):KM (V×St):=
 match o.op with
 | .binOp op t x y yt=>match f x,f y with
  | .lit (.int k1 a),.lit (.int k2 b)=>bnd (Zl6 op k1 k2 a b) fun v=>ret (v,s)
  | .lit (.string a),.lit (.string b)=>bnd (Zl9 op a b) fun v=>ret (v,s)
  | .lit (.bool a),.lit (.bool b)=>match op,P.underlying t with
   | .eql,some .bool=>ret (.lit (.bool (a == b)),s)
   | .neq,some .bool=>ret (.lit (.bool (a != b)),s)
   | _,_=>fail
  | .agg xs,.agg ys=>if (Yp xs).isSome=true∧(Yp ys).isSome=true∧Zbw P t xs=true then bnd (opt (Y7 xs ys)) fun b=>match op with
   | .eql=>ret (.lit (.bool b),s)
   | .neq=>ret (.lit (.bool (!b)),s)
   | _=>fail
   else fail
  | a,.lit (.slice none 0 0)=>match a with
   | .sl ..|.tr _|.vw _=>if (Zz P t).isSome=true then bnd (Km s a) fun rows=>bnd (obl (rows≠[])) fun _=>match op with
    | .eql=>ret (.lit (.bool false),s)
    | .neq=>ret (.lit (.bool true),s)
    | _=>fail
    else fail
   | _=>opt (Zg P M Zk f s k o)
  | _,_=>opt (Zg P M Zk f s k o)
 | .buildSlice t n parts=>bnd (opt (Zz P t)) fun e=>bnd (opt (if n*Zc P e=0 then some [] else Xj P e)) fun z=>
  if Zc P e=0∨n*Zc P e > 1048576∨Kj P e=false then fail else
  bnd (opt (Ks P (fun i=>some (i*Zc P e,Zc P e)) (List.replicate n z).flatten (parts.toList.map fun p=>(p.1,f p.2)))) fun cs=>
   bnd (Zc8 (Kk (Zc P e) n cs) s) fun y=>ret (.sl (s.ep,1024*k) 0 n,y.2.2.setB (s.ep,1024*k) ⟨false,true,y.2.1,e,y.1⟩)
 | .pick c a b=>match f c with
  | .lit (.bool t)=>bnd (Zhq t) fun e=>if e then ret (f a,s) else ret (f b,s)
  | _=>fail
 | .indexAddr t x ix=>bnd (opt (Zz P t)) fun e=>if Zc P e=0 then fail else bnd hear fun q=>match q with
  | .row n r=>if r.length=Zc P e then bnd (obl (Zw (f ix)=some n)) fun _=>match f x with
   | .sl i off len=>bnd (obl (n < len)) fun _=>match s.heap i with
    | some b=>bnd (obl (b.rows[offN off n]?=some r)) fun _=>ret (.ptr i (offN off n) 0,s)
    | none=>fail
   | .tr rows=>bnd (obl (rows[n]?=some r)) fun _=>ret (.rp true r 0,s)
   | .vw rows=>bnd (obl (rows[n]?=some r)) fun _=>ret (.rp false r 0,s)
   | _=>fail
   else fail
  | _=>fail
 | .load t a=>match f a with
  | .ptr i j n=>match s.heap i with
   | some b=>match b.box with
    | true=>opt (Zg P M Zk f s k o)
    | false=>bnd hear fun q=>match q with
     | .cell row=>bnd (obl (b.rows[j]?=some row)) fun _=>if n+Zc P t≤row.length then bnd (opt (Wg P t ((row.drop n).take (Zc P t)))) fun v=>ret (v,s) else fail
     | _=>fail
   | none=>fail
  | _=>opt (Zg P M Zk f s k o)
 | .store t a x=>match f a with
  | .ptr i j n=>match s.heap i with
   | some b=>match b.box with
    | true=>opt (Zg P M Zk f s k o)
    | false=>bnd hear fun q=>match q with
     | .put row R=>bnd (obl (b.rows[j]?=some row)) fun _=>bnd (opt (Ki (f x))) fun cs=>if b.own=true∧cs.length=Zc P t∧n+Zc P t≤row.length∧Zc P t≠0 then
       bnd (Jr cs s) fun y=>match y.2.2.heap i with
        | some b=>bnd (obl (b.rows.set j (Yb row n y.1)=R)) fun _=>ret (.undef,y.2.2.setB i ⟨b.box,b.own,b.cl&&y.2.1,b.el,R⟩)
        | none=>fail
       else fail
     | _=>fail
   | none=>fail
  | _=>fail
 | .slice t x lo hi none=>match f x with
  | .sl id off len=>bnd hear fun q=>match q with
   | .num l h n R=>bnd (opt (Zz P t)) fun e=>bnd (Km s (f x)) fun rows=>bnd (obl (match lo with|some z=>Zw (f z)=some l|none=>l=0)) fun _=>bnd (obl (match hi with|some z=>Zw (f z)=some h|none=>rows.length=h)) fun _=>
    bnd (obl (l≤h∧h≤rows.length)) fun _=>bnd (obl (Wv (Zc P e) rows=true)) fun _=>bnd (obl (n=h - l)) fun _=>if Zc P e≠0 then ret (.sl id (offN off l) n,s) else fail
   | _=>fail
  | .tr _|.vw _=>bnd hear fun q=>match q with
   | .num l h n R=>bnd (opt (Zz P t)) fun e=>bnd (Km s (f x)) fun rows=>bnd (obl (match lo with|some z=>Zw (f z)=some l|none=>l=0)) fun _=>bnd (obl (match hi with|some z=>Zw (f z)=some h|none=>rows.length=h)) fun _=>
    bnd (obl (l≤h∧h≤rows.length)) fun _=>bnd (obl (Wv (Zc P e) rows=true)) fun _=>bnd (obl ((rows.drop l).take (h - l)=R)) fun _=>if Zc P e≠0 then ret ((match f x with|.tr _=>.tr R|_=>.vw R),s) else fail
   | _=>fail
  | .lit (.string b)=>match P.underlying t with
   | some .string=>bnd hear fun q=>match q with
    | .val (.lit (.string c))=>bnd (obl (ssl b (lo.map f) (hi.map f)=some c)) fun _=>ret (.lit (.string c),s)
    | _=>fail
   | _=>fail
  | _=>opt (Zg P M Zk f s k o)
 | .index t x ix=>match f x with
  | .lit (.string b)=>match P.underlying t with
   | some .string=>bnd hear fun q=>match q with
    | .val (.lit (.int _ m))=>bnd (obl (sidx b (f ix)=some m)) fun _=>ret (.lit (.int .u8 m),s)
    | _=>fail
   | _=>fail
  | _=>opt (Zg P M Zk f s k o)
 | .convert src dst x=>match f x with
  | .sl ..|.tr _|.vw _=>match P.underlying src,P.underlying dst with
   | some (.slice e),some .string=>match P.underlying e with
    | some (.int .u8)=>bnd (Km s (f x)) fun rows=>bnd hear fun q=>match q with
     | .val (.lit (.string c))=>bnd (obl (strV rows=some c)) fun _=>ret (.lit (.string c),s)
     | _=>fail
    | _=>fail
   | _,_=>fail
  | _=>opt (Zg P M Zk f s k o)
 | .makeSlice t l c=>bnd hear fun q=>match q with
  | .mk n R=>bnd (opt (Zz P t)) fun e=>bnd (opt (Xj P e)) fun z=>bnd (obl (Zw (f l)=some n)) fun _=>bnd (obl (Zw (f c)=some n)) fun _=>bnd (obl (n*P.bytesOf e≤70368744177664∧n≤9223372036854775807)) fun _=>
   bnd (obl (List.replicate n (z.map Ym)=R)) fun _=>if z.length=Zc P e∧Zc P e≠0 then ret (.sl (s.ep,1024*k) 0 R.length,s.setB (s.ep,1024*k) ⟨false,true,true,e,R⟩) else fail
  | _=>fail
 | .call c=>match c.callee with
  | .value g=>match f g with
   | .fn g caps=>Zlh P M s k g (c.args.toList.map f++caps)
   | _=>fail
  | .builtin .append=>match c.args.toList,c.argTypes.toList with
   | [b,x],[t,t']=>if t=t' then appK P (M.mv o.pos) s (s.ep,1024*k) t (f b) (f x) else fail
   | _,_=>fail
  | .builtin .len=>match c.args.toList,c.argTypes.toList with
   | [x],[t]=>match f x with
    | .sl _ _ n=>bnd hear fun q=>match q with
     | .num m _ _ _=>bnd (obl (n=m)) fun _=>if (Zz P t).isSome=true then ret (.lit (.int .i64 m),s) else fail
     | _=>fail
    | .tr rows|.vw rows=>bnd hear fun q=>match q with
     | .num m _ _ _=>bnd (obl (rows.length=m)) fun _=>if (Zz P t).isSome=true then ret (.lit (.int .i64 m),s) else fail
     | _=>fail
    | _=>opt (Zg P M Zk f s k o)
   | _,_=>fail
  | .builtin .clear=>match c.args.toList,c.argTypes.toList with
   | [x],[t]=>bnd (opt (Zz P t)) fun e=>bnd (opt (Xj P e)) fun z=>match f x with
    | .sl i off n=>match s.heap i with
     | some b=>bnd hear fun q=>match q with
      | .app R _ _ _=>if b.own=true∧b.box=false∧b.el=e∧z.length=Zc P e∧Zc P e≠0 then bnd (obl (off+n≤b.rows.length)) fun _=>
        bnd (obl (b.rows.take off++List.replicate n (z.map Ym)++b.rows.drop (off+n)=R)) fun _=>ret (.tup [],s.setB i ⟨b.box,b.own,b.cl,b.el,R⟩) else fail
      | _=>fail
     | none=>fail
    | _=>fail
   | _,_=>fail
  | _=>opt (Zg P M Zk f s k o)
 | _=>opt (Zg P M Zk f s k o)
end
section
variable {P:Program} {M:Hints}
def OpOk (P:Program) (M:Hints) (f:Operand→V) (s:St) (k:Nat) (o:Oper) (y:V×St):Prop:=∃C,Xh P M C∧Zg P M C f s k o=some y
theorem Xf (hP:FuncsOk P) {f:Operand→V} {s:St} {k:Nat} {o:Oper}:KP (opt (Zg P M Zk f s k o)) (OpOk P M f s k o):=Yy.mono fun y h=>⟨Zk,Zn hP,h⟩
theorem Zmv (hP:FuncsOk P) {f:Operand→V} {s:St} {k:Nat} {d:Option Tmp} {ty t yt:TypeId} {pos:String} {af:Array Edge} {g:Option (Nat×Bool)} {op:BinOp} {x y:Operand}:KP (opK P M f s k ⟨d,.binOp op t x y yt,ty,pos,af,g⟩) (OpOk P M f s k ⟨d,.binOp op t x y yt,ty,pos,af,g⟩):=by
 have base:∀{v:V},binX P op t x y (f x) (f y)=some v→(∃a b,f x=.lit a∧f y=.lit b)→Zg P M Zk f s k ⟨d,.binOp op t x y yt,ty,pos,af,g⟩=some (v,s):=fun {v} h ⟨a,b,h1,h2⟩=>by
  have e:Zr P f ⟨d,.binOp op t x y yt,ty,pos,af,g⟩=some v:=by rw[Znb];exact h
  simp only[Zg,h1,h2,e,Option.map_some]
 have base2:∀{v:V},binX P op t x y (f x) (f y)=some v→(∃a b,f x=.agg a∧f y=.agg b)→Zg P M Zk f s k ⟨d,.binOp op t x y yt,ty,pos,af,g⟩=some (v,s):=fun {v} h ⟨a,b,h1,h2⟩=>by
  have e:Zr P f ⟨d,.binOp op t x y yt,ty,pos,af,g⟩=some v:=by rw[Znb];exact h
  simp only[Zg,h1,h2,e,Option.map_some]
 simp only[opK]
 split
 ·rename_i k1 a k2 b h1 h2
  refine Za Zoi (fun v hv=>Ze ⟨Zk,Zn hP,base ?_ ⟨_,_,h1,h2⟩⟩)
  rw[h1,h2,Zol];exact hv
 ·rename_i a b h1 h2
  refine Za Zow (fun v hv=>Ze ⟨Zk,Zn hP,base ?_ ⟨_,_,h1,h2⟩⟩)
  rw[h1,h2,Zn4];exact hv
 ·rename_i a b h1 h2
  split
  ·rename_i h3
   refine Ze ⟨Zk,Zn hP,base ?_ ⟨_,_,h1,h2⟩⟩
   rw[h1,h2,Zn8 h3]
  ·rename_i h3
   refine Ze ⟨Zk,Zn hP,base ?_ ⟨_,_,h1,h2⟩⟩
   rw[h1,h2,Zoc h3]
  ·exact Zb
 ·rename_i xs ys h1 h2
  refine Zt (fun hc=>Za Yy (fun b hb=>?_)) (fun _=>Zb)
  split
  ·exact Ze ⟨Zk,Zn hP,base2 (by rw[h1,h2,Zmr hc.1 hc.2.1 hc.2.2 hb]) ⟨_,_,h1,h2⟩⟩
  ·exact Ze ⟨Zk,Zn hP,base2 (by rw[h1,h2,Zm6 hc.1 hc.2.1 hc.2.2 hb]) ⟨_,_,h1,h2⟩⟩
  ·exact Zb
 ·rename_i hy
  split
  all_goals first
   | exact Xf hP
   | (
     rename_i hx
     refine Zt (fun he=>Za Xr (fun rows hr=>Za Zf (fun _ hn=>?_))) (fun _=>Zb)
     obtain⟨r,l,rfl⟩:=List.exists_cons_of_ne_nil hn
     have hf:¬(Zz P t).isSome=false:=by rw[he];decide
     split
     ·exact Ze ⟨Zk,Zn hP,by simp only[Zg,hx,hy];rw[if_neg hf];rw[hx] at hr;rw[hr]⟩
     ·exact Ze ⟨Zk,Zn hP,by simp only[Zg,hx,hy];rw[if_neg hf];rw[hx] at hr;rw[hr]⟩
     ·exact Zb)
 ·exact Xf hP
theorem Zgj (hP:FuncsOk P) {f:Operand→V} {s:St} {k:Nat} {d:Option Tmp} {ty t:TypeId} {pos:String} {af:Array Edge} {g:Option (Nat×Bool)} {n:Nat} {parts:Array (Nat×Operand)}:KP (opK P M f s k ⟨d,.buildSlice t n parts,ty,pos,af,g⟩) (OpOk P M f s k ⟨d,.buildSlice t n parts,ty,pos,af,g⟩):=by
 simp only[opK]
 refine Za Yy (fun e he=>Za Yy (fun z hz=>Zt (fun _=>Zb) (fun hc=>Za Yy (fun cs hcs=>Za Zje (fun y hy=>Ze ⟨Zk,Zn hP,?_⟩)))))
 simp only[Zg,he,Option.bind_some,hz]
 rw[if_neg hc,hcs,Option.bind_some,hy]
 rfl
theorem Zou (hP:FuncsOk P) {f:Operand→V} {s:St} {k:Nat} {d:Option Tmp} {ty:TypeId} {pos:String} {af:Array Edge} {g:Option (Nat×Bool)} {c a b:Operand}:KP (opK P M f s k ⟨d,.pick c a b,ty,pos,af,g⟩) (OpOk P M f s k ⟨d,.pick c a b,ty,pos,af,g⟩):=by
 simp only[opK]
 split
 ·rename_i t hc
  refine Za Zjc (fun e he=>?_)
  subst he
  cases t with
  | true=>exact Ze ⟨Zk,Zn hP,by simp only[Zg,hc,if_true]⟩
  | false=>exact Ze ⟨Zk,Zn hP,by simp only[Zg,hc,Bool.false_eq_true,if_false]⟩
 ·exact Zb
theorem Zhi (hP:FuncsOk P) {f:Operand→V} {s:St} {k:Nat} {d:Option Tmp} {ty t:TypeId} {pos:String} {af:Array Edge} {g:Option (Nat×Bool)} {x ix:Operand}:KP (opK P M f s k ⟨d,.indexAddr t x ix,ty,pos,af,g⟩) (OpOk P M f s k ⟨d,.indexAddr t x ix,ty,pos,af,g⟩):=by
 simp only[opK]
 refine Za Yy (fun e he=>Zt (fun _=>Zb) (fun hz=>Za Z0 (fun o _=>?_)))
 split
 ·rename_i n r
  refine Zt (fun hr=>Za Zf (fun _ hn=>?_)) (fun _=>Zb)
  split
  ·rename_i i off len hx
   refine Za Zf (fun _ hlt=>?_)
   split
   ·rename_i b hb
    refine Za Zf (fun _ hrow=>Ze ⟨Zk,Zn hP,?_⟩)
    rw[Zk4] at hrow ⊢
    simp only[Zg,he,Option.bind_some,hz,if_false,hn,hx,hlt,if_true,hb,hrow,hr]
   ·exact Zb
  ·rename_i rows hx
   refine Za Zf (fun _ hrow=>Ze ⟨Zk,Zn hP,?_⟩)
   simp only[Zg,he,Option.bind_some,hz,if_false,hn,hx,if_true,hrow,hr]
  ·rename_i rows hx
   refine Za Zf (fun _ hrow=>Ze ⟨Zk,Zn hP,?_⟩)
   simp only[Zg,he,Option.bind_some,hz,if_false,hn,hx,if_true,hrow,hr]
  ·exact Zb
 ·exact Zb
theorem Zn2 (hP:FuncsOk P) {f:Operand→V} {s:St} {k:Nat} {d:Option Tmp} {ty t:TypeId} {pos:String} {af:Array Edge} {g:Option (Nat×Bool)} {a:Operand}:KP (opK P M f s k ⟨d,.load t a,ty,pos,af,g⟩) (OpOk P M f s k ⟨d,.load t a,ty,pos,af,g⟩):=by
 simp only[opK]
 split
 ·rename_i i j n ha
  split
  ·rename_i b hb
   split
   ·exact Xf hP
   ·refine Za Z0 (fun o _=>?_)
    split
    ·rename_i row
     refine Za Zf (fun _ hrow=>Zt (fun hl=>Za Yy (fun v hv=>Ze ⟨Zk,Zn hP,?_⟩)) (fun _=>Zb))
     simp only[Zg,ha,hb,Option.bind_some,hrow,hl,if_true,hv,Option.map_some]
    ·exact Zb
  ·exact Zb
 ·exact Xf hP
theorem Zmx (hP:FuncsOk P) {f:Operand→V} {s:St} {k:Nat} {d:Option Tmp} {ty t:TypeId} {pos:String} {af:Array Edge} {g:Option (Nat×Bool)} {a x:Operand}:KP (opK P M f s k ⟨d,.store t a x,ty,pos,af,g⟩) (OpOk P M f s k ⟨d,.store t a x,ty,pos,af,g⟩):=by
 simp only[opK]
 split
 ·rename_i i j n ha
  split
  ·rename_i b hb
   split
   ·exact Xf hP
   ·rename_i hbx
    refine Za Z0 (fun o _=>?_)
    split
    ·rename_i row R
     refine Za Zf (fun _ hrow=>Za Yy (fun cs hcs=>Zt (fun hc=>Za Ziv (fun y hy=>?_)) (fun _=>Zb)))
     split
     ·rename_i b2 hb2
      refine Za Zf (fun _ hR=>Ze ⟨Zk,Zn hP,?_⟩)
      have hc':b.own=true∧cs.length=Zc P t∧n+Zc P t≤row.length∧Zc P t≠0:=hc
      simp only[Zg,ha,hb,Option.bind_some,hrow,hcs]
      rw[if_pos hc',hbx]
      simp only[Bool.false_eq_true,if_false,hy,Option.bind_some,hb2,hR]
     ·exact Zb
    ·exact Zb
  ·exact Zb
 ·exact Zb
def Ziq (x:V) (l h:Nat):Option V:=match x with
 | .sl id off _=>some (.sl id (off+l) (h - l))
 | .tr rows=>some (.tr ((rows.drop l).take (h - l)))
 | .vw rows=>some (.vw ((rows.drop l).take (h - l)))
 | _=>none
theorem Zbu {s:St} {t e:TypeId} {x:V} {rows:List (List V)} {lo hi:Option Operand} {f:Operand→V} {l h:Nat} (he:Zz P t=some e) (hr:s.rowsOf x=some rows) (hl:match lo with|some z=>Zw (f z)=some l|none=>l=0) (hh:match hi with|some z=>Zw (f z)=some h|none=>rows.length=h)
  (h1:l≤h∧h≤rows.length) (h2:Wv (Zc P e) rows=true) (h3:Zc P e≠0):Q8 P s t x (lo.map f) (hi.map f)=Ziq x l h:=by
 have key:∀(a b:Option Nat),a=some l→b=some h→(a.bind fun l=>b.bind fun h=>if l≤h∧h≤rows.length∧Wv (Zc P e) rows=true∧Zc P e≠0 then Ziq x l h else none)=Ziq x l h:=by
  rintro _ _ rfl rfl
  simp only[Option.bind_some]
  rw[if_pos ⟨h1.1,h1.2,h2,h3⟩]
 unfold Q8
 rw[he,Option.bind_some,hr,Option.bind_some]
 refine key _ _ ?_ ?_
 ·cases lo with
  | none=>simp only at hl;rw[hl];rfl
  | some z=>exact hl
 ·cases hi with
  | none=>simp only at hh;rw[←hh];rfl
  | some z=>exact hh
theorem Zne (hP:FuncsOk P) {f:Operand→V} {s:St} {k:Nat} {d:Option Tmp} {ty t:TypeId} {pos:String} {af:Array Edge} {g:Option (Nat×Bool)} {x:Operand} {lo hi mx:Option Operand}:KP (opK P M f s k ⟨d,.slice t x lo hi mx,ty,pos,af,g⟩) (OpOk P M f s k ⟨d,.slice t x lo hi mx,ty,pos,af,g⟩):=by
 cases mx with
 | some m=>exact Xf hP
 | none=>
  simp only[opK]
  split
  ·rename_i id off len hx
   refine Za Z0 (fun o _=>?_)
   split
   ·rename_i l h n R
    refine Za Yy (fun e he=>Za Xr (fun rows hr=>Za Zf (fun _ hl=>Za Zf (fun _ hh=>Za Zf (fun _ h1=>Za Zf (fun _ h2=>Za Zf (fun _ h4=>Zt (fun h3=>Ze ⟨Zk,Zn hP,?_⟩) (fun _=>Zb))))))))
    simp only[Zg,Zbu he hr hl hh h1 h2 h3]
    rw[hx,h4,Zk4]
    rfl
   ·exact Zb
  ·rename_i rws hx
   refine Za Z0 (fun o _=>?_)
   split
   ·rename_i l h n R
    refine Za Yy (fun e he=>Za Xr (fun rows hr=>Za Zf (fun _ hl=>Za Zf (fun _ hh=>Za Zf (fun _ h1=>Za Zf (fun _ h2=>Za Zf (fun _ h4=>Zt (fun h3=>Ze ⟨Zk,Zn hP,?_⟩) (fun _=>Zb))))))))
    simp only[Zg,Zbu he hr hl hh h1 h2 h3]
    rw[hx] at hr ⊢
    have:rws=rows:=by simpa [St.rowsOf] using hr
    rw[←h4,←this]
    rfl
   ·exact Zb
  ·rename_i rws hx
   refine Za Z0 (fun o _=>?_)
   split
   ·rename_i l h n R
    refine Za Yy (fun e he=>Za Xr (fun rows hr=>Za Zf (fun _ hl=>Za Zf (fun _ hh=>Za Zf (fun _ h1=>Za Zf (fun _ h2=>Za Zf (fun _ h4=>Zt (fun h3=>Ze ⟨Zk,Zn hP,?_⟩) (fun _=>Zb))))))))
    simp only[Zg,Zbu he hr hl hh h1 h2 h3]
    rw[hx] at hr ⊢
    have:rws=rows:=by simpa [St.rowsOf] using hr
    rw[←h4,←this]
    rfl
   ·exact Zb
  ·rename_i b hx
   split
   ·rename_i ht
    refine Za Z0 (fun q _=>?_)
    split
    ·rename_i c
     refine Za Zf (fun _ hc=>Ze ⟨Zk,Zn hP,?_⟩)
     simp only[Zg,hx,Zm7 ht hx hc,Option.map_some]
    ·exact Zb
   ·exact Zb
  ·exact Xf hP
theorem Zmk (hP:FuncsOk P) {f:Operand→V} {s:St} {k:Nat} {d:Option Tmp} {ty t:TypeId} {pos:String} {af:Array Edge} {g:Option (Nat×Bool)} {x ix:Operand}:KP (opK P M f s k ⟨d,.index t x ix,ty,pos,af,g⟩) (OpOk P M f s k ⟨d,.index t x ix,ty,pos,af,g⟩):=by
 simp only[opK]
 split
 ·rename_i b hx
  split
  ·rename_i ht
   refine Za Z0 (fun q _=>?_)
   split
   ·rename_i k' m
    refine Za Zf (fun _ hm=>Ze ⟨Zk,Zn hP,?_⟩)
    simp only[Zg,Zpf ht hx hm,Option.map_some]
   ·exact Zb
  ·exact Zb
 ·exact Xf hP
theorem Zkn (hP:FuncsOk P) {f:Operand→V} {s:St} {k:Nat} {d:Option Tmp} {ty src dst:TypeId} {pos:String} {af:Array Edge} {g:Option (Nat×Bool)} {x:Operand}:KP (opK P M f s k ⟨d,.convert src dst x,ty,pos,af,g⟩) (OpOk P M f s k ⟨d,.convert src dst x,ty,pos,af,g⟩):=by
 simp only[opK]
 split
 all_goals first
  | exact Xf hP
  | (
    rename_i hx
    split
    ·rename_i e h1 h2
     split
     ·rename_i h3
      refine Za Xr (fun rows hr=>Za Z0 (fun q _=>?_))
      split
      ·rename_i c
       refine Za Zf (fun _ hc=>Ze ⟨Zk,Zn hP,?_⟩)
       unfold strV at hc
       obtain⟨bs,hb,hc⟩:=Option.map_eq_some_iff.1 hc
       rw[hx] at hr
       simp only[Zg,hx,h1,h2,h3,hr,hb,Option.bind_some,Option.map_some,hc]
      ·exact Zb
     ·exact Zb
    ·exact Zb)
theorem Zhn (hP:FuncsOk P) {f:Operand→V} {s:St} {k:Nat} {d:Option Tmp} {ty t:TypeId} {pos:String} {af:Array Edge} {g:Option (Nat×Bool)} {l c:Operand}:KP (opK P M f s k ⟨d,.makeSlice t l c,ty,pos,af,g⟩) (OpOk P M f s k ⟨d,.makeSlice t l c,ty,pos,af,g⟩):=by
 simp only[opK]
 refine Za Z0 (fun o _=>?_)
 split
 ·rename_i n R
  refine Za Yy (fun e he=>Za Yy (fun z hz=>Za Zf (fun _ hl=>Za Zf (fun _ hc=>Za Zf (fun _ h1=>Za Zf (fun _ hR=>Zt (fun h2=>Ze ⟨Zk,Zn hP,?_⟩) (fun _=>Zb)))))))
  simp only[Zg,he,hz,Option.bind_some,hl,hc]
  rw[if_pos ⟨by trivial,h1.1,h1.2,h2.1,h2.2⟩,hR,←hR,List.length_replicate]
 ·exact Zb
theorem Zot (hP:FuncsOk P) {f:Operand→V} {s:St} {k:Nat} {d:Option Tmp} {ty:TypeId} {pos:String} {af:Array Edge} {g:Option (Nat×Bool)} {c:Call}:KP (opK P M f s k ⟨d,.call c,ty,pos,af,g⟩) (OpOk P M f s k ⟨d,.call c,ty,pos,af,g⟩):=by
 simp only[opK]
 split
 ·rename_i x hc
  split
  ·rename_i h caps hx
   refine (Zo3 hP).mono fun y ⟨C,h1,h2⟩=>⟨C,h1,?_⟩
   simp only[Zg,hc,hx,h2]
  ·exact Zb
 ·rename_i hc
  split
  ·rename_i b x t t' ha ht
   refine Zt (fun he=>Zqj.kp.mono fun y hy=>⟨Zk,Zn hP,?_⟩) (fun _=>Zb)
   simp only[Zg,hc,ha,ht,he,if_true]
   rw[←he];exact hy
  ·exact Zb
 ·rename_i hc
  split
  ·rename_i x t ha ht
   split
   ·rename_i i off n hx
    refine Za Z0 (fun o _=>?_)
    split
    ·refine Za Zf (fun _ hn=>Zt (fun he=>Ze ⟨Zk,Zn hP,?_⟩) (fun _=>Zb))
     simp only[Zg,hc,ha,ht,hx,he,if_true,hn]
    ·exact Zb
   ·rename_i rows hx
    refine Za Z0 (fun o _=>?_)
    split
    ·refine Za Zf (fun _ hn=>Zt (fun he=>Ze ⟨Zk,Zn hP,?_⟩) (fun _=>Zb))
     simp only[Zg,hc,ha,ht,hx,he,if_true,hn]
    ·exact Zb
   ·rename_i rows hx
    refine Za Z0 (fun o _=>?_)
    split
    ·refine Za Zf (fun _ hn=>Zt (fun he=>Ze ⟨Zk,Zn hP,?_⟩) (fun _=>Zb))
     simp only[Zg,hc,ha,ht,hx,he,if_true,hn]
    ·exact Zb
   ·exact Xf hP
  ·exact Zb
 ·rename_i hc
  split
  ·rename_i x t ha ht
   refine Za Yy (fun e he=>Za Yy (fun z hz=>?_))
   split
   ·rename_i i off n hx
    split
    ·rename_i b hb
     refine Za Z0 (fun o _=>?_)
     split
     ·refine Zt (fun h=>Za Zf (fun _ h1=>Za Zf (fun _ h2=>Ze ⟨Zk,Zn hP,?_⟩))) (fun _=>Zb)
      simp only[Zg,hc,ha,ht,hx,he,hz,hb,Option.bind_some]
      rw[if_pos ⟨h.1,h.2.1,h1,h.2.2.1,h.2.2.2.1,h.2.2.2.2⟩,h2]
     ·exact Zb
    ·exact Zb
   ·exact Zb
  ·exact Zb
 ·exact Xf hP
theorem Zna (hP:FuncsOk P) {f:Operand→V} {s:St} {k:Nat} {o:Oper}:KP (opK P M f s k o) (OpOk P M f s k o):=by
 obtain⟨d,op,ty,pos,af,g⟩:=o
 cases op with
 | binOp op t x y yt=>exact Zmv hP
 | pick c a b=>exact Zou hP
 | buildSlice t n parts=>exact Zgj hP
 | indexAddr t x ix=>exact Zhi hP
 | load t a=>exact Zn2 hP
 | store t a x=>exact Zmx hP
 | slice t x lo hi mx=>exact Zne hP
 | makeSlice t l c=>exact Zhn hP
 | index t x ix=>exact Zmk hP
 | convert src dst x=>exact Zkn hP
 | call c=>exact Zot hP
 | _=>simp only[opK];exact Xf hP
def Zfh (s:St) (ops:Array Oper) (o:Oper):KM (Bool×St):=
 match o.guard with
 | none=>ret (true,s)
 | some (j,b)=>match (ops[j]?).bind (·.dst) with
  | some d=>match s.env d with
   | .lit (.bool c)=>bnd hear fun o=>match o with
    | .t e=>bnd (obl (c=e)) fun _=>ret (e == b,⟨upd s.env d (.lit (.bool e)),s.heap,s.ep⟩)
    | .k=>ret (c == b,s)
    | _=>fail
   | .tup []=>ret (false,s)
   | _=>fail
  | none=>fail
theorem Zgq {s:St} {ops:Array Oper} {o:Oper}:KP (Zfh s ops o) (fun y=>wanted s ops o=some y.1∧y.2=s):=by
 unfold Zfh wanted
 cases o.guard with
 | none=>exact Ze ⟨rfl,rfl⟩
 | some p=>
  obtain⟨j,b⟩:=p
  simp only
  cases hd:(ops[j]?).bind (·.dst) with
  | none=>exact Zb
  | some d=>
   simp only[Option.map_some]
   cases he:s.env d with
   | lit v=>cases v with
    | bool c=>
     refine Za Z0 (fun q _=>?_)
     cases q with
     | t e=>
      refine Za Zf (fun _ hc=>Ze ⟨by subst hc;rfl,?_⟩)
      have:upd s.env d (.lit (.bool e))=s.env:=by
       funext t
       unfold upd
       split
       ·rename_i h;rw[h,he,hc]
       ·rfl
      rw[this]
     | k=>exact Ze ⟨rfl,rfl⟩
     | _=>exact Zb
    | _=>exact Zb
   | tup l=>cases l with
    | nil=>exact Ze ⟨rfl,rfl⟩
    | cons x l=>exact Zb
   | _=>exact Zb
def opsK (P:Program) (M:Hints) (ops:Array Oper):(k:Nat)→List Oper→(s:St)→KM St
 | _,[],s=>ret s
 | k,o::rest,s=>bnd (Zfh s ops o) fun g=>if g.1 then bnd (opK P M g.2.opV g.2 k o) fun y=>opsK P M ops (k+1) rest (y.2.put o.dst y.1) else opsK P M ops (k+1) rest (g.2.put o.dst (.tup []))
theorem Zjj {C C':Nat→Zx} {ops:Array Oper}:∀(l:List Oper) {k:Nat} {s:St},(∀j,k≤j→C j=C' j)→Xu P M C ops s k l=Xu P M C' ops s k l:=by
 intro l
 induction l with
 | nil=>intros;rfl
 | cons o l ih=>
  intro k s h
  simp only[Xu,h k (Nat.le_refl _)]
  simp only[fun s=>ih (k:=k+1) (s:=s) (fun j hj=>h j (by omega))]
theorem Zh4 {C C':Nat→Zx} {ops:Array Oper}:∀(l:List Oper) {k:Nat} {s:St} {recs:List Rec},(∀j,k≤j→C j=C' j)→Y0 P M C ops s recs k l=Y0 P M C' ops s recs k l:=by
 intro l
 induction l with
 | nil=>intros;rfl
 | cons o l ih=>
  intro k s recs h
  simp only[Y0,h k (Nat.le_refl _)]
  simp only[fun s recs=>ih (k:=k+1) (s:=s) (recs:=recs) (fun j hj=>h j (by omega))]
def setC (C:Nat→Zx) (k:Nat) (D:Zx):Nat→Zx:=fun j=>if j=k then D else C j
theorem Zqg (hP:FuncsOk P) {ops:Array Oper}:∀(l:List Oper) {k:Nat} {s:St},KP (opsK P M ops k l s) (fun s'=>∃C:Nat→Zx,(∀j,Xh P M (C j))∧Xu P M C ops s k l=some s'):=by
 intro l
 induction l with
 | nil=>intro k s;exact Ze ⟨fun _=>Zk,fun _=>Zn hP,rfl⟩
 | cons o l ih=>
  intro k s
  simp only[opsK,Xu]
  refine Za Zgq (fun g hg=>?_)
  obtain⟨g,s0⟩:=g
  obtain⟨hg,hs0⟩:=hg
  simp only at hg hs0
  subst hs0
  cases g with
  | true=>
   simp only[if_true]
   refine Za (Zna hP) (fun y hy=>ih.mono fun s' ⟨C,h1,h2⟩=>?_)
   obtain⟨D,d1,d2⟩:=hy
   refine⟨setC C k D,fun j=>?_,?_⟩
   ·unfold setC;split
    ·exact d1
    ·exact h1 j
   ·rw[hg]
    simp only[Option.bind_some,if_true,setC]
    unfold evOp
    rw[d2,Option.bind_some,←h2]
    exact Zjj l (fun j hj=>by simp only[setC];rw[if_neg (by omega)])
  | false=>
   simp only[Bool.false_eq_true,if_false]
   refine ih.mono fun s' ⟨C,h1,h2⟩=>⟨C,h1,?_⟩
   rw[hg]
   exact h2
def Zfw (P:Program) (M:Hints) (ops:Array Oper):(recs:List Rec)→(k:Nat)→List Oper→(s:St)→KM St
 | _,_,[],s=>ret s
 | recs,k,o::rest,s=>bnd (Zfh s ops o) fun g=>if g.1 then (if Qj ops g.2.ep recs (K8 recs o) k o (touch g.2 o) (W2 M g.2.opV o)=true then
   bnd (opK P M g.2.opV (g.2.only (touch g.2 o)) k o) fun y=>Zfw P M ops (recs++[⟨K8 recs o,touch g.2 o,W2 M g.2.opV o⟩]) (k+1) rest ((g.2.merge k (touch g.2 o) (W2 M g.2.opV o) y.2).put o.dst y.1) else fail)
  else if Qj ops g.2.ep recs (K8 recs o) k o [] false=true then Zfw P M ops (recs++[⟨K8 recs o,[],false⟩]) (k+1) rest (g.2.put o.dst (.tup [])) else fail
theorem Zoq (hP:FuncsOk P) {ops:Array Oper}:∀(l:List Oper) {k:Nat} {s:St} {recs:List Rec},KP (Zfw P M ops recs k l s) (fun s'=>∃C:Nat→Zx,(∀j,Xh P M (C j))∧Y0 P M C ops s recs k l=some s'):=by
 intro l
 induction l with
 | nil=>intro k s recs;exact Ze ⟨fun _=>Zk,fun _=>Zn hP,rfl⟩
 | cons o l ih=>
  intro k s recs
  simp only[Zfw,Y0]
  refine Za Zgq (fun g hg=>?_)
  obtain⟨g,s0⟩:=g
  obtain⟨hg,hs0⟩:=hg
  simp only at hg hs0
  subst hs0
  cases g with
  | true=>
   simp only[if_true]
   refine Zt (fun ha=>Za (Zna hP) (fun y hy=>ih.mono fun s' ⟨C,h1,h2⟩=>?_)) (fun _=>Zb)
   obtain⟨D,d1,d2⟩:=hy
   refine⟨setC C k D,fun j=>?_,?_⟩
   ·unfold setC;split
    ·exact d1
    ·exact h1 j
   ·rw[hg]
    simp only[Option.bind_some,if_true,setC,ha]
    rw[d2,Option.bind_some,←h2]
    exact Zh4 l (fun j hj=>by simp only[setC];rw[if_neg (by omega)])
  | false=>
   simp only[Bool.false_eq_true,if_false]
   refine Zt (fun ha=>ih.mono fun s' ⟨C,h1,h2⟩=>⟨C,h1,?_⟩) (fun _=>Zb)
   rw[hg]
   simp only[Option.bind_some,Bool.false_eq_true,if_false,ha,if_true]
   exact h2
end
inductive It where
 | c (x:Code)
 | blk (i:Nat)
def SX (P:Program) (R:Ex→St→Prop):List It→Ex→St→Prop
 | [],e,s=>R e s
 | .c x::k,.normal,s=>Cx P x s (fun e s=>SX P R k e s)
 | .c x::k,.ret,s=>SX P R k .ret s
 | .c x::k,.exit j,s=>SX P R k (.exit j) s
 | .blk i::k,.exit j,s=>if j=i then SX P R k .normal s else SX P R k (.exit j) s
 | .blk i::k,.normal,s=>SX P R k .normal s
 | .blk i::k,.ret,s=>SX P R k .ret s
structure Res where
 stk:List It
 ex:Ex
 st:St
def mach (P:Program) (M:Hints):(n:Nat)→List It→Ex→(s:St)→KM Res
 | 0,stk,ex,s=>ret ⟨stk,ex,s⟩
 | n+1,stk,ex,s=>match stk with
  | []=>ret ⟨[],ex,s⟩
  | .blk i::k=>match ex with
   | .exit j=>if j=i then mach P M n k .normal s else mach P M n k (.exit j) s
   | .normal=>mach P M n k .normal s
   | .ret=>mach P M n k .ret s
  | .c x::k=>match ex with
   | .ret=>mach P M n k .ret s
   | .exit j=>mach P M n k (.exit j) s
   | .normal=>match x with
    | .skip=>mach P M n k .normal s
    | .ret=>mach P M n k .ret s
    | .exit i=>mach P M n k (.exit i) s
    | .seq a b=>mach P M n (.c a::.c b::k) .normal s
    | .cond c a b=>match s.opV c with
     | .lit (.bool t)=>bnd (Zhq t) fun e=>if e then mach P M n (.c a::k) .normal s else mach P M n (.c b::k) .normal s
     | _=>fail
    | .block i c=>mach P M n (.c c::.blk i::k) .normal s
    | .loop c=>mach P M n (.c c::.c (.loop c)::k) .normal s
    | .region _ ops d=>match d with
     | false=>bnd (opsK P M ops 0 ops.toList ⟨s.env,s.heap,s.ep+1⟩) fun s'=>mach P M n k .normal s'
     | true=>if Region.noSelect ops=true then bnd (Zfw P M ops [] 0 ops.toList ⟨s.env,s.heap,s.ep+1⟩) fun s'=>mach P M n k .normal s' else fail
    | _=>fail
section
variable {P:Program} {M:Hints} {R:Ex→St→Prop}
def partOf:List It→Option (Operand×Tmp×Tmp×TypeId×Operand×List It)
 | .c (.region _ ops false)::k=>match ops.toList with
  | [⟨some d0,.move x0,_,_,_,none⟩,⟨some d1,.binOp .eql t (.tmp d) y _,_,_,_,none⟩]=>if d=d0 then some (x0,d0,d1,t,y,k) else none
  | _=>none
 | _=>none
theorem Zps (hP:FuncsOk P):∀(n:Nat) {stk:List It} {ex:Ex} {s:St},KP (mach P M n stk ex s) (fun r=>SX P R r.stk r.ex r.st→SX P R stk ex s):=by
 intro n
 induction n with
 | zero=>intro stk ex s;exact Ze id
 | succ n ih=>
  intro stk ex s
  simp only[mach]
  split
  ·exact Ze id
  ·rename_i i k
   split
   ·rename_i j
    refine Zt (fun hj=>ih.mono fun r hr h=>?_) (fun hj=>ih.mono fun r hr h=>?_)
    ·simp only[SX];rw[if_pos hj];exact hr h
    ·simp only[SX];rw[if_neg hj];exact hr h
   ·exact ih.mono fun r hr h=>hr h
   ·exact ih.mono fun r hr h=>hr h
  ·rename_i x k
   split
   ·exact ih.mono fun r hr h=>hr h
   ·exact ih.mono fun r hr h=>hr h
   ·split
    ·exact ih.mono fun r hr h=>Zpx (hr h)
    ·exact ih.mono fun r hr h=>Cx_ret (hr h)
    ·exact ih.mono fun r hr h=>Zpo (hr h)
    ·refine ih.mono fun r hr h=>Cx_seq (Zgf (hr h) fun e s h=>?_)
     cases e<;>exact h
    ·rename_i c a b
     split
     ·rename_i t hc
      refine Za Zjc (fun e he=>?_)
      subst he
      cases t with
      | true=>exact ih.mono fun r hr h=>Zkv hc (hr h)
      | false=>exact ih.mono fun r hr h=>Zkv hc (hr h)
     ·exact Zb
    ·rename_i i c
     refine ih.mono fun r hr h=>Zoz (Zgf (hr h) fun e s h=>?_)
     cases e<;>exact h
    ·rename_i c
     refine ih.mono fun r hr h=>Zpy (Zgf (hr h) fun e s h=>?_)
     cases e<;>exact h
    ·rename_i i ops d
     split
     ·refine Za (Zqg hP _) (fun s' hs=>ih.mono fun r hr h=>?_)
      obtain⟨C,h1,h2⟩:=hs
      exact Cx_ops hP C h1 h2 (hr h)
     ·refine Zt (fun hn=>Za (Zoq hP _) (fun s' hs=>ih.mono fun r hr h=>?_)) (fun _=>Zb)
      obtain⟨C,h1,h2⟩:=hs
      exact Zpu hP C h1 hn h2 (hr h)
    ·exact Zb
theorem Zig (hP:FuncsOk P) (n:Nat) {stk:List It} {ex:Ex} {s:St}:KP (mach P M n stk ex s) (fun r=>∀R,SX P R r.stk r.ex r.st→SX P R stk ex s):=fun q a obs q' e ho R=>Zps hP n q a obs q' e ho
def endK (P:Program) (M:Hints) (f:FuncId) (fn:Func) (xs:List V) (r:Res):KM (V×List V):=match r.stk with
 | []=>match r.ex with
  | .exit _=>fail
  | .normal=>retK P M f fn xs r.st
  | .ret=>retK P M f fn xs r.st
 | _=>fail
def runK (P:Program) (M:Hints) (f:FuncId) (fn:Func) (xs:List V) (n:Nat) (stk:List It) (s:St):KM (V×List V):=
 bnd (mach P M n stk .normal s) (endK P M f fn xs)
theorem Zp7 (hP:FuncsOk P) {f:FuncId} {fn:Func} {xs:List V} {n:Nat} {stk:List It} {s:St}:KP (runK P M f fn xs n stk s) (fun y=>SX P (RetC P M f fn xs y) stk .normal s):=by
 refine Za (Zig hP n) (fun r hr=>?_)
 obtain⟨st,ex,s1⟩:=r
 unfold endK
 cases st with
 | cons x l=>exact Zb
 | nil=>cases ex with
  | exit i=>exact Zb
  | normal=>exact Zk8.kp.mono fun y hy=>hr _ ⟨trivial,hy⟩
  | ret=>exact Zk8.kp.mono fun y hy=>hr _ ⟨trivial,hy⟩
def told {α:Type} (x:Option (α×List Prop×List O)):Option (Prop×α):=match x with|some (a,obs,[])=>some (All obs,a)|_=>none
theorem Zk5 {α:Type} {x:KM α} {q:List O} {Q:α→Prop} {p:Prop} {a:α} (h:KP x Q) (e:told (x q)=some (p,a)) (hp:p):Q a:=by
 unfold told at e
 split at e
 ·rename_i b obs hx
  injection e with e
  injection e with e1 e2
  subst e2
  exact h q _ _ _ hx (by rw[e1];exact hp)
 ·cases e
theorem Zpp (hP:FuncsOk P) {f:FuncId} {fn:Func} {xs:List V} {y:V×List V} {stk:List It} {s:St} {p:Prop} (n:Nat) (q:List O) (hp:p) (e:told (runK P M f fn xs n stk s q)=some (p,y)):SX P (RetC P M f fn xs y) stk .normal s:=
 Zk5 (x:=runK P M f fn xs n stk s) (Q:=fun y=>SX P (RetC P M f fn xs y) stk .normal s) (Zp7 hP) e hp
def ren1 (f:List (Id×Id)):V→V
 | .ptr id i off=>match renI f id with|some id'=>.ptr id' i off|none=>.undef
 | .sl id off len=>match renI f id with|some id'=>.sl id' off len|none=>(match off,len with|0,0=>.lit (.slice none 0 0)|_,_=>.undef)
 | .lit v=>.lit v
 | .tr rows=>.tr rows
 | .vw rows=>.vw rows
 | .rp sh row off=>.rp sh row off
 | _=>.undef
def renV (f:List (Id×Id)):V→V
 | .agg xs=>.agg (xs.map (ren1 f))
 | .tup xs=>.tup (xs.map (ren1 f))
 | .fn g xs=>.fn g (xs.map (ren1 f))
 | x=>ren1 f x
theorem Zf2 {f:List (Id×Id)} {x:V} (h:ren1 f x≠.undef∨x=.undef):VR1 f x (ren1 f x):=by
 cases x with
 | undef=>trivial
 | ptr id i off=>
  simp only[ren1] at h ⊢
  split
  ·rename_i id' hr;exact⟨hr,rfl,rfl⟩
  ·rename_i hr;rw[hr] at h;simp at h
 | sl id off len=>
  simp only[ren1] at h ⊢
  split
  ·rename_i id' hr;exact⟨hr,rfl,rfl⟩
  ·rename_i hr
   rw[hr] at h
   simp only at h
   split
   ·exact⟨hr,rfl,rfl⟩
   ·rename_i hne
    exfalso
    split at h
    ·rename_i h1 h2;exact hne rfl rfl
    ·simp at h
 | lit v=>rfl
 | tr rows=>rfl
 | vw rows=>rfl
 | rp sh row off=>rfl
 | agg _=>simp[ren1] at h
 | tup _=>simp[ren1] at h
 | fn _ _=>simp[ren1] at h
 | own _ _=>simp[ren1] at h
 | obx _=>simp[ren1] at h
def okV:V→Bool|.undef=>false|_=>true
theorem okV_ne {x:V} (h:okV x=true):x≠.undef:=by rintro rfl;cases h
theorem Zdk {f:List (Id×Id)}:∀{xs:List V},(xs.map (ren1 f)).all okV=true→VRs f xs (xs.map (ren1 f)):=by
 intro xs
 induction xs with
 | nil=>intro _;trivial
 | cons x xs ih=>
  intro h
  simp only[List.map_cons,List.all_cons,Bool.and_eq_true] at h
  exact⟨Zf2 (.inl (okV_ne h.1)),ih h.2⟩
def okVs:V→Bool
 | .agg xs|.tup xs|.fn _ xs=>xs.all okV
 | x=>okV x
theorem Zqe {f:List (Id×Id)} {x:V} (h:okVs (renV f x)=true):VR f x (renV f x):=by
 cases x with
 | agg xs=>exact Zdk h
 | tup xs=>exact Zdk h
 | fn g xs=>exact⟨rfl,Zdk h⟩
 | undef=>trivial
 | lit v=>rfl
 | tr rows=>rfl
 | vw rows=>rfl
 | rp sh row off=>rfl
 | own e rows=>cases h
 | obx cs=>cases h
 | ptr id i off=>exact Zf2 (x:=.ptr id i off) (.inl fun e=>by have h2:okVs (ren1 f (.ptr id i off))=true:=h;rw[e] at h2;cases h2)
 | sl id off len=>exact Zf2 (x:=.sl id off len) (.inl fun e=>by have h2:okVs (ren1 f (.sl id off len))=true:=h;rw[e] at h2;cases h2)
def renB (f:List (Id×Id)) (p:Id×Blk):Option Blk:=match renI f p.1 with
 | none=>none
 | some _=>some ⟨p.2.box,p.2.own,p.2.cl,(if p.2.box then 0 else p.2.el),if p.2.box then p.2.rows.map (fun r=>r.map (ren1 f)) else p.2.rows⟩
def wasB (f:List (Id×Id)) (S:St) (p:Id×Blk):Option Blk:=match renI f p.1 with
 | none=>none
 | some id'=>(S.heap id').map fun c=>⟨c.box,c.own,c.cl,(if c.box then 0 else c.el),c.rows⟩
def newB (f:List (Id×Id)) (p:Id×Blk):Bool:=match renI f p.1 with
 | none=>!p.2.box&&p.2.own&&(match p.2.rows with|[]=>true|_=>false)
 | some _=>if p.2.box then (match p.2.rows with|[r]=>(r.map (ren1 f)).all okV|_=>false) else true
theorem Zp0 {f:List (Id×Id)} {S:St} {p:Id×Blk} (h:wasB f S p=renB f p) (hn:newB f p=true):BR f S p.1 p.2:=by
 obtain⟨id,b⟩:=p
 unfold BR
 unfold wasB renB at h
 unfold newB at hn
 simp only at h hn ⊢
 split
 ·rename_i hr
  rw[hr] at hn
  simp only[Bool.and_eq_true,Bool.not_eq_true'] at hn
  refine⟨hn.1.1,hn.1.2,?_⟩
  cases hb:b.rows with
  | nil=>rfl
  | cons x l=>rw[hb] at hn;simp at hn
 ·rename_i id' hr
  rw[hr] at h hn
  simp only at h hn
  obtain⟨c,h1,h2⟩:=Option.map_eq_some_iff.1 h
  injection h2 with e1 e2 e3 e4 e5
  refine⟨c,h1,e1,e2,e3,?_⟩
  cases hbx:b.box with
  | true=>
   rw[hbx] at hn e1 e5
   simp only[if_true] at hn e5 ⊢
   cases hb:b.rows with
   | nil=>rw[hb] at hn;cases hn
   | cons r l=>cases l with
    | cons r2 l=>rw[hb] at hn;cases hn
    | nil=>
     rw[hb] at hn e5
     exact⟨r,_,rfl,e5,Zdk hn⟩
  | false=>
   rw[hbx] at e1 e4 e5
   rw[e1] at e4
   simp only[Bool.false_eq_true,if_false] at e4 e5 ⊢
   exact⟨e4,e5⟩
def wasL (f:List (Id×Id)) (l:List (Nat×V)) (h:List (Id×Blk)) (S:St):List V×List (Option Blk):=(l.map fun p=>S.env p.1,h.map fun p=>wasB f S p)
def renL (f:List (Id×Id)) (l:List (Nat×V)) (h:List (Id×Blk)):List V×List (Option Blk):=(l.map fun p=>renV f p.2,h.map fun p=>renB f p)
def cutB (f:List (Id×Id)) (l:List (Nat×V)) (h:List (Id×Blk)) (ep:Nat):Bool:=wkB f l h ep&&(l.all fun p=>okVs (renV f p.2))&&h.all fun p=>newB f p
theorem Ze5 {α β:Type} {g1 g2:α→β} {l:List α} (h:l.map g1=l.map g2):∀x∈l,g1 x=g2 x:=by
 induction l with
 | nil=>intro x hx;simp at hx
 | cons y l ih=>
  simp only[List.map_cons,List.cons.injEq] at h
  intro x hx
  rcases List.mem_cons.1 hx with rfl|hx
  ·exact h.1
  ·exact ih h.2 x hx
theorem Zpr {f:List (Id×Id)} {l:List (Nat×V)} {h:List (Id×Blk)} {ep:Nat} {S:St} (e:wasL f l h S=renL f l h) (hb:cutB f l h ep=true):Weak f S l h ep:=by
 simp only[wasL,renL,Prod.mk.injEq] at e
 simp only[cutB,Bool.and_eq_true,List.all_eq_true] at hb
 refine⟨fun p hp=>?_,fun p hp=>Zp0 (Ze5 e.2 p hp) (hb.2 p hp),hb.1.1⟩
 rw[Ze5 e.1 p hp]
 exact Zqe (hb.1.2 p hp)
def len1:V→KM V
 | .sl id off len=>bnd hear fun o=>match o with
  | .num n _ _ _=>bnd (obl (len=n)) fun _=>ret (.sl id off n)
  | _=>fail
 | x=>ret x
theorem Zlc {x:V}:KP (len1 x) (fun y=>y=x):=by
 unfold len1
 split
 ·refine Za Z0 (fun o _=>?_)
  split
  ·exact Za Zf (fun _ h=>Ze (by rw[h]))
  ·exact Zb
 ·exact Ze rfl
def lens:List V→KM (List V)
 | []=>ret []
 | x::xs=>bnd (len1 x) fun y=>bnd (lens xs) fun ys=>ret (y::ys)
theorem Zgb:∀{xs:List V},KP (lens xs) (fun ys=>ys=xs):=by
 intro xs
 induction xs with
 | nil=>exact Ze rfl
 | cons x xs ih=>exact Za Zlc (fun y hy=>Za ih (fun ys hys=>Ze (by rw[hy,hys])))
def lenV:V→KM V
 | .agg xs=>bnd (lens xs) fun ys=>ret (.agg ys)
 | .fn g xs=>bnd (lens xs) fun ys=>ret (.fn g ys)
 | x=>len1 x
theorem Zqc {x:V}:KP (lenV x) (fun y=>y=x):=by
 unfold lenV
 split
 ·exact Za Zgb (fun y hy=>Ze (by rw[hy]))
 ·exact Za Zgb (fun y hy=>Ze (by rw[hy]))
 ·exact Zlc
def Zlq (S:St):List (Nat×V)→KM (List V)
 | []=>ret []
 | p::l=>bnd (lenV (S.env p.1)) fun y=>bnd (Zlq S l) fun ys=>ret (y::ys)
theorem Zqk {S:St}:∀{l:List (Nat×V)},KP (Zlq S l) (fun ys=>ys=l.map fun p=>S.env p.1):=by
 intro l
 induction l with
 | nil=>exact Ze rfl
 | cons p l ih=>exact Za Zqc (fun y hy=>Za ih (fun ys hys=>Ze (by rw[hy,hys];rfl)))
def lenB:Option Blk→KM (Option Blk)
 | some ⟨true,own,cl,el,[row]⟩=>bnd (lens row) fun r=>ret (some ⟨true,own,cl,el,[r]⟩)
 | x=>ret x
theorem Zp9 {x:Option Blk}:KP (lenB x) (fun y=>y=x):=by
 unfold lenB
 split
 ·exact Za Zgb (fun r hr=>Ze (by rw[hr]))
 ·exact Ze rfl
def lenH (f:List (Id×Id)) (S:St):List (Id×Blk)→KM (List (Option Blk))
 | []=>ret []
 | p::l=>bnd (lenB (wasB f S p)) fun y=>bnd (lenH f S l) fun ys=>ret (y::ys)
theorem Zqa {f:List (Id×Id)} {S:St}:∀{l:List (Id×Blk)},KP (lenH f S l) (fun ys=>ys=l.map fun p=>wasB f S p):=by
 intro l
 induction l with
 | nil=>exact Ze rfl
 | cons p l ih=>exact Za Zp9 (fun y hy=>Za ih (fun ys hys=>Ze (by rw[hy,hys];rfl)))
def Znh (f:List (Id×Id)) (l:List (Nat×V)) (h:List (Id×Blk)) (r:Res):KM (List It×List V×List (Option Blk)):=match r.ex with
 | .normal=>bnd (Zlq r.st l) fun vs=>bnd (lenH f r.st h) fun bs=>ret (r.stk,vs,bs)
 | _=>fail
def cutK (P:Program) (M:Hints) (f:List (Id×Id)) (l:List (Nat×V)) (h:List (Id×Blk)) (n:Nat) (stk:List It) (s:St):KM (List It×List V×List (Option Blk)):=
 bnd (mach P M n stk .normal s) (Znh f l h)
def isC:List It→Bool
 | .c _::_=>true
 | _=>false
theorem Zpq (hP:FuncsOk P) {stk k2:List It} {s:St} {p:Prop} {l:List (Nat×V)} {h:List (Id×Blk)} {ep:Nat} (f:List (Id×Id)) (n:Nat) (q:List O) (hp:p) (hn:SX P R k2 .normal (mkS l h ep))
  (e:told (cutK P M f l h n stk s q)=some (p,(k2,renL f l h))) (hb:(isC k2&&cutB f l h ep)=true):SX P R stk .normal s:=by
 simp only[Bool.and_eq_true] at hb
 refine Zk5 (x:=cutK P M f l h n stk s) (Q:=fun y=>y=(k2,renL f l h)→SX P R stk .normal s) ?_ e hp rfl
 refine Za (Zig hP n) (fun r hr=>?_)
 obtain⟨st,ex,s1⟩:=r
 unfold Znh
 cases ex with
 | normal=>
  refine Za Zqk (fun vs hvs=>Za Zqa (fun bs hbs=>Ze fun hy=>hr _ ?_))
  simp only[Prod.mk.injEq] at hy
  simp only
  rw[hy.1]
  have hy2:wasL f l h s1=renL f l h:=by
   rw[←hy.2,hvs,hbs];rfl
  cases k2 with
  | nil=>cases hb.1
  | cons x k=>cases x with
   | blk i=>cases hb.1
   | c x=>exact Zqi f (Zpr hy2 hb.2) hn
 | ret=>exact Zb
 | exit i=>exact Zb
end
end Go.Proofs.YtgmmcfpabnoekaaDoor.Ev
namespace Go.Proofs.YtgmmcfpabnoekaaDoor.Ev
open Go
set_option linter.unusedVariables false
section
variable {α:Type}
def idx (xs:List α) (i:Int):Option α:=if 0≤i then xs[i.toNat]? else none
def appI (sz:Nat) (xs ys:List α):Option (List α):=if (xs.length+ys.length)*sz≤140737488355328∧xs.length+ys.length≤9223372036854775807 then some (xs++ys) else none
def mkI (sz:Nat) (n:Int) (z:α):Option (List α):=if 0≤n∧n.toNat*sz≤70368744177664∧n.toNat≤9223372036854775807 then some (List.replicate n.toNat z) else none
def setO (xs:List α) (i:Int) (a:α):Option (List α):=some (xs.set i.toNat a)
end
def strL (l:List UInt8):ByteArray:=⟨l.toArray⟩
def FU:Nat:=18446744073709551616
def w64 (n:Int):Int:=IntKind.i64.wrap n
def w8 (n:Int):Int:=IntKind.u8.wrap n
def addW (a b:Int):Int:=IntKind.i64.wrap (a+b)
def subW (a b:Int):Int:=IntKind.i64.wrap (a - b)
def mulW (a b:Int):Int:=IntKind.i64.wrap (a*b)
def quoW (a b:Int):Int:=IntKind.i64.wrap (a.tdiv b)
def remW (a b:Int):Int:=a.tmod b
def shlW (a b:Int):Int:=IntKind.i64.wrap (a*2^min b.toNat IntKind.i64.bits)
def negW (a:Int):Int:=IntKind.i64.wrap (0 - a)
def nzI (b:Int):Option Unit:=if b=0 then none else some ()
def nnI (b:Int):Option Unit:=if 0≤b then some () else none
def strB (xs:List Int):ByteArray:=⟨(xs.map fun n=>UInt8.ofNat n.toNat).toArray⟩
def catI (a b:ByteArray):Option Unit:=if ((a.size+b.size:Nat):Int) > IntKind.i64.max then none else some ()
theorem w64_of {n:Int} (h1:-9223372036854775808≤n) (h2:n < 9223372036854775808):w64 n=n:=by
 simp[w64,IntKind.wrap,IntKind.bits,IntKind.signed];omega
end Go.Proofs.YtgmmcfpabnoekaaDoor.Ev
namespace Go.Proofs.YtgmmcfpabnoekaaDoor.Ev
open Go Go.RowKit KM
set_option linter.unusedVariables false
set_option linter.unusedSimpArgs false
set_option linter.unusedSectionVars false
variable [Anchor]
abbrev il (n:Int):V:=.lit (.int .i64 n)
abbrev bl (b:Bool):V:=.lit (.bool b)
section
variable {P:Program} {M:Hints}
def entS (M:Hints) (f:FuncId) (xs:List V):St:=(St.enters ⟨fun _=>.undef,fun _=>none,0⟩ 0 (M.modes f) xs).getD ⟨fun _=>.undef,fun _=>none,0⟩
theorem Zo0 (hP:FuncsOk P) {f:FuncId} {fn:Func} {c:Code} {xs:List V} {r:V} {os:List V} (hfn:P.funcs[f]?=some fn) (hc:fn.body=some c) (hs:(St.enters ⟨fun _=>.undef,fun _=>none,0⟩ 0 (M.modes f) xs).isSome=true)
  (h:SX P (RetC P M f fn xs (r,os)) [.c c] .normal (entS M f xs)):Fine P M (f,xs,r,os):=by
 obtain⟨s1,h1⟩:=Option.isSome_iff_exists.1 hs
 refine Zpw hP hfn hc h1 ?_
 have:entS M f xs=s1:=by unfold entS;rw[h1];rfl
 rw[←this]
 exact h
end
theorem Zo1 {α β:Type} {x:Option α} {f:α→Option β} {b:β} (h:x.bind f=some b):∃a,x=some a∧f a=some b:=Option.bind_eq_some_iff.1 h
theorem Zop {β:Type} {t:Bool} {x y:Option β} {b:β} (h:(if t=true then x else y)=some b):(t=true∧x=some b)∨(t=false∧y=some b):=by
 cases t with
 | true=>exact .inl ⟨rfl,h⟩
 | false=>exact .inr ⟨rfl,h⟩
section
variable {α:Type}
theorem ixn {xs:List α} {i:Int} {a:α} (h:idx xs i=some a):Zw (il i)=some i.toNat:=by
 unfold idx at h
 split at h
 ·rename_i h0;simp[Zw,h0]
 ·cases h
theorem ixr (e:α→List V) {xs:List α} {i:Int} {a:α} (h:idx xs i=some a):(xs.map e)[i.toNat]?=some (e a):=by
 unfold idx at h
 split at h
 ·rw[List.getElem?_map,h];rfl
 ·cases h
theorem ixl (e:α→List V) {xs:List α} {i:Int} {a:α} (h:idx xs i=some a):i.toNat < (xs.map e).length:=(List.getElem?_eq_some_iff.1 (ixr e h)).1
theorem lenr (e:α→List V) (xs:List α):(xs.map e).length=xs.length:=List.length_map ..
theorem alr (n:Nat) {e:α→List V} (he:∀a,(e a).length=n) (xs:List α):Wv n (xs.map e)=true:=by
 unfold Wv
 rw[List.all_eq_true]
 intro r hr
 obtain⟨a,_,rfl⟩:=List.mem_map.1 hr
 simp[he]
theorem apm (e:α→List V) {sz:Nat} {xs ys zs:List α} (h:appI sz xs ys=some zs):xs.map e++ys.map e=zs.map e:=by
 unfold appI at h
 split at h
 ·injection h with h;rw[←h,List.map_append]
 ·cases h
theorem apl (e:α→List V) {sz:Nat} {xs ys zs:List α} (h:appI sz xs ys=some zs):((xs.map e).length+(ys.map e).length)*sz≤140737488355328∧(xs.map e).length+(ys.map e).length≤9223372036854775807:=by
 unfold appI at h
 split at h
 ·rename_i hh;simpa using hh
 ·cases h
theorem mkn {sz:Nat} {n:Int} {z:α} {xs:List α} (h:mkI sz n z=some xs):Zw (il n)=some n.toNat:=by
 unfold mkI at h
 split at h
 ·rename_i h0;simp[Zw,h0.1]
 ·cases h
theorem mkl {sz:Nat} {n:Int} {z:α} {xs:List α} (h:mkI sz n z=some xs):n.toNat*sz≤70368744177664∧n.toNat≤9223372036854775807:=by
 unfold mkI at h
 split at h
 ·rename_i h0;exact h0.2
 ·cases h
theorem mkr (e:α→List V) {sz:Nat} {n:Int} {z:α} {xs:List α} (h:mkI sz n z=some xs):List.replicate n.toNat (e z)=xs.map e:=by
 unfold mkI at h
 split at h
 ·injection h with h;rw[←h,List.map_replicate]
 ·cases h
end
def encI (n:Int):List V:=[.lit (.int .i64 n)]
def encU (n:Int):List V:=[.lit (.int .u8 n)]
def encS (b:ByteArray):List V:=[.lit (.string b)]
theorem Zhw (n:Int):(encI n).length=1:=rfl
theorem Zca (n:ByteArray):(encS n).length=1:=rfl
abbrev ss (b:ByteArray):V:=.lit (.string b)
theorem stx (xs:List Int):strV (xs.map fun n=>[V.lit (.int .u8 n)])=some (strB xs):=by
 have:Jm (xs.map fun n=>[V.lit (.int .u8 n)])=some (xs.map fun n=>UInt8.ofNat n.toNat):=by
  induction xs with
  | nil=>rfl
  | cons x xs ih=>
   unfold Jm at ih ⊢
   simp only[List.map_cons,Jw]
   rw[ih]
   rfl
 unfold strV
 rw[this]
 rfl
section
variable {α:Type}
theorem seto (e:α→List V) {xs ys:List α} {i:Int} {a:α} (h:setO xs i a=some ys):(xs.map e).set i.toNat (e a)=ys.map e:=by
 unfold setO at h
 injection h with h
 rw[←h,List.map_set]
theorem setl (e:α→List V) {xs ys:List α} {i:Int} {a:α} (h:setO xs i a=some ys):(xs.map e).length=(ys.map e).length:=by
 rw[←seto e h,List.length_set]
end
section
variable {α:Type}
end
def ks:Nat→List O→List O
 | 0,l=>l
 | n+1,l=>.k::ks n l
def Scr (q:List O) (p:Prop):Prop:=p
theorem ee:Scr [] True:=trivial
section
variable {q:List O} {p:Prop} {α:Type}
theorem kk (n:Nat) (k:Scr q p):Scr (ks n q) p:=k
theorem gg {c b:Bool} (h:c=b) (k:Scr q p):Scr (.t b::q) (c=b∧p):=⟨h,k⟩
theorem rr {P:Program} {M:Hints} {y:FuncId×List V×V×List V} (h:Fine P M y) (k:Scr q p):Scr (.res y.2.2.1 y.2.2.2::q) (Fine P M y∧p):=⟨h,k⟩
theorem xb (e:α→List V) {xs:List α} {i:Int} {a:α} (h:idx xs i=some a) (k:Scr q p):Scr (.row i.toNat (e a)::q) (Zw (il i)=some i.toNat∧(xs.map e)[i.toNat]?=some (e a)∧p):=⟨ixn h,ixr e h,k⟩
theorem xd (e:α→List V) {xs:List α} {i:Int} {a:α} (h:idx xs i=some a) (k:Scr q p):Scr (.row i.toNat (e a)::.cell (e a)::q) (Zw (il i)=some i.toNat∧i.toNat < (xs.map e).length∧(xs.map e)[i.toNat]?=some (e a)∧(xs.map e)[i.toNat]?=some (e a)∧p):=⟨ixn h,ixl e h,ixr e h,ixr e h,k⟩
theorem xp (e:α→List V) {xs ys:List α} {i:Int} {a b:α} (h:idx xs i=some a) (h2:setO xs i b=some ys) (k:Scr q p):Scr (.row i.toNat (e a)::.put (e a) (ys.map e)::q) (Zw (il i)=some i.toNat∧i.toNat < (xs.map e).length∧(xs.map e)[i.toNat]?=some (e a)∧(xs.map e)[i.toNat]?=some (e a)∧(xs.map e).set i.toNat (e b)=ys.map e∧p):=⟨ixn h,ixl e h,ixr e h,ixr e h,seto e h2,k⟩
theorem xq (e:α→List V) {xs:List α} {i:Int} {a:α} (h:idx xs i=some a) (ys:List α) (k:Scr q p):Scr (.row i.toNat (e a)::.put (e a) (ys.map e)::q) (Zw (il i)=some i.toNat∧i.toNat < (xs.map e).length∧(xs.map e)[i.toNat]?=some (e a)∧(xs.map e)[i.toNat]?=some (e a)∧p):=⟨ixn h,ixl e h,ixr e h,ixr e h,k⟩
theorem ln (e:α→List V) (xs:List α) (k:Scr q p):Scr (.num (xs.map e).length 0 0 []::q) ((xs.map e).length=(xs.map e).length∧p):=⟨rfl,k⟩
theorem lr (e:α→List V) (xs:List α) (k:Scr q p):Scr (.num xs.length 0 0 []::q) ((xs.map e).length=xs.length∧p):=⟨lenr e xs,k⟩
theorem tp (x:O) (k:Scr q p):Scr (x::q) p:=k
theorem ta (e:α→List V) (ys zs:List α) (k:Scr q p):Scr (.app (ys.map e) true (zs.map e) (zs.map e).length::q) p:=k
theorem oa (n:Nat) {e:α→List V} (he:∀a,(e a).length=n) (x:α) (k:Scr q p):Scr q (1=([x].map e).length∧[x].map e=[x].map e∧Wv n ([x].map e)=true∧p):=⟨rfl,rfl,alr n he [x],k⟩
theorem ox (e:α→List V) {sz:Nat} {xs ys zs:List α} (h:appI sz xs ys=some zs) (k:Scr q p):Scr q ((xs.map e).length=(xs.map e).length∧(((xs.map e).length+(ys.map e).length)*sz≤140737488355328∧(xs.map e).length+(ys.map e).length≤9223372036854775807)∧xs.map e++ys.map e=zs.map e∧p):=⟨rfl,apl e h,apm e h,k⟩
theorem oe (e:α→List V) (xs:List α) (k:Scr q p):Scr q ((xs.map e).length=(xs.map e).length∧p):=⟨rfl,k⟩
theorem ob {a:Prop} (h:a) (k:Scr q p):Scr q (a∧p):=⟨h,k⟩
end
theorem nz0 {b:Int} {u:Unit} (h:nzI b=some u):b≠0:=by
 unfold nzI at h;split at h
 ·cases h
 ·assumption
theorem nn0 {b:Int} {u:Unit} (h:nnI b=some u):0≤b:=by
 unfold nnI at h;split at h
 ·assumption
 ·cases h
theorem cat0 {a b:ByteArray} {u:Unit} (h:catI a b=some u):¬((a.size+b.size:Nat):Int) > IntKind.i64.max:=by
 unfold catI at h;split at h
 ·cases h
 ·assumption
def Zif (f:Func):Code:=f.body.getD .skip
def at_:List Nat→Code→List It→List It
 | 0::p,.seq a b,k=>at_ p a (.c b::k)
 | _::p,.seq _ b,k=>at_ p b k
 | 0::p,.cond _ a _,k=>at_ p a k
 | _::p,.cond _ _ b,k=>at_ p b k
 | _::p,.block i c,k=>at_ p c (.blk i::k)
 | _::p,.loop c,k=>at_ p c (.c (.loop c)::k)
 | _,c,k=>.c c::k
end Go.Proofs.YtgmmcfpabnoekaaDoor.Ev
namespace Go.Proofs.YtgmmcfpabnoekaaDoor.Ev
open Go Go.RowKit
set_option linter.unusedVariables false
set_option linter.unusedSimpArgs false
set_option linter.unusedSectionVars false
variable [Anchor]
section
variable {P:Program} {M:Hints} {w:World} {ok top:Nat→Prop}
theorem Zkx:∀{us:List Value} {xs:List V},us.length=xs.length→OutsR P w ok top [] us xs (xs.map fun _=>V.undef) []
 | [],[],_=>.nil
 | u::us,x::xs,h=>.cons (f1:=[]) (f2:=[]) rfl (Zkx (by simpa using h))
theorem Zpt {ms:List Mode} {us:List Value} {xs:List V} {G:List Nat} (h:ArgsR P w ok top ms us xs G):ms=[]→us.length=xs.length∧G=[]∧∀(j:Nat) (u:Value) (x:V),us[j]?=some u→xs[j]?=some x→∀ρ,En w ok ρ u x:=by
 induction h with
 | nil=>intro _;exact⟨rfl,rfl,fun j u x hu=>by simp at hu⟩
 | cons h hs ih=>
  intro hm
  subst hm
  obtain⟨h1,rfl,h2⟩:=ih rfl
  obtain⟨h3,rfl⟩:=h
  refine⟨by simp[h1],rfl,fun j u x hu hx=>?_⟩
  cases j with
  | zero=>simp at hu hx;subst hu;subst hx;exact h3
  | succ j=>exact h2 j u x (by simpa using hu) (by simpa using hx)
theorem Zla {f:FuncId} {xs:List V} {v:Value} {x:V} (hfn:∃fn,P.funcs[f]?=some fn∧fn.body.isSome=true) (hm:M.modes f=[]) (hv:∀(w':World) (ok top:Nat→Prop),ResR P w' ok top v x [])
  (h:∀(w:World) (us:List Value) (ok:Nat→Prop),Anch w (fun _=>False)→(∀g,ok g→g < w.heap.size)→us.length=xs.length→(∀(j:Nat) (u:Value) (x:V),us[j]?=some u→xs[j]?=some x→∀ρ,En w ok ρ u x)→
   Calls P f us.toArray w (fun e w'=>e=.returned v∧Below w.heap.size w w')):Fine P M (f,xs,x,xs.map fun _=>.undef):=by
 refine⟨hfn,?_⟩
 show Zaf P (M.modes f) f xs x _
 rw[hm]
 intro w us G T X ok hT hargs hGn hG hok hX
 obtain⟨hl,rfl,he⟩:=Zpt hargs rfl
 have:=h w us.toList ok ⟨hT.1,hT.2.1,fun g hg=>hg.elim⟩ (fun g hg=>(hok g hg).1) hl he
 rw[Array.toArray_toList] at this
 exact this.mono fun e w' ⟨he,hb⟩=>⟨v,he,⟨⟨hb.os,hb.tape,hb.output,hb.size,fun k hk _=>hb.block k hk⟩,ok,T,[],[],hv w' ok T,Zkx hl,by simp,fun g hg=>by simp at hg,fun g hg=>.inl hg,fun g hg=>⟨Nat.lt_of_lt_of_le (hok g hg).1 hb.size,(hok g hg).2⟩⟩⟩
theorem Zk3 {v:Value} (hv:Yn v=true) (w':World) (ok top:Nat→Prop):ResR P w' ok top v (.lit v) []:=show Giv P w' ok top v (.lit v) [] from .lit hv
theorem Zgr:∀l:List ByteArray,(l.map encS).flatten=l.map fun x=>V.lit (.string x)
 | []=>rfl
 | a::l=>by simp only[List.map_cons,List.flatten_cons,Zgr l];rfl
theorem Zm9 {ρ:Rho} {u v:Value} (h:En w ok ρ u (.lit v)):u=v:=by cases h;rfl
theorem Zqd {ρ:Rho} {u:Value} {l:List ByteArray} (h:En w ok ρ u (.tr (l.map encS))):
  (∃A c,u=.slice A 0 c∧l=[])∨∃g o c,u=.slice (some ⟨g,o,none⟩) l.length c∧ok g∧l.length≤c∧∀(j:Nat) x,l[j]?=some x→w.cell? ⟨g,o+j,none⟩=some (.string x):=by
 cases h with
 | tr h=>
  have hf:(l.map encS).flatten=l.map fun x=>V.lit (.string x):=Zgr l
  generalize hq:l.map encS=rows at h
  cases h with
  | emp=>exact .inl ⟨_,_,rfl,by simpa using hq⟩
  | @tr g o n c sz rows u hn hc hm hs hg hu hr=>
   subst hq
   rw[hf] at hu hr
   have hn':n=l.length:=by rw[←hn];simp
   subst hn'
   refine .inr ⟨g,o,c,rfl,hg,hc,fun j x hx=>?_⟩
   have h1:(l.map fun x=>V.lit (.string x))[j]?=some (V.lit (.string x)):=by rw[List.getElem?_map,hx];rfl
   rw[hu j _ h1]
   have:=hr j _ h1
   generalize u j=q at this
   cases this;rfl
end
end Go.Proofs.YtgmmcfpabnoekaaDoor.Ev
namespace Go.Proofs.YtgmmcfpabnoekaaDoor.Ev
open Go Go.Proofs
set_option linter.unusedVariables false
structure GDone where
 cycle:Int
 who:Int
 write:Bool
 addr:Int
 size:Int
 value:Int
 resp:Int
 deriving DecidableEq
structure GReq where
 write:Bool
 addr:Int
 size:Int
 burst:Int
 lock:Bool
 data_:List Int
 deriving DecidableEq
structure GPost where
 at_:Int
 who:Int
 req:GReq
 deriving DecidableEq
structure GScript where
 posts:List GPost
 waits:List Int
 says:List Int
 deriving DecidableEq
def GReq.ok (z:GReq):Prop:=True∧(Lit.int .i64 z.addr).wf=true∧(Lit.int .i64 z.size).wf=true∧(Lit.int .i64 z.burst).wf=true∧True∧(z.data_.length≤maxLen∧∀x∈z.data_,(Lit.int .i64 x).wf=true)
def GPost.ok (z:GPost):Prop:=(Lit.int .i64 z.at_).wf=true∧(Lit.int .i64 z.who).wf=true∧GReq.ok z.req
def GScript.ok (z:GScript):Prop:=(z.posts.length≤maxLen∧∀x∈z.posts,GPost.ok x)∧(z.waits.length≤maxLen∧∀x∈z.waits,(Lit.int .i64 x).wf=true)∧(z.says.length≤maxLen∧∀x∈z.says,(Lit.int .i64 x).wf=true)
abbrev GReq.z0:GReq:=⟨false,0,0,0,false,[]⟩
abbrev GPost.z0:GPost:=⟨0,0,GReq.z0⟩
def Qo (x0:Int) (k_L1:Int→ByteArray→Option ByteArray) (v0:Int) (v1:ByteArray) (v2:Int):Option ByteArray:=
 (catI (strB [(w8 (addW 48 v2))]) v1).bind fun n0=>
 k_L1 (quoW v0 10) ((strB [(w8 (addW 48 v2))])++v1)
def J8 (x0:Int)  (k:Int→ByteArray→Option ByteArray) (v0:Int) (v1:ByteArray):Option ByteArray:=
 if decide (v0≠0)=true then (
  if decide ((remW v0 10) < 0)=true then (
   Qo x0 k v0 v1 (negW (remW v0 10)))
  else (
   Qo x0 k v0 v1 (remW v0 10)))
 else (
  if decide (x0 < 0)=true then (
   (catI (strL [45]) v1).bind fun n1=>
   some ((strL [45])++v1))
  else (
   some v1))
def Wc (x0:Int)  : Nat→Int→ByteArray→Option ByteArray
 | 0,_,_=>none
 | m+1,v0,v1=>J8 x0  (Wc x0  m) v0 v1
def Xg (x0:Int):Option ByteArray:=
 if decide (x0=0)=true then (
  some (strL [48]))
 else (
  Wc x0 FU x0 ByteArray.empty)
def X1 (x0:Int) (x1:Int) (x2:Int):Option Bool:=
 if decide (x0≥x1)=true then (
  some (decide (x0≤x2)))
 else (
  some false)
def Zit (x0:Int):Option ByteArray:=
 (X1 x0 0 3).bind fun r0=>
 if (!r0)=true then (
  some ByteArray.empty)
 else (
  (idx [(strL [111,107,97,121]),(strL [101,114,114,111,114]),(strL [114,101,116,114,121]),(strL [115,112,108,105,116])] x0).bind fun a0=>
  some a0)
def Zal (x0:GDone)  (v0:ByteArray):Option ByteArray:=
 (Xg x0.cycle).bind fun r0=>
 (catI r0 (strL [32])).bind fun n0=>
 (Xg x0.who).bind fun r1=>
 (catI (r0++(strL [32])) r1).bind fun n1=>
 (catI ((r0++(strL [32]))++r1) (strL [32])).bind fun n2=>
 (catI (((r0++(strL [32]))++r1)++(strL [32])) v0).bind fun n3=>
 (Xg x0.addr).bind fun r2=>
 (catI ((((r0++(strL [32]))++r1)++(strL [32]))++v0) r2).bind fun n4=>
 (catI (((((r0++(strL [32]))++r1)++(strL [32]))++v0)++r2) (strL [32])).bind fun n5=>
 (Xg x0.value).bind fun r3=>
 (catI ((((((r0++(strL [32]))++r1)++(strL [32]))++v0)++r2)++(strL [32])) r3).bind fun n6=>
 (catI (((((((r0++(strL [32]))++r1)++(strL [32]))++v0)++r2)++(strL [32]))++r3) (strL [32])).bind fun n7=>
 (Zit x0.resp).bind fun r4=>
 (catI ((((((((r0++(strL [32]))++r1)++(strL [32]))++v0)++r2)++(strL [32]))++r3)++(strL [32])) r4).bind fun n8=>
 some (((((((((r0++(strL [32]))++r1)++(strL [32]))++v0)++r2)++(strL [32]))++r3)++(strL [32]))++r4)
def Zjd (x0:GDone):Option ByteArray:=
 if x0.write=true then (
  Zal x0 (strL [119,114,105,116,101,32]))
 else (
  Zal x0 (strL [114,101,97,100,32]))
def W5 (x0:Int):Option ByteArray:=if -9223372036854775808≤x0∧x0≤9223372036854775807 then some ⟨(Lib.itoa x0).toArray⟩ else none
def Kt (x0:Int):Option ByteArray:=
 (W5 x0).bind fun r0=>
 some r0
def Qv (x0:Bool):Option ByteArray:=
 if x0=true then (
  some (strL [119,114,105,116,101]))
 else (
  some (strL [114,101,97,100]))
def X2 (x0:Int) (x1:Int) (x2:Int):Option Bool:=
 if decide (x1≤x0)=true then (
  some (decide (x0≤x2)))
 else (
  some false)
def Ye (x0:List ByteArray) (x1:ByteArray):Option ByteArray:=if x0.length≤140737488355328∧(Lib.join (x0.map (·.data.toList)) x1.data.toList).length≤140737488355328 then some ⟨(Lib.join (x0.map (·.data.toList)) x1.data.toList).toArray⟩ else none
def Zej (x0:List GDone)  (k:ByteArray→Int→Option ByteArray) (v0:ByteArray) (v1:Int):Option ByteArray:=
 if decide (v1 < (x0.length:Int))=true then (
  (idx x0 v1).bind fun a0=>
  (Zjd a0).bind fun r0=>
  (catI v0 r0).bind fun n0=>
  (catI (v0++r0) (strL [10])).bind fun n1=>
  k ((v0++r0)++(strL [10])) (addW v1 1))
 else (
  some v0)
def Zft (x0:List GDone)  : Nat→ByteArray→Int→Option ByteArray
 | 0,_,_=>none
 | m+1,v0,v1=>Zej x0  (Zft x0  m) v0 v1
def Zlk (x0:GDone) (x1:GDone):Option Bool:=
 if decide (x0.cycle≠x1.cycle)=true then (
  some false)
 else (
  if decide (x0.who≠x1.who)=true then (
   some false)
  else (
   if (x0.write != x1.write)=true then (
    some false)
   else (
    if decide (x0.addr≠x1.addr)=true then (
     some false)
    else (
     if decide (x0.size≠x1.size)=true then (
      some false)
     else (
      if decide (x0.value≠x1.value)=true then (
       some false)
      else (
       if decide (x0.resp≠x1.resp)=true then (
        some false)
       else (
        some true)))))))
def Zef (x0:List GDone) (x1:List GDone)  (k:Int→Option Bool) (v0:Int):Option Bool:=
 if decide (v0 < (x0.length:Int))=true then (
  (idx x0 v0).bind fun a0=>
  (idx x1 v0).bind fun a1=>
  (Zlk a0 a1).bind fun r0=>
  if (!r0)=true then (
   some false)
  else (
   k (addW v0 1)))
 else (
  some true)
def Ze3 (x0:List GDone) (x1:List GDone)  : Nat→Int→Option Bool
 | 0,_=>none
 | m+1,v0=>Zef x0 x1  (Ze3 x0 x1  m) v0
def Qh (x0:List Int) (x1:Int):Option Int:=
 if decide ((subW x1 (x0.length:Int)) < 0)=true then (
  some (-1))
 else (
  some (subW x1 (x0.length:Int)))
def Zat (x0:GReq) (x1:Int):Option Int:=
 (Qh x0.data_ x1).bind fun r0=>
 if decide (r0 < 0)=true then (
  some (-1))
 else (
  some r0)
def X6 (x0:GPost) (x1:Int):Option Int:=
 (Zat x0.req x1).bind fun r0=>
 if decide (r0 < 0)=true then (
  some (-1))
 else (
  some r0)
def Q1 (x0:List GPost) (x1:Int)  (k:Int→Int→Option Int) (v0:Int) (v1:Int):Option Int:=
 if decide (v1 < (x0.length:Int))=true then (
  (idx x0 v1).bind fun a0=>
  (X6 a0 v0).bind fun r0=>
  if decide (r0 < 0)=true then (
   some (-1))
  else (
   k r0 (addW v1 1)))
 else (
  some v0)
def Wo (x0:List GPost) (x1:Int)  : Nat→Int→Int→Option Int
 | 0,_,_=>none
 | m+1,v0,v1=>Q1 x0 x1  (Wo x0 x1  m) v0 v1
def K9 (x0:List GPost) (x1:Int):Option Int:=
 if decide ((subW x1 (x0.length:Int)) < 0)=true then (
  some (-1))
 else (
  Wo x0 x1 FU (subW x1 (x0.length:Int)) 0)
def Kc (x0:GScript) (x1:Int):Option Int:=
 (K9 x0.posts x1).bind fun r0=>
 if decide (r0 < 0)=true then (
  some (-1))
 else (
  (Qh x0.waits r0).bind fun r1=>
  if decide (r1 < 0)=true then (
   some (-1))
  else (
   (Qh x0.says r1).bind fun r2=>
   if decide (r2 < 0)=true then (
    some (-1))
   else (
    some r2)))
def Zfg (x0:List Int)  (k:(List Int)→Int→Option (List Int)) (v0:List Int) (v1:Int):Option (List Int):=
 if decide (v1 < (x0.length:Int))=true then (
  (idx x0 v1).bind fun a0=>
  (idx v0 v1).bind fun a1=>
  (setO v0 v1 a0).bind fun y0=>
  k y0 (addW v1 1))
 else (
  some v0)
def Qi (x0:List Int)  : Nat→(List Int)→Int→Option (List Int)
 | 0,_,_=>none
 | m+1,v0,v1=>Zfg x0  (Qi x0  m) v0 v1
def Qd (x0:List Int):Option (List Int):=
 (mkI 8 (x0.length:Int) 0).bind fun m0=>
 Qi x0 FU m0 0
def Za6 (x0:GReq):Option GReq:=
 (Qd x0.data_).bind fun r0=>
 some {x0 with data_:=r0}
def Kb (x0:GPost):Option GPost:=
 (Za6 x0.req).bind fun r0=>
 some {x0 with req:=r0}
def Zep (x0:List GPost)  (k:(List GPost)→Int→Option (List GPost)) (v0:List GPost) (v1:Int):Option (List GPost):=
 if decide (v1 < (x0.length:Int))=true then (
  (idx x0 v1).bind fun a0=>
  (Kb a0).bind fun r0=>
  (idx v0 v1).bind fun a1=>
  (setO v0 v1 r0).bind fun y0=>
  k y0 (addW v1 1))
 else (
  some v0)
def Wl (x0:List GPost)  : Nat→(List GPost)→Int→Option (List GPost)
 | 0,_,_=>none
 | m+1,v0,v1=>Zep x0  (Wl x0  m) v0 v1
def Ja (x0:List GPost):Option (List GPost):=
 (mkI 80 (x0.length:Int) GPost.z0).bind fun m0=>
 Wl x0 FU m0 0
def Xw (x0:GScript):Option GScript:=
 (Ja x0.posts).bind fun r0=>
 (Qd x0.waits).bind fun r1=>
 (Qd x0.says).bind fun r2=>
 some (GScript.mk r0 r1 r2)
def X8 (x0:ByteArray) (x1:List Int)  (k:ByteArray→Int→Option ByteArray) (v0:ByteArray) (v1:Int):Option ByteArray:=
 if decide (v1 < (x1.length:Int))=true then (
  (catI v0 (strL [32])).bind fun n0=>
  (idx x1 v1).bind fun a0=>
  (Xg a0).bind fun r0=>
  (catI (v0++(strL [32])) r0).bind fun n1=>
  k ((v0++(strL [32]))++r0) (addW v1 1))
 else (
  (catI v0 (strL [10])).bind fun n2=>
  some (v0++(strL [10])))
def Xl (x0:ByteArray) (x1:List Int)  : Nat→ByteArray→Int→Option ByteArray
 | 0,_,_=>none
 | m+1,v0,v1=>X8 x0 x1  (Xl x0 x1  m) v0 v1
def Qm (x0:ByteArray) (x1:List Int):Option ByteArray:=
 if decide ((x1.length:Int)=0)=true then (
  some ByteArray.empty)
 else (
  Xl x0 x1 FU x0 0)
def Yu (x0:Int):Option Int:=
 (X1 x0 0 3).bind fun r0=>
 if (!r0)=true then (
  some 0)
 else (
  (idx [1,4,4,8] x0).bind fun a0=>
  some a0)
def Yv (x0:Int):Option Int:=
 (X1 x0 0 2).bind fun r0=>
 if (!r0)=true then (
  some 0)
 else (
  (nnI x0).bind fun n0=>
  some (shlW 1 x0))
def Kz (x0:Int) (x1:Int):Option Bool:=
 (Yv x1).bind fun r0=>
 if decide (r0 > 0)=true then (
  if decide (x0≥0)=true then (
   (Yv x1).bind fun r1=>
   (nzI r1).bind fun n0=>
   some (decide ((remW x0 r1)=0)))
  else (
   some false))
 else (
  some false)
def X4 (x0:Int) (x1:Int) (x2:Int)  (v0:Int) (v1:Bool):Option Int:=
 if v1=true then (
  some (subW (addW x0 v0) (mulW 4 v0)))
 else (
  some (addW x0 v0))
def Xc (x0:Int) (x1:Int) (x2:Int)  (v0:Int) (v2:Bool):Option Int:=
 if v2=true then (
  some (-1))
 else (
  if decide (x2=2)=true then (
   (nzI (mulW 4 v0)).bind fun n0=>
   X4 x0 x1 x2 v0 (decide ((remW (addW x0 v0) (mulW 4 v0))=0)))
  else (
   X4 x0 x1 x2 v0 false))
def W0 (x0:Int) (x1:Int) (x2:Int):Option Int:=
 (Yv x1).bind fun r0=>
 (Kz x0 x1).bind fun r1=>
 if (!r1)=true then (
  Xc x0 x1 x2 r0 true)
 else (
  (X1 x0 0 511).bind fun r2=>
  if (!r2)=true then (
   Xc x0 x1 x2 r0 true)
  else (
   (Yu x2).bind fun r3=>
   Xc x0 x1 x2 r0 (decide (r3=0))))
def Y2 (x0:Int) (x1:Int) (x2:Int) (k_L1:Int→(List Int)→Option (List Int)) (v0:Int) (v1:List Int) (v2:Bool):Option (List Int):=
 if v2=true then (
  (appI 8 v1 [v0]).bind fun z0=>
  (W0 v0 x1 x2).bind fun r0=>
  k_L1 r0 z0)
 else (
  (Yu x2).bind fun r1=>
  if decide ((v1.length:Int) < r1)=true then (
   some [])
  else (
   some v1))
def Yl (x0:Int) (x1:Int) (x2:Int)  (k:Int→(List Int)→Option (List Int)) (v0:Int) (v1:List Int):Option (List Int):=
 (Yu x2).bind fun r2=>
 if decide ((v1.length:Int) < r2)=true then (
  (W0 v0 x1 x2).bind fun r3=>
  Y2 x0 x1 x2 k v0 v1 (decide (r3≥0)))
 else (
  Y2 x0 x1 x2 k v0 v1 false)
def Xm (x0:Int) (x1:Int) (x2:Int)  : Nat→Int→(List Int)→Option (List Int)
 | 0,_,_=>none
 | m+1,v0,v1=>Yl x0 x1 x2  (Xm x0 x1 x2  m) v0 v1
def Qg (x0:Int) (x1:Int) (x2:Int):Option (List Int):=
 Xm x0 x1 x2 FU x0 []
def Qx (x0:Int) (x1:Int) (x2:Int)  (k:(List Int)→Int→Option Bool) (v0:List Int) (v1:Int):Option Bool:=
 if decide (v1 < (v0.length:Int))=true then (
  (idx v0 v1).bind fun a0=>
  (idx v0 0).bind fun a1=>
  if decide ((quoW a0 64)≠(quoW a1 64))=true then (
   some false)
  else (
   k v0 (addW v1 1)))
 else (
  some (decide ((v0.length:Int) > 0)))
def Wp (x0:Int) (x1:Int) (x2:Int)  : Nat→(List Int)→Int→Option Bool
 | 0,_,_=>none
 | m+1,v0,v1=>Qx x0 x1 x2  (Wp x0 x1 x2  m) v0 v1
def K4 (x0:Int) (x1:Int) (x2:Int):Option Bool:=
 (Qg x0 x1 x2).bind fun r0=>
 Wp x0 x1 x2 FU r0 0
def Qn (x0:Int):Option Int:=
 (Yv x0).bind fun r0=>
 if decide (r0=0)=true then (
  some 0)
 else (
  (Yv x0).bind fun r1=>
  (nnI (mulW 8 r1)).bind fun n0=>
  some (shlW 1 (mulW 8 r1)))
def Ky (x0:GReq)  (k:Int→Option Bool) (v0:Int):Option Bool:=
 if decide (v0 < (x0.data_.length:Int))=true then (
  (idx x0.data_ v0).bind fun a0=>
  (Qn x0.size).bind fun r0=>
  (X1 a0 0 (subW r0 1)).bind fun r1=>
  if (!r1)=true then (
   some false)
  else (
   k (addW v0 1)))
 else (
  if decide ((x0.data_.length:Int)=0)=true then (
   if (!x0.write)=true then (
    some true)
   else (
    (Yu x0.burst).bind fun r2=>
    if decide ((x0.data_.length:Int)=r2)=true then (
     some x0.write)
    else (
     some false)))
  else (
   (Yu x0.burst).bind fun r2=>
   if decide ((x0.data_.length:Int)=r2)=true then (
    some x0.write)
   else (
    some false)))
def Qs (x0:GReq)  : Nat→Int→Option Bool
 | 0,_=>none
 | m+1,v0=>Ky x0  (Qs x0  m) v0
def Za8 (x0:GReq):Option Bool:=
 (K4 x0.addr x0.size x0.burst).bind fun r3=>
 if (!r3)=true then (
  some false)
 else (
  Qs x0 FU 0)
def X5 (x0:GReq)  (k:ByteArray→Int→Option ByteArray) (v0:ByteArray) (v1:Int):Option ByteArray:=
 if decide (v1 < (x0.data_.length:Int))=true then (
  (catI v0 (strL [32])).bind fun n0=>
  (idx x0.data_ v1).bind fun a0=>
  (Xg a0).bind fun r0=>
  (catI (v0++(strL [32])) r0).bind fun n1=>
  k ((v0++(strL [32]))++r0) (addW v1 1))
 else (
  some v0)
def Y5 (x0:GReq)  : Nat→ByteArray→Int→Option ByteArray
 | 0,_,_=>none
 | m+1,v0,v1=>X5 x0  (Y5 x0  m) v0 v1
def Wk (x0:GReq)  (v0:ByteArray):Option ByteArray:=
 Y5 x0 FU v0 0
def Xn (x0:GReq)  (v0:ByteArray):Option ByteArray:=
 (catI v0 (strL [32])).bind fun n2=>
 (idx [(strL [98,121,116,101]),(strL [104,97,108,102]),(strL [119,111,114,100])] x0.size).bind fun a1=>
 (catI (v0++(strL [32])) a1).bind fun n3=>
 (catI ((v0++(strL [32]))++a1) (strL [32])).bind fun n4=>
 (idx [(strL [111,110,101]),(strL [102,111,117,114]),(strL [119,114,97,112]),(strL [101,105,103,104,116])] x0.burst).bind fun a2=>
 (catI (((v0++(strL [32]))++a1)++(strL [32])) a2).bind fun n5=>
 (catI ((((v0++(strL [32]))++a1)++(strL [32]))++a2) (strL [32])).bind fun n6=>
 (Xg x0.addr).bind fun r1=>
 (catI (((((v0++(strL [32]))++a1)++(strL [32]))++a2)++(strL [32])) r1).bind fun n7=>
 if x0.lock=true then (
  (catI ((((((v0++(strL [32]))++a1)++(strL [32]))++a2)++(strL [32]))++r1) (strL [32,108,111,99,107])).bind fun n8=>
  Wk x0 (((((((v0++(strL [32]))++a1)++(strL [32]))++a2)++(strL [32]))++r1)++(strL [32,108,111,99,107])))
 else (
  Wk x0 ((((((v0++(strL [32]))++a1)++(strL [32]))++a2)++(strL [32]))++r1))
def K1 (x0:GReq):Option ByteArray:=
 (Za8 x0).bind fun r2=>
 if (!r2)=true then (
  some ByteArray.empty)
 else (
  if x0.write=true then (
   Xn x0 (strL [119,114,105,116,101]))
  else (
   Xn x0 (strL [114,101,97,100])))
def Wh (x0:GScript)  (k:ByteArray→Int→Option ByteArray) (v0:ByteArray) (v1:Int):Option ByteArray:=
 if decide (v1 < (x0.posts.length:Int))=true then (
  (idx x0.posts v1).bind fun a0=>
  (K1 a0.req).bind fun r0=>
  if (r0.toList == ByteArray.empty.toList)=true then (
   some ByteArray.empty)
  else (
   (catI v0 (strL [112,111,115,116,32])).bind fun n0=>
   (Xg a0.at_).bind fun r1=>
   (catI (v0++(strL [112,111,115,116,32])) r1).bind fun n1=>
   (catI ((v0++(strL [112,111,115,116,32]))++r1) (strL [32])).bind fun n2=>
   (Xg a0.who).bind fun r2=>
   (catI (((v0++(strL [112,111,115,116,32]))++r1)++(strL [32])) r2).bind fun n3=>
   (catI ((((v0++(strL [112,111,115,116,32]))++r1)++(strL [32]))++r2) (strL [32])).bind fun n4=>
   (catI (((((v0++(strL [112,111,115,116,32]))++r1)++(strL [32]))++r2)++(strL [32])) r0).bind fun n5=>
   (catI ((((((v0++(strL [112,111,115,116,32]))++r1)++(strL [32]))++r2)++(strL [32]))++r0) (strL [10])).bind fun n6=>
   k (((((((v0++(strL [112,111,115,116,32]))++r1)++(strL [32]))++r2)++(strL [32]))++r0)++(strL [10])) (addW v1 1)))
 else (
  some v0)
def Yw (x0:GScript)  : Nat→ByteArray→Int→Option ByteArray
 | 0,_,_=>none
 | m+1,v0,v1=>Wh x0  (Yw x0  m) v0 v1
def Qc (x0:GScript):Option ByteArray:=
 (Qm (strL [119,97,105,116,115]) x0.waits).bind fun r3=>
 (Qm (strL [115,97,121,115]) x0.says).bind fun r4=>
 (catI r3 r4).bind fun n7=>
 Yw x0 FU (r3++r4) 0
def Qu (x0:List Int)  (k:(List ByteArray)→Int→Option (List ByteArray)) (v0:List ByteArray) (v1:Int):Option (List ByteArray):=
 if decide (v1 < (x0.length:Int))=true then (
  (idx x0 v1).bind fun a0=>
  (Kt a0).bind fun r0=>
  (appI 16 v0 [r0]).bind fun z0=>
  k z0 (addW v1 1))
 else (
  some v0)
def Kr (x0:List Int)  : Nat→(List ByteArray)→Int→Option (List ByteArray)
 | 0,_,_=>none
 | m+1,v0,v1=>Qu x0  (Kr x0  m) v0 v1
def Kx (x0:List Int):Option (List ByteArray):=
 Kr x0 FU [] 0
def Wu (x0:ByteArray) (x1:List Int):Option ByteArray:=
 if decide ((x1.length:Int)=0)=true then (
  some ByteArray.empty)
 else (
  (catI x0 (strL [32])).bind fun n0=>
  (Kx x1).bind fun r0=>
  (Ye r0 (strL [32])).bind fun r1=>
  (catI (x0++(strL [32])) r1).bind fun n1=>
  (catI ((x0++(strL [32]))++r1) (strL [10])).bind fun n2=>
  some (((x0++(strL [32]))++r1)++(strL [10])))
def Wd (x0:Int):Option Int:=
 (X2 x0 0 3).bind fun r0=>
 if (!r0)=true then (
  some 0)
 else (
  (idx [1,4,4,8] x0).bind fun a0=>
  some a0)
def Xa (x0:Int):Option Int:=
 (X2 x0 0 2).bind fun r0=>
 if (!r0)=true then (
  some 0)
 else (
  (nnI x0).bind fun n0=>
  some (shlW 1 x0))
def Jc (x0:Int) (x1:Int):Option Bool:=
 (X2 x1 0 2).bind fun r0=>
 if r0=true then (
  if decide (x0≥0)=true then (
   (Xa x1).bind fun r1=>
   (nzI r1).bind fun n0=>
   some (decide ((remW x0 r1)=0)))
  else (
   some false))
 else (
  some false)
def Xd (x0:Int) (x1:Int) (x2:Int)  (v0:Bool):Option Int:=
 if v0=true then (
  some (-1))
 else (
  (Xa x1).bind fun r0=>
  (Xa x1).bind fun r1=>
  if decide (x2=2)=true then (
   (nzI (mulW 4 r1)).bind fun n0=>
   if decide ((remW (addW x0 r0) (mulW 4 r1))=0)=true then (
    some (subW (addW x0 r0) (mulW 4 r1)))
   else (
    some (addW x0 r0)))
  else (
   some (addW x0 r0)))
def Kq (x0:Int) (x1:Int) (x2:Int):Option Int:=
 (Jc x0 x1).bind fun r2=>
 if (!r2)=true then (
  Xd x0 x1 x2 true)
 else (
  if decide (x0≥512)=true then (
   Xd x0 x1 x2 true)
  else (
   (Wd x2).bind fun r3=>
   Xd x0 x1 x2 (decide (r3=0))))
def Yq (x0:Int) (x1:Int) (x2:Int)  (k:Int→(List Int)→Int→Int→Option (List Int)) (v0:Int) (v1:List Int) (v2:Int) (v3:Int):Option (List Int):=
 if decide (v3 < v2)=true then (
  (Kq v0 x1 x2).bind fun r0=>
  if decide (r0 < 0)=true then (
   some [])
  else (
   (appI 8 v1 [v0]).bind fun z0=>
   k r0 z0 v2 (addW v3 1)))
 else (
  some v1)
def Xi (x0:Int) (x1:Int) (x2:Int)  : Nat→Int→(List Int)→Int→Int→Option (List Int)
 | 0,_,_,_,_=>none
 | m+1,v0,v1,v2,v3=>Yq x0 x1 x2  (Xi x0 x1 x2  m) v0 v1 v2 v3
def W7 (x0:Int) (x1:Int) (x2:Int):Option (List Int):=
 (Wd x2).bind fun r1=>
 Xi x0 x1 x2 FU x0 [] r1 0
def Q4 (x0:Int) (x1:Int) (x2:Int)  (k:(List Int)→Int→Int→Option Bool) (v0:List Int) (v1:Int) (v2:Int):Option Bool:=
 if decide (v2 < v1)=true then (
  (idx v0 v2).bind fun a0=>
  (idx v0 0).bind fun a1=>
  if decide ((quoW a0 64)≠(quoW a1 64))=true then (
   some false)
  else (
   k v0 v1 (addW v2 1)))
 else (
  some (decide ((v0.length:Int) > 0)))
def Wm (x0:Int) (x1:Int) (x2:Int)  : Nat→(List Int)→Int→Int→Option Bool
 | 0,_,_,_=>none
 | m+1,v0,v1,v2=>Q4 x0 x1 x2  (Wm x0 x1 x2  m) v0 v1 v2
def Jd (x0:Int) (x1:Int) (x2:Int):Option Bool:=
 (W7 x0 x1 x2).bind fun r0=>
 Wm x0 x1 x2 FU r0 (r0.length:Int) 0
def K0 (x0:Int):Option Int:=
 (Xa x0).bind fun r0=>
 if decide (r0=0)=true then (
  some 0)
 else (
  (Xa x0).bind fun r1=>
  (nnI (mulW 8 r1)).bind fun n0=>
  some (shlW 1 (mulW 8 r1)))
def Za2 (x0:Int) (x1:Int):Option Bool:=
 (K0 x1).bind fun r0=>
 (X2 x0 0 (subW r0 1)).bind fun r1=>
 some r1
def Jb (x0:Int) (x1:GReq):Option Bool:=
 (Za2 x0 x1.size).bind fun r0=>
 some (!r0)
def Xy (x0:List Int) (x1c0:GReq)  (k:Int→Option Int) (v0:Int):Option Int:=
 if decide (v0 < (x0.length:Int))=true then (
  (idx x0 v0).bind fun a0=>
  (Jb a0 x1c0).bind fun r0=>
  if r0=true then (
   some v0)
  else (
   k (addW v0 1)))
 else (
  some (-1))
def Z2 (x0:List Int) (x1c0:GReq)  : Nat→Int→Option Int
 | 0,_=>none
 | m+1,v0=>Xy x0 x1c0  (Z2 x0 x1c0  m) v0
def Z5 (x0:List Int) (x1c0:GReq):Option Int:=
 Z2 x0 x1c0 FU 0
def Zq (x0:List Int) (x1c0:GReq):Option Bool:=
 (Z5 x0 x1c0).bind fun r0=>
 some (decide (r0≥0))
def Qt (x0:GReq)  (v0:Int):Option Bool:=
 (Jd x0.addr x0.size x0.burst).bind fun r0=>
 if r0=true then (
  if decide ((x0.data_.length:Int)=v0)=true then (
   (Zq x0.data_ x0).bind fun r1=>
   some (!r1))
  else (
   some false))
 else (
  some false)
def Zas (x0:GReq):Option Bool:=
 if x0.write=true then (
  (Wd x0.burst).bind fun r2=>
  Qt x0 r2)
 else (
  Qt x0 0)
def Jn  : Option (List ByteArray):=
 some [(strL [98,121,116,101]),(strL [104,97,108,102]),(strL [119,111,114,100])]
def Kv  : Option (List ByteArray):=
 some [(strL [111,110,101]),(strL [102,111,117,114]),(strL [119,114,97,112]),(strL [101,105,103,104,116])]
def K2 (x0:GReq):Option ByteArray:=
 (Zas x0).bind fun r0=>
 if (!r0)=true then (
  some ByteArray.empty)
 else (
  (Qv x0.write).bind fun r1=>
  (Jn).bind fun r2=>
  (idx r2 x0.size).bind fun a0=>
  (Kv).bind fun r3=>
  (idx r3 x0.burst).bind fun a1=>
  (Kt x0.addr).bind fun r4=>
  if x0.lock=true then (
   (appI 16 [r1,a0,a1,r4] [(strL [108,111,99,107])]).bind fun z0=>
   (Kx x0.data_).bind fun r5=>
   (appI 16 z0 r5).bind fun z1=>
   (Ye z1 (strL [32])).bind fun r6=>
   some r6)
  else (
   (Kx x0.data_).bind fun r5=>
   (appI 16 [r1,a0,a1,r4] r5).bind fun z1=>
   (Ye z1 (strL [32])).bind fun r6=>
   some r6))
def Wi (x0:GScript)  (k:ByteArray→Int→Option ByteArray) (v0:ByteArray) (v1:Int):Option ByteArray:=
 if decide (v1 < (x0.posts.length:Int))=true then (
  (idx x0.posts v1).bind fun a0=>
  (K2 a0.req).bind fun r0=>
  if (r0.toList == ByteArray.empty.toList)=true then (
   some ByteArray.empty)
  else (
   (Kt a0.at_).bind fun r1=>
   (catI (strL [112,111,115,116,32]) r1).bind fun n0=>
   (catI ((strL [112,111,115,116,32])++r1) (strL [32])).bind fun n1=>
   (Kt a0.who).bind fun r2=>
   (catI (((strL [112,111,115,116,32])++r1)++(strL [32])) r2).bind fun n2=>
   (catI ((((strL [112,111,115,116,32])++r1)++(strL [32]))++r2) (strL [32])).bind fun n3=>
   (catI (((((strL [112,111,115,116,32])++r1)++(strL [32]))++r2)++(strL [32])) r0).bind fun n4=>
   (catI ((((((strL [112,111,115,116,32])++r1)++(strL [32]))++r2)++(strL [32]))++r0) (strL [10])).bind fun n5=>
   (catI v0 (((((((strL [112,111,115,116,32])++r1)++(strL [32]))++r2)++(strL [32]))++r0)++(strL [10]))).bind fun n6=>
   k (v0++(((((((strL [112,111,115,116,32])++r1)++(strL [32]))++r2)++(strL [32]))++r0)++(strL [10]))) (addW v1 1)))
 else (
  some v0)
def Y1 (x0:GScript)  : Nat→ByteArray→Int→Option ByteArray
 | 0,_,_=>none
 | m+1,v0,v1=>Wi x0  (Y1 x0  m) v0 v1
def Qf (x0:GScript):Option ByteArray:=
 (Wu (strL [119,97,105,116,115]) x0.waits).bind fun r3=>
 (Wu (strL [115,97,121,115]) x0.says).bind fun r4=>
 (catI r3 r4).bind fun n7=>
 Y1 x0 FU (r3++r4) 0
def Kf (x0:List Int) (x1:List Int)  (k:Int→Option Bool) (v0:Int):Option Bool:=
 if decide (v0 < (x0.length:Int))=true then (
  (idx x0 v0).bind fun a0=>
  (idx x1 v0).bind fun a1=>
  if decide (a0≠a1)=true then (
   some false)
  else (
   k (addW v0 1)))
 else (
  some true)
def W6 (x0:List Int) (x1:List Int)  : Nat→Int→Option Bool
 | 0,_=>none
 | m+1,v0=>Kf x0 x1  (W6 x0 x1  m) v0
def W8 (x0:List Int) (x1:List Int):Option Bool:=
 if decide ((x0.length:Int)≠(x1.length:Int))=true then (
  some false)
 else (
  W6 x0 x1 FU 0)
def Za5 (x0:GReq) (x1:GReq):Option Bool:=
 if (x0.write != x1.write)=true then (
  some false)
 else (
  if decide (x0.addr≠x1.addr)=true then (
   some false)
  else (
   if decide (x0.size≠x1.size)=true then (
    some false)
   else (
    if decide (x0.burst≠x1.burst)=true then (
     some false)
    else (
     if (x0.lock != x1.lock)=true then (
      some false)
     else (
      (W8 x0.data_ x1.data_).bind fun r0=>
      if (!r0)=true then (
       some false)
      else (
       some true))))))
def W9 (x0:GPost) (x1:GPost):Option Bool:=
 if decide (x0.at_≠x1.at_)=true then (
  some false)
 else (
  if decide (x0.who≠x1.who)=true then (
   some false)
  else (
   (Za5 x0.req x1.req).bind fun r0=>
   if (!r0)=true then (
    some false)
   else (
    some true)))
def Qw (x0:List GPost) (x1:List GPost)  (k:Int→Option Bool) (v0:Int):Option Bool:=
 if decide (v0 < (x0.length:Int))=true then (
  (idx x0 v0).bind fun a0=>
  (idx x1 v0).bind fun a1=>
  (W9 a0 a1).bind fun r0=>
  if (!r0)=true then (
   some false)
  else (
   k (addW v0 1)))
 else (
  some true)
def Wr (x0:List GPost) (x1:List GPost)  : Nat→Int→Option Bool
 | 0,_=>none
 | m+1,v0=>Qw x0 x1  (Wr x0 x1  m) v0
def Je (x0:List GPost) (x1:List GPost):Option Bool:=
 if decide ((x0.length:Int)≠(x1.length:Int))=true then (
  some false)
 else (
  Wr x0 x1 FU 0)
def Ka (x0:GScript) (x1:GScript):Option Bool:=
 (Je x0.posts x1.posts).bind fun r0=>
 if (!r0)=true then (
  some false)
 else (
  (W8 x0.waits x1.waits).bind fun r1=>
  if (!r1)=true then (
   some false)
  else (
   (W8 x0.says x1.says).bind fun r2=>
   if (!r2)=true then (
    some false)
   else (
    some true)))
def Xv (x0:GScript):Option Bool:=
 (Kc x0 1048576).bind fun r0=>
 if decide (r0 < 0)=true then (
  some true)
 else (
  (Xw x0).bind fun r1=>
  (Qc r1).bind fun r2=>
  (Xw x0).bind fun r3=>
  (Qf r3).bind fun r4=>
  if (!(r4.toList == r2.toList))=true then (
   some false)
  else (
   (Xw x0).bind fun r5=>
   (Ka r3 r5).bind fun r6=>
   if (!r6)=true then (
    some false)
   else (
    some true)))
end Go.Proofs.YtgmmcfpabnoekaaDoor.Ev
namespace Go.Proofs.YtgmmcfpabnoekaaDoor.Ev
open Go Go.Proofs Go.RowKit
set_option linter.unusedVariables false
set_option linter.unusedSimpArgs false
def GReq.enc (x:GReq):List V:=[.lit (.bool x.write),.lit (.int .i64 x.addr),.lit (.int .i64 x.size),.lit (.int .i64 x.burst),.lit (.bool x.lock),.tr (x.data_.map encI)]
def GPost.enc (x:GPost):List V:=[.lit (.int .i64 x.at_),.lit (.int .i64 x.who),.lit (.bool x.req.write),.lit (.int .i64 x.req.addr),.lit (.int .i64 x.req.size),.lit (.int .i64 x.req.burst),.lit (.bool x.req.lock),.tr (x.req.data_.map encI)]
def GScript.enc (x:GScript):List V:=[.tr (x.posts.map GPost.enc),.tr (x.waits.map encI),.tr (x.says.map encI)]
def GScript.ow (x:GScript):List V:=[.own 79 (x.posts.map GPost.enc),.own 3 (x.waits.map encI),.own 3 (x.says.map encI)]
theorem GScript.so (x:GScript) {q:List O} {p:Prop} (h:Scr q p):Scr q ((x.posts.map GPost.enc).length=(x.posts.map GPost.enc).length∧(x.waits.map encI).length=(x.waits.map encI).length∧(x.says.map encI).length=(x.says.map encI).length∧p):=⟨rfl,rfl,rfl,h⟩
abbrev bx (n:Nat) (r:List V):Id×Blk:=((1,n),⟨true,true,true,0,[r]⟩)
abbrev rx (n t:Nat) (R:List (List V)):Id×Blk:=((1,n),⟨false,true,true,t,R⟩)
end Go.Proofs.YtgmmcfpabnoekaaDoor.Ev
namespace Go.Proofs
open Go.Shelf Go.RowKit Go.Sort Go.Lib
def Tryd.lays156_ren:Go.Shelf.Ren:=⟨fun|156=>40|165=>83|166=>84|169=>85|240=>106|241=>107|276=>125|277=>126|n=>n,fun|31=>70|9=>9|3=>3|4=>4|0=>0|20=>20|72=>107|76=>111|70=>105|37=>61|75=>110|127=>133|164=>145|5=>5|80=>113|n=>n,fun|n=>n⟩
theorem Tryd.lays156:Go.Proofs.Lays.n156 Tryd.prog Tryd.lays156_ren:={
 mixed:=by kernel_rfl
 f156:=Tryd.func40.trans (congrArg some (by kernel_rfl))
 f165:=Tryd.func83.trans (congrArg some (by kernel_rfl))
 f166:=Tryd.func84.trans (congrArg some (by kernel_rfl))
 f169:=Tryd.func85.trans (congrArg some (by kernel_rfl))
 f240:=Tryd.func106.trans (congrArg some (by kernel_rfl))
 f241:=Tryd.func107.trans (congrArg some (by kernel_rfl))
 f276:=Tryd.func125.trans (congrArg some (by kernel_rfl))
 f277:=Tryd.func126.trans (congrArg some (by kernel_rfl))
 t0:=Tryd.underlying0
 a0:=Tryd.isAgg0
 z0:=Tryd.sizeOf0
 v0:=Tryd.zeroValue0
 t3:=Tryd.underlying3
 a3:=Tryd.isAgg3
 z3:=Tryd.sizeOf3
 v3:=Tryd.zeroValue3
 t4:=Tryd.underlying4
 a4:=Tryd.isAgg4
 z4:=Tryd.sizeOf4
 v4:=Tryd.zeroValue4
 t9:=Tryd.underlying9
 a9:=Tryd.isAgg9
 z9:=Tryd.sizeOf9
 v9:=Tryd.zeroValue9
 t20:=Tryd.underlying20
 a20:=Tryd.isAgg20
 z20:=Tryd.sizeOf20
 v20:=Tryd.zeroValue20
 t31:=Tryd.underlying70
 a31:=Tryd.isAgg70
 z31:=Tryd.sizeOf70
 v31:=Tryd.zeroValue70
 t37:=Tryd.underlying61
 a37:=Tryd.isAgg61
 z37:=Tryd.sizeOf61
 v37:=Tryd.zeroValue61
 t70:=Tryd.underlying105
 a70:=Tryd.isAgg105
 z70:=Tryd.sizeOf105
 v70:=Tryd.zeroValue105
 t72:=Tryd.underlying107
 a72:=Tryd.isAgg107
 z72:=Tryd.sizeOf107
 v72:=Tryd.zeroValue107
 t75:=Tryd.underlying110
 a75:=Tryd.isAgg110
 z75:=Tryd.sizeOf110
 v75:=Tryd.zeroValue110
 t76:=Tryd.underlying111
 a76:=Tryd.isAgg111
 z76:=Tryd.sizeOf111
 v76:=Tryd.zeroValue111
 t127:=Tryd.underlying133
 a127:=Tryd.isAgg133
 z127:=Tryd.sizeOf133
 v127:=Tryd.zeroValue133
 t164:=Tryd.underlying145
 a164:=Tryd.isAgg145
 z164:=Tryd.sizeOf145
 v164:=Tryd.zeroValue145}
theorem Tryd.Builder_Extra_156:Builder.Extra Tryd.prog Tryd.lays156_ren:={
 sizeBuilder:=by kernel_rfl
 liesBuilder:=by kernel_rfl
 t5:=Tryd.underlying5
 a5:=Tryd.isAgg5
 z5:=Tryd.sizeOf5
 v5:=Tryd.zeroValue5
 infoByte:=by kernel_rfl
 cellsByte:=by kernel_rfl
 sizeByte:=by kernel_rfl
 neB5:=by decide}
theorem Tryd.strings_Join_none (a:Option Addr) (c:Nat) (sep:ByteArray) (w:World):
  Calls Tryd.prog 40 #[.slice a 0 c,.string sep] w fun e w'=>e=.returned (.string ⟨#[]⟩)∧w'=w:=Any.strings_Join_none Tryd.lays156 Tryd.Builder_Extra_156 a c sep w
theorem Tryd.strings_Join (bk o c:Nat) (xs:List ByteArray) (sep:ByteArray) (w:World) (hcells:∀(j:Nat) x,xs[j]?=some x→w.cell? ⟨bk,o+j,none⟩=some (.string x)) (hbk:bk < w.heap.size) (hN:xs.length≤140737488355328) (hcap:xs.length≤c) (hlen:(Lib.join (xs.map (·.data.toList)) sep.data.toList).length≤140737488355328):
  Calls Tryd.prog 40 #[.slice (some ⟨bk,o,none⟩) xs.length c,.string sep] w fun e w'=>e=.returned (.string ⟨(Lib.join (xs.map (·.data.toList)) sep.data.toList).toArray⟩)∧Below w.heap.size w w':=Any.strings_Join Tryd.lays156 Tryd.Builder_Extra_156 bk o c xs sep w hcells hbk hN hcap hlen
def Tryd.laysM171_ren:Go.Shelf.Ren:=⟨fun|171=>86|243=>108|246=>127|283=>140|284=>141|285=>142|286=>143|129=>159|317=>158|318=>160|319=>161|320=>162|337=>170|338=>171|n=>n,fun|3=>3|9=>9|2=>2|4=>4|171=>156|0=>0|53=>157|37=>61|5=>5|173=>160|212=>171|51=>172|20=>20|213=>173|46=>144|232=>192|233=>193|n=>n,fun|17=>1|18=>6|19=>7|n=>n⟩
theorem Tryd.laysM171:Go.Proofs.LaysM.n171 Tryd.prog Tryd.laysM171_ren:={
 mixed:=by kernel_rfl
 f129:=Tryd.func159.trans (congrArg some (by kernel_rfl))
 f171:=Tryd.func86.trans (congrArg some (by kernel_rfl))
 f243:=Tryd.func108.trans (congrArg some (by kernel_rfl))
 f246:=Tryd.func127.trans (congrArg some (by kernel_rfl))
 f283:=Tryd.func140.trans (congrArg some (by kernel_rfl))
 f284:=Tryd.func141.trans (congrArg some (by kernel_rfl))
 f285:=Tryd.func142.trans (congrArg some (by kernel_rfl))
 f286:=Tryd.func143.trans (congrArg some (by kernel_rfl))
 f317:=Tryd.func158.trans (congrArg some (by kernel_rfl))
 f318:=Tryd.func160.trans (congrArg some (by kernel_rfl))
 f319:=Tryd.func161.trans (congrArg some (by kernel_rfl))
 f320:=Tryd.func162.trans (congrArg some (by kernel_rfl))
 f337:=Tryd.func170.trans (congrArg some (by kernel_rfl))
 f338:=Tryd.func171.trans (congrArg some (by kernel_rfl))
 t0:=Tryd.underlying0
 a0:=Tryd.isAgg0
 z0:=Tryd.sizeOf0
 v0:=Tryd.zeroValue0
 t2:=Tryd.underlying2
 a2:=Tryd.isAgg2
 z2:=Tryd.sizeOf2
 v2:=Tryd.zeroValue2
 t3:=Tryd.underlying3
 a3:=Tryd.isAgg3
 z3:=Tryd.sizeOf3
 v3:=Tryd.zeroValue3
 t4:=Tryd.underlying4
 a4:=Tryd.isAgg4
 z4:=Tryd.sizeOf4
 v4:=Tryd.zeroValue4
 t5:=Tryd.underlying5
 a5:=Tryd.isAgg5
 z5:=Tryd.sizeOf5
 v5:=Tryd.zeroValue5
 t9:=Tryd.underlying9
 a9:=Tryd.isAgg9
 z9:=Tryd.sizeOf9
 v9:=Tryd.zeroValue9
 t20:=Tryd.underlying20
 a20:=Tryd.isAgg20
 z20:=Tryd.sizeOf20
 v20:=Tryd.zeroValue20
 t37:=Tryd.underlying61
 a37:=Tryd.isAgg61
 z37:=Tryd.sizeOf61
 v37:=Tryd.zeroValue61
 t46:=Tryd.underlying144
 a46:=Tryd.isAgg144
 z46:=Tryd.sizeOf144
 v46:=Tryd.zeroValue144
 t51:=Tryd.underlying172
 a51:=Tryd.isAgg172
 z51:=Tryd.sizeOf172
 v51:=Tryd.zeroValue172
 t53:=Tryd.underlying157
 a53:=Tryd.isAgg157
 z53:=Tryd.sizeOf157
 v53:=Tryd.zeroValue157
 t171:=Tryd.underlying156
 a171:=Tryd.isAgg156
 z171:=Tryd.sizeOf156
 v171:=Tryd.zeroValue156
 t173:=Tryd.underlying160
 a173:=Tryd.isAgg160
 z173:=Tryd.sizeOf160
 v173:=Tryd.zeroValue160
 t212:=Tryd.underlying171
 a212:=Tryd.isAgg171
 z212:=Tryd.sizeOf171
 v212:=Tryd.zeroValue171
 t213:=Tryd.underlying173
 a213:=Tryd.isAgg173
 z213:=Tryd.sizeOf173
 t232:=Tryd.underlying192
 a232:=Tryd.isAgg192
 z232:=Tryd.sizeOf192
 v232:=Tryd.zeroValue192
 t233:=Tryd.underlying193
 a233:=Tryd.isAgg193
 z233:=Tryd.sizeOf193
 v233:=Tryd.zeroValue193
 g17:=by kernel_rfl
 g18:=by kernel_rfl
 g19:=by kernel_rfl
 i0:=by kernel_rfl
 i2:=by kernel_rfl
 i3:=by kernel_rfl
 i4:=by kernel_rfl
 i5:=by kernel_rfl
 i9:=by kernel_rfl
 i20:=by kernel_rfl
 i37:=by kernel_rfl
 i46:=by kernel_rfl
 i51:=by kernel_rfl
 i53:=by kernel_rfl
 i171:=by kernel_rfl
 i173:=by kernel_rfl
 i212:=by kernel_rfl
 i232:=by kernel_rfl
 i233:=by kernel_rfl
 m17:=by kernel_rfl
 m18:=by kernel_rfl
 m19:=by kernel_rfl}
theorem Tryd.strconv_Itoa (n:Int) (h0:-9223372036854775808≤n) (h1:n≤9223372036854775807) (w:World) (htab:Lib.TabIs Tryd.prog w "internal/strconv.uint64pow10" .u64 Lib.pow10Tab):
  Calls Tryd.prog 86 #[.int .i64 n] w fun e w'=>e=.returned (.string ⟨(Lib.itoa n).toArray⟩)∧∃k os,w'=grow (w.drewN k) os:=Any.strconv_Itoa Tryd.laysM171 n h0 h1 w htab
end Go.Proofs
namespace Go.Proofs.YtgmmcfpabnoekaaDoor.Ev
open Go Go.Proofs
set_option linter.unusedVariables false
set_option linter.unusedSimpArgs false
def Mo:Hints:=⟨fun f=>(List.lookup f [(28,[.iov,.rd]),(65,[.iov,.rd]),(100,[.io]),(71,[.io]),(99,[.io]),(73,[.io,.mv]),(98,[.io,.mv]),(101,[.io]),(72,[.io]),(70,[.io]),(67,[.io])]).getD [],fun _=>false⟩
set_option linter.unusedSectionVars false
variable [Anchor]
abbrev Y:=FuncId×List V×V×List V
abbrev RF (fn:Func) (y:Y):Ex→St→Prop:=RetC Tryd.prog Mo y.1 fn y.2.1 y.2.2
theorem Zmc {P:Program} (hm:P.follows .mixedOrders=true) (h:P.funcs.toList.all (fun fn=>(match fn.body with|some c=>Yc fn.ntmps c|none=>true)&&!(fn.name == "runtime.NumGoroutine"))=true):FuncsOk P:=by
 rw[List.all_eq_true] at h
 refine⟨hm,fun f fn c hf hc=>?_,fun f fn hf=>?_⟩
 ·have:=h fn (Array.mem_toList_iff.2 (Array.mem_of_getElem? hf))
  rw[hc] at this
  simp only[Bool.and_eq_true] at this
  exact this.1
 ·have:=h fn (Array.mem_toList_iff.2 (Array.mem_of_getElem? hf))
  simp only[Bool.and_eq_true,Bool.not_eq_true'] at this
  exact this.2
theorem fOk:FuncsOk Tryd.prog:=Zmc (by kernel_rfl) (by kernel_rfl)
theorem bnK {α β:Type} {x:Option α} {f:α→Option β} {b:β} {G:Prop} (h:x.bind f=some b) (k:∀a,x=some a→f a=some b→G):G:=by
 obtain⟨a,h1,h2⟩:=Zo1 h;exact k a h1 h2
theorem itK {β:Type} {t:Bool} {x y:Option β} {b:β} {G:Prop} (h:(if t=true then x else y)=some b) (k1:t=true→x=some b→G) (k2:t=false→y=some b→G):G:=by
 rcases Zop h with⟨h1,h2⟩|⟨h1,h2⟩
 ·exact k1 h1 h2
 ·exact k2 h1 h2
theorem rtK {α:Type} {F:α→Y} {fn:Func} {a r:α} {p:Prop} {stk:List It} {s:St} {q:List O} (h:some a=some r) (hp:Scr q p) (e:told (runK Tryd.prog Mo (F a).1 fn (F a).2.1 100000 stk s q)=some (p,(F a).2.2):=by kernel_rfl):SX Tryd.prog (RF fn (F r)) stk .normal s:=by
 cases h;exact Zpp fOk 100000 q hp e
theorem cutX {y:Y} {fn:Func} {stk k2:List It} {s:St} {p:Prop} {l:List (Nat×V)} {h:List (Id×Blk)} {ep:Nat} {q:List O} (f:List (Id×Id)) (n:Nat) (hp:Scr q p) (hn:SX Tryd.prog (RF fn y) k2 .normal (mkS l h ep))
  (e:told (cutK Tryd.prog Mo f l h n stk s q)=some (p,(k2,renL f l h)):=by kernel_rfl) (hb:(isC k2&&cutB f l h ep)=true:=by kernel_rfl):SX Tryd.prog (RF fn y) stk .normal s:=Zpq (M:=Mo) fOk f n q hp hn e hb
theorem Zi {α:Type} {F:α→Y} {fn:Func} {r:α} (hfn:Tryd.prog.funcs[(F r).1]?=some fn) (h:SX Tryd.prog (RF fn (F r)) [.c (Zif fn)] .normal (entS Mo (F r).1 (F r).2.1)) (hc:fn.body=some (Zif fn):=by kernel_rfl) (hs:(St.enters ⟨fun _=>.undef,fun _=>none,0⟩ 0 (Mo.modes (F r).1) (F r).2.1).isSome=true:=by kernel_rfl):
  Fine Tryd.prog Mo (F r):=Zo0 fOk hfn hc hs h
abbrev CS (y:Y) (fn:Func) (p:List Nat) (l:List (Nat×V)) (h:List (Id×Blk)):Prop:=SX Tryd.prog (RF fn y) (at_ p (Zif fn) []) .normal (mkS l h 1)
class ExtOk [A:Anchor]:Prop where
 tab:Lib.TabIs Tryd.prog A.w "internal/strconv.uint64pow10" .u64 Lib.pow10Tab
theorem Zpb {P:Program} [A:Anchor] {w:World} {T:Nat→Prop} (hA:Anch w T) {name:String} {cs:Array Value} (h:A.w.var? P name=some cs):w.var? P name=some cs:=by
 unfold World.var? at h ⊢
 obtain⟨g,hg,h⟩:=Option.bind_eq_some_iff.1 h
 rw[hg,Option.bind_some]
 have hlt:g < A.w.heap.size:=by
  rcases Nat.lt_or_ge g A.w.heap.size with h'|h'
  ·exact h'
  ·rw[Array.getElem?_eq_none h'] at h;cases h
 rw[hA.2.1 g hlt];exact h
theorem us1 {us:List Value} (h:us.length=1):∃u,us=[u]:=by
 match us,h with
 | [u],_=>exact⟨u,rfl⟩
theorem us2 {us:List Value} (h:us.length=2):∃u v,us=[u,v]:=by
 match us,h with
 | [u,v],_=>exact⟨u,v,rfl⟩
abbrev Zf8 (x0:Int) (r:ByteArray):Y:=(86,[.lit (.int .i64 x0)],.lit (.string r),[.undef])
theorem Zf0 [Anchor] [ExtOk] {x0:Int} {r:ByteArray} (h:W5 x0=some r):Fine Tryd.prog Mo (Zf8 x0 r):=by
 unfold W5 at h
 split at h
 case isFalse=>cases h
 rename_i h0
 injection h with h;subst h
 refine Zla (xs:=[.lit (.int .i64 x0)]) ⟨_,Tryd.func86,by kernel_rfl⟩ (by kernel_rfl) (Zk3 rfl) fun w us ok hA hok hl he=>?_
 obtain⟨u,rfl⟩:=us1 hl
 obtain rfl:=Zm9 (he 0 u _ rfl rfl (fun _=>none))
 refine (Tryd.strconv_Itoa x0 h0.1 h0.2 w (Zpb hA ExtOk.tab)).mono fun e w' ⟨he,k,os,hw⟩=>⟨he,?_⟩
 subst hw
 refine⟨rfl,rfl,rfl,?_,fun j hj=>?_⟩
 ·show w.heap.size≤(w.heap++os).size
  rw[Array.size_append];omega
 ·show (w.heap++os)[j]?=w.heap[j]?
  rw[Array.getElem?_append_left hj]
abbrev Zfy (x0:List ByteArray) (x1:ByteArray) (r:ByteArray):Y:=(40,[.tr (x0.map encS),.lit (.string x1)],.lit (.string r),[.undef,.undef])
theorem Kw [Anchor] [ExtOk] {x0:List ByteArray} {x1:ByteArray} {r:ByteArray} (h:Ye x0 x1=some r):Fine Tryd.prog Mo (Zfy x0 x1 r):=by
 unfold Ye at h
 split at h
 case isFalse=>cases h
 rename_i h0
 injection h with h;subst h
 refine Zla (xs:=[.tr (x0.map encS),.lit (.string x1)]) ⟨_,Tryd.func40,by kernel_rfl⟩ (by kernel_rfl) (Zk3 rfl) fun w us ok hA hok hl he=>?_
 obtain⟨u,v,rfl⟩:=us2 hl
 obtain rfl:=Zm9 (he 1 v _ rfl rfl (fun _=>none))
 rcases Zqd (he 0 u _ rfl rfl (fun _=>none)) with⟨A,c,rfl,rfl⟩|⟨g,o,c,rfl,hg,hc,hcells⟩
 ·refine (Tryd.strings_Join_none A c x1 w).mono fun e w' ⟨he,hw⟩=>⟨he,?_⟩
  subst hw;exact RowKit.Below.refl _ _
 ·exact Tryd.strings_Join g o c x0 x1 w hcells (hok g hg) h0.1 hc h0.2
end Go.Proofs.YtgmmcfpabnoekaaDoor.Ev
