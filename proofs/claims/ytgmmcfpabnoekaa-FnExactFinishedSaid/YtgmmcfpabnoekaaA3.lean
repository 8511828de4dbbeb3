/- A part of the proof of FnExactFinished: see the text YtgmmcfpabnoekaaLawFnExactFinished for what is proved and its conditions. Conditions here: those in each line. -/
import Derived.Test.YtgmmcfpabnoekaaA2
import Derived.KernelRfl
import GoSem.ClaimData
namespace Go.Proofs.Ytgmmcfpabnoekaa.Ev
open Go Go.RowKit KM
set_option linter.unusedVariables false
set_option linter.unusedSimpArgs false
set_option linter.unusedSectionVars false
variable [Anchor]
section
variable {P:Program} {M:Hints}
def Zby (ts:List (Option TypeId)) (x:V) (s:St):KM (V×St):=
 match x with
 | .agg cs=>bnd (Wq ts cs s) fun y=>ret (.agg y.1,y.2)
 | .ptr id 0 0=>bnd (Kk s ts id) fun y=>ret (.obx y.1,y.2)
 | x=>Qk s (ts.headD none) x
theorem Zg2 {s:St} {ts:List (Option TypeId)} {x:V}:KS (Zby ts x s) (s.liftOne ts x):=by
 unfold Zby
 split
 ·exact Zx Qr
 ·exact Zx Je
 ·rename_i _ h1 h2
  have:s.liftOne ts x=s.giveCell (ts.headD none) x:=by
   unfold St.liftOne
   split<;>simp_all
  rw[this];exact Kq
def Zb0 (P:Program):List TypeId→List V→(s:St)→KM (List V×St)
 | _,[],s=>ret ([],s)
 | ts,x::r,s=>bnd (Zby (Jg P (ts.headD 0)) x s) fun y=>bnd (Zb0 P ts.tail r y.2) fun z=>ret (y.1::z.1,z.2)
theorem Zf4:∀{xs:List V} {s:St} {ts:List TypeId},KS (Zb0 P ts xs s) (s.liftAll P ts xs):=by
 intro xs
 induction xs with
 | nil=>intro s ts;exact Zz
 | cons x xs ih=>intro s ts;exact Xb Zg2 fun y=>Zx ih
def Xv (p:Nat):(k:Nat)→List V→(s:St)→KM (List V×St)
 | _,[],s=>ret ([],s)
 | k,x::r,s=>match x with
  | .own e rows=>bnd (Jj s (0,64*p+k) 0 rows.length) fun er=>if er.1=e then bnd (Xv p (k+1) r (s.kill (0,64*p+k))) fun z=>ret (.own er.1 er.2::z.1,z.2) else fail
  | _=>bnd (Xv p (k+1) r s) fun z=>ret (.undef::z.1,z.2)
theorem Za2 {p:Nat}:∀{xs:List V} {k:Nat} {s:St},KS (Xv p k xs s) (s.outCells p k xs):=by
 intro xs
 induction xs with
 | nil=>intro k s;exact Zz
 | cons x xs ih=>
  intro k s
  cases x with
  | own e rows=>
   simp only[Xv,St.outCells]
   refine Za Kx (fun er he=>?_)
   rw[he,Option.bind_some]
   refine Zu (fun hx=>?_) (fun _=>Zb)
   rw[if_pos hx]
   exact Zx ih
  | _=>
   simp only[Xv,St.outCells]
   exact Zx ih
def outK (p:Nat) (ts:List (Option TypeId)) (m:Mode) (x:V) (s:St):KM (V×St):=
 match m with
 | .rd|.mv=>ret (.undef,s)
 | .io=>match x with
  | .agg cs=>bnd (Kk s ts (0,64*p+63)) fun y=>if y.1.length=cs.length then ret (.agg y.1,y.2) else fail
  | _=>fail
 | .iov=>match x with
  | .agg cs=>bnd (Xv p 0 cs s) fun y=>ret (.agg y.1,y.2)
  | x=>bnd (Xv p 0 [x] s) fun y=>bnd (opt y.1.head?) fun v=>ret (v,y.2)
theorem Zmz {s:St} {p:Nat} {ts:List (Option TypeId)} {m:Mode} {x:V}:KS (outK p ts m x s) (s.out p ts m x):=by
 cases m
 ·exact Zz
 ·cases x with
  | agg cs=>
   simp only[outK,St.out]
   refine Za Je (fun y hy=>?_)
   rw[hy]
   simp only[Option.bind_some]
   refine Zu (fun hx=>?_) (fun _=>Zb)
   rw[if_pos hx]
   exact Ze rfl
  | _=>exact Zb
 ·exact Zz
 ·cases x with
  | agg cs=>exact Zx Za2
  | _=>simp only[outK,St.out];exact Xb Za2 fun y=>Zx Qm
def Zhv (P:Program):(p:Nat)→List TypeId→List Mode→List V→(s:St)→KM (List V)
 | _,_,_,[],s=>ret []
 | p,ts,ms,x::r,s=>bnd (outK p (Jg P (ts.headD 0)) (ms.headD .rd) x s) fun y=>bnd (Zhv P (p+1) ts.tail ms.tail r y.2) fun z=>ret (y.1::z)
theorem Zkw:∀{xs:List V} {s:St} {p:Nat} {ts:List TypeId} {ms:List Mode},KS (Zhv P p ts ms xs s) (s.outs P p ts ms xs):=by
 intro xs
 induction xs with
 | nil=>intro s p ts ms;exact Zz
 | cons x xs ih=>intro s p ts ms;exact Xb Zmz fun y=>Zx ih
def retK (P:Program) (M:Hints) (f:FuncId) (fn:Func) (xs:List V) (s:St):KM (V×List V):=
 bnd (opt (resV P s fn.results.toList)) fun vs=>bnd (Zb0 P fn.resultTypes.toList vs s) fun z=>bnd (Zhv P 0 fn.params.toList (M.modes f) xs z.2) fun os=>ret (Za0 z.1,os)
theorem Zhg {f:FuncId} {fn:Func} {xs:List V} {s:St}:KS (retK P M f fn xs s) ((resV P s fn.results.toList).bind fun vs=>(s.liftAll P fn.resultTypes.toList vs).bind fun z=>(z.2.outs P 0 fn.params.toList (M.modes f) xs).map fun os=>(Za0 z.1,os)):=
 Xb Qm fun vs=>Xb Zf4 fun z=>Zx Zkw
def Ziv (P:Program) (M:Hints) (s:St) (k:Nat) (g:FuncId) (args:List V):KM (V×St):=
 if args.length≤8 then bnd (Zfr P (((P.funcs[g]?).map (·.params.toList)).getD []) (M.modes g) args s) fun y=>bnd (Zcu y.2 (M.modes g) y.1) fun xs=>bnd hear fun o=>match o with
  | .res r os=>bnd (obl (Fine P M (g,xs,r,os))) fun _=>if ((J4 r||os.any Xi)&&!Xx (M.modes g) args)=true then fail else
   bnd (Zfa s.ep (M.modes g) (16*k+8) args os y.2) fun s'=>opt (s'.takeRes s.ep (16*k) r)
  | _=>fail
 else fail
theorem Zl4 (hP:FuncsOk P) {s:St} {k:Nat} {g:FuncId} {args:List V}:KP (Ziv P M s k g args) (fun y=>∃C,Yy P M C∧Wh P M C s k g args=some y):=by
 unfold Ziv
 refine Zu (fun h8=>?_) (fun _=>Zb)
 refine Za Zi8 (fun y hy=>Za Zjn (fun xs hx=>Za Z0 (fun o _=>?_)))
 split
 ·rename_i r os
  refine Za Zg (fun _ hf=>Zu (fun _=>Zb) (fun ht=>Za Zjo (fun s' hs=>Yl.mono fun z hz=>⟨one (g,xs,r,os),one_ok hP hf,?_⟩)))
  unfold Wh
  rw[if_pos h8,hy,Option.bind_some,hx,Option.bind_some]
  have h1:one (g,xs,r,os) g xs=some (r,os):=by unfold one;rw[if_pos ⟨rfl,rfl⟩]
  rw[h1,Option.bind_some]
  simp only
  rw[if_neg ht,hs,Option.bind_some,hz]
 ·exact Zb
def Zev (s:St) (all:Bool) (x:V) (m:List (List V)) (lb:Bool):KM St:=
 match x with
 | .sl id off len=>if id.1=s.ep∨all=true then (if lb=true then bnd (Jj s id off len) fun er=>bnd (obl (er.2=m)) fun _=>ret (s.kill id) else match s.heap id with
   | some b=>if b.cl=false then bnd (W4 s (.sl id off len)) fun rows=>bnd (obl (rows=m)) fun _=>bnd (obl (Yg m=lb)) fun _=>ret s else fail
   | none=>fail)
  else bnd (W4 s x) fun rows=>bnd (obl (rows=m)) fun _=>bnd (obl (Yg m=lb)) fun _=>ret s
 | x=>bnd (W4 s x) fun rows=>bnd (obl (rows=m)) fun _=>bnd (obl (Yg m=lb)) fun _=>ret s
theorem Zkr {s:St} {all:Bool} {x:V} {m:List (List V)} {lb:Bool}:KP (Zev s all x m lb) (fun s1=>s.moved all x=some (m,lb,s1)):=by
 unfold Zev
 split
 ·rename_i id off len
  simp only[St.moved]
  refine Zu (fun hx=>Zu (fun hl=>?_) (fun _=>?_)) (fun hn=>?_)
  ·refine Za Kx (fun er he=>Za Zg (fun _ hm=>Ze ?_))
   rw[if_pos hx,he,hl]
   simp only[hm]
  ·split
   ·rename_i b hb
    refine Zu (fun hc=>?_) (fun _=>Zb)
    refine Za Y6 (fun rows hr=>Za Zg (fun _ hm=>Za Zg (fun _ hl=>Ze ?_)))
    have hw:s.whole id off len=none:=by
     unfold St.whole
     rw[hb,Option.bind_some,if_neg (fun h=>by rw[hc] at h;cases h.2.2.1)]
    rw[if_pos hx,hw,hr]
    simp only[Option.map_some,hm,hl]
   ·exact Zb
  ·refine Za Y6 (fun rows hr=>Za Zg (fun _ hm=>Za Zg (fun _ hl=>Ze ?_)))
   rw[if_neg hn,hr]
   simp only[Option.map_some,hm,hl]
 ·rename_i _ hne
  refine Za Y6 (fun rows hr=>Za Zg (fun _ hm=>Za Zg (fun _ hl=>Ze ?_)))
  have:s.moved all x=(s.rowsOf x).map fun rows=>(rows,Yg rows,s):=by
   unfold St.moved
   split<;>simp_all
  rw[this,hr]
  simp only[Option.map_some,hm,hl]
def appK (P:Program) (all:Bool) (s:St) (id:Id) (t:TypeId) (b x:V):KM (V×St):=
 bnd (opt (Zw P t)) fun e=>bnd hear fun o=>match o with
 | .app m lb R n=>bnd (Zev s all x m lb) fun s1=>if Zc P e≠0∧W3 P e=true then bnd (obl (X1 (Zc P e) m=true)) fun _=>
  match b with
  | .lit (.slice none 0 0)=>bnd (obl (m.length*P.bytesOf e≤140737488355328∧m.length≤9223372036854775807)) fun _=>bnd (obl (m=R)) fun _=>bnd (obl (n=R.length)) fun _=>ret (.sl id 0 n,s1.setB id ⟨false,true,lb,e,R⟩)
  | .sl i 0 len=>match s1.heap i with
   | some k=>if k.box=false∧k.own=true∧k.el=e then bnd (obl (len=k.rows.length)) fun _=>bnd (obl ((len+m.length)*P.bytesOf e≤140737488355328∧len+m.length≤9223372036854775807)) fun _=>
     bnd (obl (k.rows++m=R)) fun _=>bnd (obl (n=R.length)) fun _=>ret (.sl id 0 n,(s1.kill i).setB id ⟨false,true,k.cl&&lb,e,R⟩) else fail
   | none=>fail
  | _=>fail
  else fail
 | _=>fail
theorem Znb {all:Bool} {s:St} {id:Id} {t:TypeId} {b x:V}:KS (appK P all s id t b x) (Xw P all s id t b x):=by
 unfold appK Xw
 refine Xb Qm fun e=>Za Z0 (fun o _=>?_)
 split
 ·rename_i m lb R n
  refine Za Zkr (fun s1 hm=>Zu (fun hz=>Za Zg (fun _ ha=>?_)) (fun _=>Zb))
  rw[hm,Option.bind_some,if_pos ⟨ha,hz.1,hz.2⟩]
  split
  ·refine Za Zg (fun _ h1=>Za Zg (fun _ h2=>Za Zg (fun _ h3=>Ze ?_)))
   rw[if_pos h1,h3,h2]
   rfl
  ·rename_i i len
   simp only
   split
   ·rename_i k hk
    refine Zu (fun hx=>?_) (fun _=>Zb)
    refine Za Zg (fun _ h0=>Za Zg (fun _ h1=>Za Zg (fun _ h2=>Za Zg (fun _ h3=>Ze ?_))))
    rw[hk,Option.bind_some,if_pos ⟨hx.1,hx.2.1,by omega,hx.2.2,h1⟩,h3,←h2,List.drop_zero,List.length_append,h0]
   ·exact Zb
  ·exact Zb
 ·exact Zb
def Zeg (c:Bool):KM Bool:=bnd hear fun o=>match o with
 | .t e=>bnd (obl (c=e)) fun _=>ret e
 | .k=>ret c
 | _=>fail
theorem Zfl {c:Bool}:KP (Zeg c) (fun e=>c=e):=by
 unfold Zeg
 refine Za Z0 (fun o _=>?_)
 split
 ·exact Za Zg (fun _ h=>Ze h)
 ·exact Ze rfl
 ·exact Zb
def Kh (p:Prop) [Decidable p]:KM Unit:=bnd hear fun o=>match o with
 | .k=>if p then ret () else fail
 | .obl=>obl p
 | _=>fail
theorem Qq {p:Prop} [Decidable p]:KP (Kh p) (fun _=>p):=by
 unfold Kh
 refine Za Z0 (fun o _=>?_)
 split
 ·exact Zu (fun h=>Ze h) (fun _=>Zb)
 ·exact Zg
 ·exact Zb
def Zii (op:BinOp) (k k':IntKind) (a b:Int):KM V:=
 match op with
 | .shl=>bnd (Kh (0≤b)) fun _=>ret (.lit (.int k (k.wrap (a*2^min b.toNat k.bits))))
 | .shr=>bnd (Kh (0≤b)) fun _=>ret (.lit (.int k (a.fdiv (2^min b.toNat k.bits))))
 | .quo=>if k=k' then bnd (Kh (b≠0)) fun _=>ret (.lit (.int k (k.wrap (a.tdiv b)))) else fail
 | .rem=>if k=k' then bnd (Kh (b≠0)) fun _=>ret (.lit (.int k (a.tmod b))) else fail
 | op=>opt (binI op k k' a b)
theorem Zlu {op:BinOp} {k k':IntKind} {a b:Int}:KS (Zii op k k' a b) (binI op k k' a b):=by
 unfold Zii
 split
 ·refine Za Qq (fun _ h=>Ze ?_)
  simp only[binI];rw[if_neg (by omega)]
 ·refine Za Qq (fun _ h=>Ze ?_)
  simp only[binI];rw[if_neg (by omega)]
 ·refine Zu (fun hk=>Za Qq (fun _ h=>Ze ?_)) (fun _=>Zb)
  simp only[binI];rw[if_pos hk,if_neg h]
 ·refine Zu (fun hk=>Za Qq (fun _ h=>Ze ?_)) (fun _=>Zb)
  simp only[binI];rw[if_pos hk,if_neg h]
 ·exact Qm
def Zic (op:BinOp) (a b:ByteArray):KM V:=
 match op with
 | .add=>bnd (Kh (¬((a.size+b.size:Nat):Int) > IntKind.i64.max)) fun _=>ret (.lit (.string (a++b)))
 | op=>opt (binS op a b)
theorem Zk1 {op:BinOp} {a b:ByteArray}:KS (Zic op a b) (binS op a b):=by
 unfold Zic
 split
 ·refine Za Qq (fun _ h=>Ze ?_)
  simp only[binS];rw[if_neg h]
 ·exact Qm
def opK (P:Program) (M:Hints) (f:Operand→V) (s:St) (k:Nat) (o:Oper):KM (V×St):=
 match o.op with
 | .binOp op t x y yt=>match f x,f y with
  | .lit (.int k1 a),.lit (.int k2 b)=>bnd (Zii op k1 k2 a b) fun v=>ret (v,s)
  | .lit (.string a),.lit (.string b)=>bnd (Zic op a b) fun v=>ret (v,s)
  | .lit (.bool a),.lit (.bool b)=>match op,P.underlying t with
   | .eql,some .bool=>ret (.lit (.bool (a == b)),s)
   | .neq,some .bool=>ret (.lit (.bool (a != b)),s)
   | _,_=>fail
  | .agg xs,.agg ys=>if (Yh xs).isSome=true∧(Yh ys).isSome=true∧J1 P t xs=true then bnd (opt (Yq xs ys)) fun b=>match op with
   | .eql=>ret (.lit (.bool b),s)
   | .neq=>ret (.lit (.bool (!b)),s)
   | _=>fail
   else fail
  | a,.lit (.slice none 0 0)=>match a with
   | .sl ..|.tr _|.vw _=>if (Zw P t).isSome=true then bnd (W4 s a) fun rows=>bnd (obl (rows≠[])) fun _=>match op with
    | .eql=>ret (.lit (.bool false),s)
    | .neq=>ret (.lit (.bool true),s)
    | _=>fail
    else fail
   | _=>opt (Zi P M Zl f s k o)
  | _,_=>opt (Zi P M Zl f s k o)
 | .buildSlice t n parts=>bnd (opt (Zw P t)) fun e=>bnd (opt (if n*Zc P e=0 then some [] else Y1 P e)) fun z=>
  if Zc P e=0∨n*Zc P e > 1048576∨W3 P e=false then fail else
  bnd (opt (Wv P (fun i=>some (i*Zc P e,Zc P e)) (List.replicate n z).flatten (parts.toList.map fun p=>(p.1,f p.2)))) fun cs=>
   bnd (Zas (Ww (Zc P e) n cs) s) fun y=>ret (.sl (s.ep,1024*k) 0 n,y.2.2.setB (s.ep,1024*k) ⟨false,true,y.2.1,e,y.1⟩)
 | .pick c a b=>match f c with
  | .lit (.bool t)=>bnd (Zeg t) fun e=>if e then ret (f a,s) else ret (f b,s)
  | _=>fail
 | .indexAddr t x ix=>bnd (opt (Zw P t)) fun e=>if Zc P e=0 then fail else bnd hear fun q=>match q with
  | .row n r=>if r.length=Zc P e then bnd (obl (Zs (f ix)=some n)) fun _=>match f x with
   | .sl i off len=>bnd (obl (n < len)) fun _=>match s.heap i with
    | some b=>bnd (obl (b.rows[offN off n]?=some r)) fun _=>ret (.ptr i (offN off n) 0,s)
    | none=>fail
   | .tr rows=>bnd (obl (rows[n]?=some r)) fun _=>ret (.rp true r 0,s)
   | .vw rows=>bnd (obl (rows[n]?=some r)) fun _=>ret (.rp false r 0,s)
   | _=>fail
   else fail
  | _=>fail
 | .load t a=>match f a with
  | .ptr i j n=>match s.heap i with
   | some b=>match b.box with
    | true=>opt (Zi P M Zl f s k o)
    | false=>bnd hear fun q=>match q with
     | .cell row=>bnd (obl (b.rows[j]?=some row)) fun _=>if n+Zc P t≤row.length then bnd (opt (Xj P t ((row.drop n).take (Zc P t)))) fun v=>ret (v,s) else fail
     | _=>fail
   | none=>fail
  | _=>opt (Zi P M Zl f s k o)
 | .store t a x=>match f a with
  | .ptr i j n=>match s.heap i with
   | some b=>match b.box with
    | true=>opt (Zi P M Zl f s k o)
    | false=>bnd hear fun q=>match q with
     | .put row R=>bnd (obl (b.rows[j]?=some row)) fun _=>bnd (opt (W0 (f x))) fun cs=>if b.own=true∧cs.length=Zc P t∧n+Zc P t≤row.length∧Zc P t≠0 then
       bnd (Qw cs s) fun y=>match y.2.2.heap i with
        | some b=>bnd (obl (b.rows.set j (Z6 row n y.1)=R)) fun _=>ret (.undef,y.2.2.setB i ⟨b.box,b.own,b.cl&&y.2.1,b.el,R⟩)
        | none=>fail
       else fail
     | _=>fail
   | none=>fail
  | _=>fail
 | .slice t x lo hi none=>match f x with
  | .sl id off len=>bnd hear fun q=>match q with
   | .num l h n R=>bnd (opt (Zw P t)) fun e=>bnd (W4 s (f x)) fun rows=>bnd (obl (match lo with|some z=>Zs (f z)=some l|none=>l=0)) fun _=>bnd (obl (match hi with|some z=>Zs (f z)=some h|none=>rows.length=h)) fun _=>
    bnd (obl (l≤h∧h≤rows.length)) fun _=>bnd (obl (X1 (Zc P e) rows=true)) fun _=>bnd (obl (n=h - l)) fun _=>if Zc P e≠0 then ret (.sl id (offN off l) n,s) else fail
   | _=>fail
  | .tr _|.vw _=>bnd hear fun q=>match q with
   | .num l h n R=>bnd (opt (Zw P t)) fun e=>bnd (W4 s (f x)) fun rows=>bnd (obl (match lo with|some z=>Zs (f z)=some l|none=>l=0)) fun _=>bnd (obl (match hi with|some z=>Zs (f z)=some h|none=>rows.length=h)) fun _=>
    bnd (obl (l≤h∧h≤rows.length)) fun _=>bnd (obl (X1 (Zc P e) rows=true)) fun _=>bnd (obl ((rows.drop l).take (h - l)=R)) fun _=>if Zc P e≠0 then ret ((match f x with|.tr _=>.tr R|_=>.vw R),s) else fail
   | _=>fail
  | .lit (.string b)=>match P.underlying t with
   | some .string=>bnd hear fun q=>match q with
    | .val (.lit (.string c))=>bnd (obl (ssl b (lo.map f) (hi.map f)=some c)) fun _=>ret (.lit (.string c),s)
    | _=>fail
   | _=>fail
  | _=>opt (Zi P M Zl f s k o)
 | .index t x ix=>match f x with
  | .lit (.string b)=>match P.underlying t with
   | some .string=>bnd hear fun q=>match q with
    | .val (.lit (.int _ m))=>bnd (obl (sidx b (f ix)=some m)) fun _=>ret (.lit (.int .u8 m),s)
    | _=>fail
   | _=>fail
  | _=>opt (Zi P M Zl f s k o)
 | .convert src dst x=>match f x with
  | .sl ..|.tr _|.vw _=>match P.underlying src,P.underlying dst with
   | some (.slice e),some .string=>match P.underlying e with
    | some (.int .u8)=>bnd (W4 s (f x)) fun rows=>bnd hear fun q=>match q with
     | .val (.lit (.string c))=>bnd (obl (strV rows=some c)) fun _=>ret (.lit (.string c),s)
     | _=>fail
    | _=>fail
   | _,_=>fail
  | _=>opt (Zi P M Zl f s k o)
 | .makeSlice t l c=>bnd hear fun q=>match q with
  | .mk n R=>bnd (opt (Zw P t)) fun e=>bnd (opt (Y1 P e)) fun z=>bnd (obl (Zs (f l)=some n)) fun _=>bnd (obl (Zs (f c)=some n)) fun _=>bnd (obl (n*P.bytesOf e≤70368744177664∧n≤9223372036854775807)) fun _=>
   bnd (obl (List.replicate n (z.map Yi)=R)) fun _=>if z.length=Zc P e∧Zc P e≠0 then ret (.sl (s.ep,1024*k) 0 R.length,s.setB (s.ep,1024*k) ⟨false,true,true,e,R⟩) else fail
  | _=>fail
 | .call c=>match c.callee with
  | .value g=>match f g with
   | .fn g caps=>Ziv P M s k g (c.args.toList.map f++caps)
   | _=>fail
  | .builtin .append=>match c.args.toList,c.argTypes.toList with
   | [b,x],[t,t']=>if t=t' then appK P (M.mv o.pos) s (s.ep,1024*k) t (f b) (f x) else fail
   | _,_=>fail
  | .builtin .len=>match c.args.toList,c.argTypes.toList with
   | [x],[t]=>match f x with
    | .sl _ _ n=>bnd hear fun q=>match q with
     | .num m _ _ _=>bnd (obl (n=m)) fun _=>if (Zw P t).isSome=true then ret (.lit (.int .i64 m),s) else fail
     | _=>fail
    | .tr rows|.vw rows=>bnd hear fun q=>match q with
     | .num m _ _ _=>bnd (obl (rows.length=m)) fun _=>if (Zw P t).isSome=true then ret (.lit (.int .i64 m),s) else fail
     | _=>fail
    | _=>opt (Zi P M Zl f s k o)
   | _,_=>fail
  | .builtin .clear=>match c.args.toList,c.argTypes.toList with
   | [x],[t]=>bnd (opt (Zw P t)) fun e=>bnd (opt (Y1 P e)) fun z=>match f x with
    | .sl i off n=>match s.heap i with
     | some b=>bnd hear fun q=>match q with
      | .app R _ _ _=>if b.own=true∧b.box=false∧b.el=e∧z.length=Zc P e∧Zc P e≠0 then bnd (obl (off+n≤b.rows.length)) fun _=>
        bnd (obl (b.rows.take off++List.replicate n (z.map Yi)++b.rows.drop (off+n)=R)) fun _=>ret (.tup [],s.setB i ⟨b.box,b.own,b.cl,b.el,R⟩) else fail
      | _=>fail
     | none=>fail
    | _=>fail
   | _,_=>fail
  | _=>opt (Zi P M Zl f s k o)
 | _=>opt (Zi P M Zl f s k o)
end
section
variable {P:Program} {M:Hints}
def OpOk (P:Program) (M:Hints) (f:Operand→V) (s:St) (k:Nat) (o:Oper) (y:V×St):Prop:=∃C,Yy P M C∧Zi P M C f s k o=some y
theorem Yx (hP:FuncsOk P) {f:Operand→V} {s:St} {k:Nat} {o:Oper}:KP (opt (Zi P M Zl f s k o)) (OpOk P M f s k o):=Yl.mono fun y h=>⟨Zl,Zo hP,h⟩
theorem Zku (hP:FuncsOk P) {f:Operand→V} {s:St} {k:Nat} {d:Option Tmp} {ty t yt:TypeId} {pos:String} {af:Array Edge} {g:Option (Nat×Bool)} {op:BinOp} {x y:Operand}:KP (opK P M f s k ⟨d,.binOp op t x y yt,ty,pos,af,g⟩) (OpOk P M f s k ⟨d,.binOp op t x y yt,ty,pos,af,g⟩):=by
 have base:∀{v:V},binX P op t x y (f x) (f y)=some v→(∃a b,f x=.lit a∧f y=.lit b)→Zi P M Zl f s k ⟨d,.binOp op t x y yt,ty,pos,af,g⟩=some (v,s):=fun {v} h ⟨a,b,h1,h2⟩=>by
  have e:Zt P f ⟨d,.binOp op t x y yt,ty,pos,af,g⟩=some v:=by rw[Zjf];exact h
  simp only[Zi,h1,h2,e,Option.map_some]
 have base2:∀{v:V},binX P op t x y (f x) (f y)=some v→(∃a b,f x=.agg a∧f y=.agg b)→Zi P M Zl f s k ⟨d,.binOp op t x y yt,ty,pos,af,g⟩=some (v,s):=fun {v} h ⟨a,b,h1,h2⟩=>by
  have e:Zt P f ⟨d,.binOp op t x y yt,ty,pos,af,g⟩=some v:=by rw[Zjf];exact h
  simp only[Zi,h1,h2,e,Option.map_some]
 simp only[opK]
 split
 ·rename_i k1 a k2 b h1 h2
  refine Za Zlu (fun v hv=>Ze ⟨Zl,Zo hP,base ?_ ⟨_,_,h1,h2⟩⟩)
  rw[h1,h2,Zl2];exact hv
 ·rename_i a b h1 h2
  refine Za Zk1 (fun v hv=>Ze ⟨Zl,Zo hP,base ?_ ⟨_,_,h1,h2⟩⟩)
  rw[h1,h2,Zlc];exact hv
 ·rename_i a b h1 h2
  split
  ·rename_i h3
   refine Ze ⟨Zl,Zo hP,base ?_ ⟨_,_,h1,h2⟩⟩
   rw[h1,h2,Zly h3]
  ·rename_i h3
   refine Ze ⟨Zl,Zo hP,base ?_ ⟨_,_,h1,h2⟩⟩
   rw[h1,h2,Zlk h3]
  ·exact Zb
 ·rename_i xs ys h1 h2
  refine Zu (fun hc=>Za Yl (fun b hb=>?_)) (fun _=>Zb)
  split
  ·exact Ze ⟨Zl,Zo hP,base2 (by rw[h1,h2,Zkc hc.1 hc.2.1 hc.2.2 hb]) ⟨_,_,h1,h2⟩⟩
  ·exact Ze ⟨Zl,Zo hP,base2 (by rw[h1,h2,Zkn hc.1 hc.2.1 hc.2.2 hb]) ⟨_,_,h1,h2⟩⟩
  ·exact Zb
 ·rename_i hy
  split
  all_goals first
   | exact Yx hP
   | (
     rename_i hx
     refine Zu (fun he=>Za Y6 (fun rows hr=>Za Zg (fun _ hn=>?_))) (fun _=>Zb)
     obtain⟨r,l,rfl⟩:=List.exists_cons_of_ne_nil hn
     have hf:¬(Zw P t).isSome=false:=by rw[he];decide
     split
     ·exact Ze ⟨Zl,Zo hP,by simp only[Zi,hx,hy];rw[if_neg hf];rw[hx] at hr;rw[hr]⟩
     ·exact Ze ⟨Zl,Zo hP,by simp only[Zi,hx,hy];rw[if_neg hf];rw[hx] at hr;rw[hr]⟩
     ·exact Zb)
 ·exact Yx hP
theorem Zdh (hP:FuncsOk P) {f:Operand→V} {s:St} {k:Nat} {d:Option Tmp} {ty t:TypeId} {pos:String} {af:Array Edge} {g:Option (Nat×Bool)} {n:Nat} {parts:Array (Nat×Operand)}:KP (opK P M f s k ⟨d,.buildSlice t n parts,ty,pos,af,g⟩) (OpOk P M f s k ⟨d,.buildSlice t n parts,ty,pos,af,g⟩):=by
 simp only[opK]
 refine Za Yl (fun e he=>Za Yl (fun z hz=>Zu (fun _=>Zb) (fun hc=>Za Yl (fun cs hcs=>Za Zen (fun y hy=>Ze ⟨Zl,Zo hP,?_⟩)))))
 simp only[Zi,he,Option.bind_some,hz]
 rw[if_neg hc,hcs,Option.bind_some,hy]
 rfl
theorem Zli (hP:FuncsOk P) {f:Operand→V} {s:St} {k:Nat} {d:Option Tmp} {ty:TypeId} {pos:String} {af:Array Edge} {g:Option (Nat×Bool)} {c a b:Operand}:KP (opK P M f s k ⟨d,.pick c a b,ty,pos,af,g⟩) (OpOk P M f s k ⟨d,.pick c a b,ty,pos,af,g⟩):=by
 simp only[opK]
 split
 ·rename_i t hc
  refine Za Zfl (fun e he=>?_)
  subst he
  cases t with
  | true=>exact Ze ⟨Zl,Zo hP,by simp only[Zi,hc,if_true]⟩
  | false=>exact Ze ⟨Zl,Zo hP,by simp only[Zi,hc,Bool.false_eq_true,if_false]⟩
 ·exact Zb
theorem Zd6 (hP:FuncsOk P) {f:Operand→V} {s:St} {k:Nat} {d:Option Tmp} {ty t:TypeId} {pos:String} {af:Array Edge} {g:Option (Nat×Bool)} {x ix:Operand}:KP (opK P M f s k ⟨d,.indexAddr t x ix,ty,pos,af,g⟩) (OpOk P M f s k ⟨d,.indexAddr t x ix,ty,pos,af,g⟩):=by
 simp only[opK]
 refine Za Yl (fun e he=>Zu (fun _=>Zb) (fun hz=>Za Z0 (fun o _=>?_)))
 split
 ·rename_i n r
  refine Zu (fun hr=>Za Zg (fun _ hn=>?_)) (fun _=>Zb)
  split
  ·rename_i i off len hx
   refine Za Zg (fun _ hlt=>?_)
   split
   ·rename_i b hb
    refine Za Zg (fun _ hrow=>Ze ⟨Zl,Zo hP,?_⟩)
    rw[Zhp] at hrow ⊢
    simp only[Zi,he,Option.bind_some,hz,if_false,hn,hx,hlt,if_true,hb,hrow,hr]
   ·exact Zb
  ·rename_i rows hx
   refine Za Zg (fun _ hrow=>Ze ⟨Zl,Zo hP,?_⟩)
   simp only[Zi,he,Option.bind_some,hz,if_false,hn,hx,if_true,hrow,hr]
  ·rename_i rows hx
   refine Za Zg (fun _ hrow=>Ze ⟨Zl,Zo hP,?_⟩)
   simp only[Zi,he,Option.bind_some,hz,if_false,hn,hx,if_true,hrow,hr]
  ·exact Zb
 ·exact Zb
theorem Zk7 (hP:FuncsOk P) {f:Operand→V} {s:St} {k:Nat} {d:Option Tmp} {ty t:TypeId} {pos:String} {af:Array Edge} {g:Option (Nat×Bool)} {a:Operand}:KP (opK P M f s k ⟨d,.load t a,ty,pos,af,g⟩) (OpOk P M f s k ⟨d,.load t a,ty,pos,af,g⟩):=by
 simp only[opK]
 split
 ·rename_i i j n ha
  split
  ·rename_i b hb
   split
   ·exact Yx hP
   ·refine Za Z0 (fun o _=>?_)
    split
    ·rename_i row
     refine Za Zg (fun _ hrow=>Zu (fun hl=>Za Yl (fun v hv=>Ze ⟨Zl,Zo hP,?_⟩)) (fun _=>Zb))
     simp only[Zi,ha,hb,Option.bind_some,hrow,hl,if_true,hv,Option.map_some]
    ·exact Zb
  ·exact Zb
 ·exact Yx hP
theorem Zjy (hP:FuncsOk P) {f:Operand→V} {s:St} {k:Nat} {d:Option Tmp} {ty t:TypeId} {pos:String} {af:Array Edge} {g:Option (Nat×Bool)} {a x:Operand}:KP (opK P M f s k ⟨d,.store t a x,ty,pos,af,g⟩) (OpOk P M f s k ⟨d,.store t a x,ty,pos,af,g⟩):=by
 simp only[opK]
 split
 ·rename_i i j n ha
  split
  ·rename_i b hb
   split
   ·exact Yx hP
   ·rename_i hbx
    refine Za Z0 (fun o _=>?_)
    split
    ·rename_i row R
     refine Za Zg (fun _ hrow=>Za Yl (fun cs hcs=>Zu (fun hc=>Za Zfd (fun y hy=>?_)) (fun _=>Zb)))
     split
     ·rename_i b2 hb2
      refine Za Zg (fun _ hR=>Ze ⟨Zl,Zo hP,?_⟩)
      have hc':b.own=true∧cs.length=Zc P t∧n+Zc P t≤row.length∧Zc P t≠0:=hc
      simp only[Zi,ha,hb,Option.bind_some,hrow,hcs]
      rw[if_pos hc',hbx]
      simp only[Bool.false_eq_true,if_false,hy,Option.bind_some,hb2,hR]
     ·exact Zb
    ·exact Zb
  ·exact Zb
 ·exact Zb
def Zeq (x:V) (l h:Nat):Option V:=match x with
 | .sl id off _=>some (.sl id (off+l) (h - l))
 | .tr rows=>some (.tr ((rows.drop l).take (h - l)))
 | .vw rows=>some (.vw ((rows.drop l).take (h - l)))
 | _=>none
theorem Js {s:St} {t e:TypeId} {x:V} {rows:List (List V)} {lo hi:Option Operand} {f:Operand→V} {l h:Nat} (he:Zw P t=some e) (hr:s.rowsOf x=some rows) (hl:match lo with|some z=>Zs (f z)=some l|none=>l=0) (hh:match hi with|some z=>Zs (f z)=some h|none=>rows.length=h)
  (h1:l≤h∧h≤rows.length) (h2:X1 (Zc P e) rows=true) (h3:Zc P e≠0):Wn P s t x (lo.map f) (hi.map f)=Zeq x l h:=by
 have key:∀(a b:Option Nat),a=some l→b=some h→(a.bind fun l=>b.bind fun h=>if l≤h∧h≤rows.length∧X1 (Zc P e) rows=true∧Zc P e≠0 then Zeq x l h else none)=Zeq x l h:=by
  rintro _ _ rfl rfl
  simp only[Option.bind_some]
  rw[if_pos ⟨h1.1,h1.2,h2,h3⟩]
 unfold Wn
 rw[he,Option.bind_some,hr,Option.bind_some]
 refine key _ _ ?_ ?_
 ·cases lo with
  | none=>simp only at hl;rw[hl];rfl
  | some z=>exact hl
 ·cases hi with
  | none=>simp only at hh;rw[←hh];rfl
  | some z=>exact hh
theorem Zkq (hP:FuncsOk P) {f:Operand→V} {s:St} {k:Nat} {d:Option Tmp} {ty t:TypeId} {pos:String} {af:Array Edge} {g:Option (Nat×Bool)} {x:Operand} {lo hi mx:Option Operand}:KP (opK P M f s k ⟨d,.slice t x lo hi mx,ty,pos,af,g⟩) (OpOk P M f s k ⟨d,.slice t x lo hi mx,ty,pos,af,g⟩):=by
 cases mx with
 | some m=>exact Yx hP
 | none=>
  simp only[opK]
  split
  ·rename_i id off len hx
   refine Za Z0 (fun o _=>?_)
   split
   ·rename_i l h n R
    refine Za Yl (fun e he=>Za Y6 (fun rows hr=>Za Zg (fun _ hl=>Za Zg (fun _ hh=>Za Zg (fun _ h1=>Za Zg (fun _ h2=>Za Zg (fun _ h4=>Zu (fun h3=>Ze ⟨Zl,Zo hP,?_⟩) (fun _=>Zb))))))))
    simp only[Zi,Js he hr hl hh h1 h2 h3]
    rw[hx,h4,Zhp]
    rfl
   ·exact Zb
  ·rename_i rws hx
   refine Za Z0 (fun o _=>?_)
   split
   ·rename_i l h n R
    refine Za Yl (fun e he=>Za Y6 (fun rows hr=>Za Zg (fun _ hl=>Za Zg (fun _ hh=>Za Zg (fun _ h1=>Za Zg (fun _ h2=>Za Zg (fun _ h4=>Zu (fun h3=>Ze ⟨Zl,Zo hP,?_⟩) (fun _=>Zb))))))))
    simp only[Zi,Js he hr hl hh h1 h2 h3]
    rw[hx] at hr ⊢
    have:rws=rows:=by simpa [St.rowsOf] using hr
    rw[←h4,←this]
    rfl
   ·exact Zb
  ·rename_i rws hx
   refine Za Z0 (fun o _=>?_)
   split
   ·rename_i l h n R
    refine Za Yl (fun e he=>Za Y6 (fun rows hr=>Za Zg (fun _ hl=>Za Zg (fun _ hh=>Za Zg (fun _ h1=>Za Zg (fun _ h2=>Za Zg (fun _ h4=>Zu (fun h3=>Ze ⟨Zl,Zo hP,?_⟩) (fun _=>Zb))))))))
    simp only[Zi,Js he hr hl hh h1 h2 h3]
    rw[hx] at hr ⊢
    have:rws=rows:=by simpa [St.rowsOf] using hr
    rw[←h4,←this]
    rfl
   ·exact Zb
  ·rename_i b hx
   split
   ·rename_i ht
    refine Za Z0 (fun q _=>?_)
    split
    ·rename_i c
     refine Za Zg (fun _ hc=>Ze ⟨Zl,Zo hP,?_⟩)
     simp only[Zi,hx,Zkt ht hx hc,Option.map_some]
    ·exact Zb
   ·exact Zb
  ·exact Yx hP
theorem Zj7 (hP:FuncsOk P) {f:Operand→V} {s:St} {k:Nat} {d:Option Tmp} {ty t:TypeId} {pos:String} {af:Array Edge} {g:Option (Nat×Bool)} {x ix:Operand}:KP (opK P M f s k ⟨d,.index t x ix,ty,pos,af,g⟩) (OpOk P M f s k ⟨d,.index t x ix,ty,pos,af,g⟩):=by
 simp only[opK]
 split
 ·rename_i b hx
  split
  ·rename_i ht
   refine Za Z0 (fun q _=>?_)
   split
   ·rename_i k' m
    refine Za Zg (fun _ hm=>Ze ⟨Zl,Zo hP,?_⟩)
    simp only[Zi,Zlq ht hx hm,Option.map_some]
   ·exact Zb
  ·exact Zb
 ·exact Yx hP
theorem Zf1 (hP:FuncsOk P) {f:Operand→V} {s:St} {k:Nat} {d:Option Tmp} {ty src dst:TypeId} {pos:String} {af:Array Edge} {g:Option (Nat×Bool)} {x:Operand}:KP (opK P M f s k ⟨d,.convert src dst x,ty,pos,af,g⟩) (OpOk P M f s k ⟨d,.convert src dst x,ty,pos,af,g⟩):=by
 simp only[opK]
 split
 all_goals first
  | exact Yx hP
  | (
    rename_i hx
    split
    ·rename_i e h1 h2
     split
     ·rename_i h3
      refine Za Y6 (fun rows hr=>Za Z0 (fun q _=>?_))
      split
      ·rename_i c
       refine Za Zg (fun _ hc=>Ze ⟨Zl,Zo hP,?_⟩)
       unfold strV at hc
       obtain⟨bs,hb,hc⟩:=Option.map_eq_some_iff.1 hc
       rw[hx] at hr
       simp only[Zi,hx,h1,h2,h3,hr,hb,Option.bind_some,Option.map_some,hc]
      ·exact Zb
     ·exact Zb
    ·exact Zb)
theorem Zd9 (hP:FuncsOk P) {f:Operand→V} {s:St} {k:Nat} {d:Option Tmp} {ty t:TypeId} {pos:String} {af:Array Edge} {g:Option (Nat×Bool)} {l c:Operand}:KP (opK P M f s k ⟨d,.makeSlice t l c,ty,pos,af,g⟩) (OpOk P M f s k ⟨d,.makeSlice t l c,ty,pos,af,g⟩):=by
 simp only[opK]
 refine Za Z0 (fun o _=>?_)
 split
 ·rename_i n R
  refine Za Yl (fun e he=>Za Yl (fun z hz=>Za Zg (fun _ hl=>Za Zg (fun _ hc=>Za Zg (fun _ h1=>Za Zg (fun _ hR=>Zu (fun h2=>Ze ⟨Zl,Zo hP,?_⟩) (fun _=>Zb)))))))
  simp only[Zi,he,hz,Option.bind_some,hl,hc]
  rw[if_pos ⟨by trivial,h1.1,h1.2,h2.1,h2.2⟩,hR,←hR,List.length_replicate]
 ·exact Zb
theorem Zlf (hP:FuncsOk P) {f:Operand→V} {s:St} {k:Nat} {d:Option Tmp} {ty:TypeId} {pos:String} {af:Array Edge} {g:Option (Nat×Bool)} {c:Call}:KP (opK P M f s k ⟨d,.call c,ty,pos,af,g⟩) (OpOk P M f s k ⟨d,.call c,ty,pos,af,g⟩):=by
 simp only[opK]
 split
 ·rename_i x hc
  split
  ·rename_i h caps hx
   refine (Zl4 hP).mono fun y ⟨C,h1,h2⟩=>⟨C,h1,?_⟩
   simp only[Zi,hc,hx,h2]
  ·exact Zb
 ·rename_i hc
  split
  ·rename_i b x t t' ha ht
   refine Zu (fun he=>Znb.kp.mono fun y hy=>⟨Zl,Zo hP,?_⟩) (fun _=>Zb)
   simp only[Zi,hc,ha,ht,he,if_true]
   rw[←he];exact hy
  ·exact Zb
 ·rename_i hc
  split
  ·rename_i x t ha ht
   split
   ·rename_i i off n hx
    refine Za Z0 (fun o _=>?_)
    split
    ·refine Za Zg (fun _ hn=>Zu (fun he=>Ze ⟨Zl,Zo hP,?_⟩) (fun _=>Zb))
     simp only[Zi,hc,ha,ht,hx,he,if_true,hn]
    ·exact Zb
   ·rename_i rows hx
    refine Za Z0 (fun o _=>?_)
    split
    ·refine Za Zg (fun _ hn=>Zu (fun he=>Ze ⟨Zl,Zo hP,?_⟩) (fun _=>Zb))
     simp only[Zi,hc,ha,ht,hx,he,if_true,hn]
    ·exact Zb
   ·rename_i rows hx
    refine Za Z0 (fun o _=>?_)
    split
    ·refine Za Zg (fun _ hn=>Zu (fun he=>Ze ⟨Zl,Zo hP,?_⟩) (fun _=>Zb))
     simp only[Zi,hc,ha,ht,hx,he,if_true,hn]
    ·exact Zb
   ·exact Yx hP
  ·exact Zb
 ·rename_i hc
  split
  ·rename_i x t ha ht
   refine Za Yl (fun e he=>Za Yl (fun z hz=>?_))
   split
   ·rename_i i off n hx
    split
    ·rename_i b hb
     refine Za Z0 (fun o _=>?_)
     split
     ·refine Zu (fun h=>Za Zg (fun _ h1=>Za Zg (fun _ h2=>Ze ⟨Zl,Zo hP,?_⟩))) (fun _=>Zb)
      simp only[Zi,hc,ha,ht,hx,he,hz,hb,Option.bind_some]
      rw[if_pos ⟨h.1,h.2.1,h1,h.2.2.1,h.2.2.2.1,h.2.2.2.2⟩,h2]
     ·exact Zb
    ·exact Zb
   ·exact Zb
  ·exact Zb
 ·exact Yx hP
theorem Zkp (hP:FuncsOk P) {f:Operand→V} {s:St} {k:Nat} {o:Oper}:KP (opK P M f s k o) (OpOk P M f s k o):=by
 obtain⟨d,op,ty,pos,af,g⟩:=o
 cases op with
 | binOp op t x y yt=>exact Zku hP
 | pick c a b=>exact Zli hP
 | buildSlice t n parts=>exact Zdh hP
 | indexAddr t x ix=>exact Zd6 hP
 | load t a=>exact Zk7 hP
 | store t a x=>exact Zjy hP
 | slice t x lo hi mx=>exact Zkq hP
 | makeSlice t l c=>exact Zd9 hP
 | index t x ix=>exact Zj7 hP
 | convert src dst x=>exact Zf1 hP
 | call c=>exact Zlf hP
 | _=>simp only[opK];exact Yx hP
def Zcx (s:St) (ops:Array Oper) (o:Oper):KM (Bool×St):=
 match o.guard with
 | none=>ret (true,s)
 | some (j,b)=>match (ops[j]?).bind (·.dst) with
  | some d=>match s.env d with
   | .lit (.bool c)=>bnd hear fun o=>match o with
    | .t e=>bnd (obl (c=e)) fun _=>ret (e == b,⟨upd s.env d (.lit (.bool e)),s.heap,s.ep⟩)
    | .k=>ret (c == b,s)
    | _=>fail
   | .tup []=>ret (false,s)
   | _=>fail
  | none=>fail
theorem Zdr {s:St} {ops:Array Oper} {o:Oper}:KP (Zcx s ops o) (fun y=>wanted s ops o=some y.1∧y.2=s):=by
 unfold Zcx wanted
 cases o.guard with
 | none=>exact Ze ⟨rfl,rfl⟩
 | some p=>
  obtain⟨j,b⟩:=p
  simp only
  cases hd:(ops[j]?).bind (·.dst) with
  | none=>exact Zb
  | some d=>
   simp only[Option.map_some]
   cases he:s.env d with
   | lit v=>cases v with
    | bool c=>
     refine Za Z0 (fun q _=>?_)
     cases q with
     | t e=>
      refine Za Zg (fun _ hc=>Ze ⟨by subst hc;rfl,?_⟩)
      have:upd s.env d (.lit (.bool e))=s.env:=by
       funext t
       unfold upd
       split
       ·rename_i h;rw[h,he,hc]
       ·rfl
      rw[this]
     | k=>exact Ze ⟨rfl,rfl⟩
     | _=>exact Zb
    | _=>exact Zb
   | tup l=>cases l with
    | nil=>exact Ze ⟨rfl,rfl⟩
    | cons x l=>exact Zb
   | _=>exact Zb
def opsK (P:Program) (M:Hints) (ops:Array Oper):(k:Nat)→List Oper→(s:St)→KM St
 | _,[],s=>ret s
 | k,o::rest,s=>bnd (Zcx s ops o) fun g=>if g.1 then bnd (opK P M g.2.opV g.2 k o) fun y=>opsK P M ops (k+1) rest (y.2.put o.dst y.1) else opsK P M ops (k+1) rest (g.2.put o.dst (.tup []))
theorem Zgx {C C':Nat→Zy} {ops:Array Oper}:∀(l:List Oper) {k:Nat} {s:St},(∀j,k≤j→C j=C' j)→Y8 P M C ops s k l=Y8 P M C' ops s k l:=by
 intro l
 induction l with
 | nil=>intros;rfl
 | cons o l ih=>
  intro k s h
  simp only[Y8,h k (Nat.le_refl _)]
  simp only[fun s=>ih (k:=k+1) (s:=s) (fun j hj=>h j (by omega))]
theorem Ze7 {C C':Nat→Zy} {ops:Array Oper}:∀(l:List Oper) {k:Nat} {s:St} {recs:List Rec},(∀j,k≤j→C j=C' j)→Yn P M C ops s recs k l=Yn P M C' ops s recs k l:=by
 intro l
 induction l with
 | nil=>intros;rfl
 | cons o l ih=>
  intro k s recs h
  simp only[Yn,h k (Nat.le_refl _)]
  simp only[fun s recs=>ih (k:=k+1) (s:=s) (recs:=recs) (fun j hj=>h j (by omega))]
def setC (C:Nat→Zy) (k:Nat) (D:Zy):Nat→Zy:=fun j=>if j=k then D else C j
theorem Zm7 (hP:FuncsOk P) {ops:Array Oper}:∀(l:List Oper) {k:Nat} {s:St},KP (opsK P M ops k l s) (fun s'=>∃C:Nat→Zy,(∀j,Yy P M (C j))∧Y8 P M C ops s k l=some s'):=by
 intro l
 induction l with
 | nil=>intro k s;exact Ze ⟨fun _=>Zl,fun _=>Zo hP,rfl⟩
 | cons o l ih=>
  intro k s
  simp only[opsK,Y8]
  refine Za Zdr (fun g hg=>?_)
  obtain⟨g,s0⟩:=g
  obtain⟨hg,hs0⟩:=hg
  simp only at hg hs0
  subst hs0
  cases g with
  | true=>
   simp only[if_true]
   refine Za (Zkp hP) (fun y hy=>ih.mono fun s' ⟨C,h1,h2⟩=>?_)
   obtain⟨D,d1,d2⟩:=hy
   refine⟨setC C k D,fun j=>?_,?_⟩
   ·unfold setC;split
    ·exact d1
    ·exact h1 j
   ·rw[hg]
    simp only[Option.bind_some,if_true,setC]
    unfold evOp
    rw[d2,Option.bind_some,←h2]
    exact Zgx l (fun j hj=>by simp only[setC];rw[if_neg (by omega)])
  | false=>
   simp only[Bool.false_eq_true,if_false]
   refine ih.mono fun s' ⟨C,h1,h2⟩=>⟨C,h1,?_⟩
   rw[hg]
   exact h2
def Zci (P:Program) (M:Hints) (ops:Array Oper):(recs:List Rec)→(k:Nat)→List Oper→(s:St)→KM St
 | _,_,[],s=>ret s
 | recs,k,o::rest,s=>bnd (Zcx s ops o) fun g=>if g.1 then (if X7 ops g.2.ep recs (Qf recs o) k o (touch g.2 o) (Xz M g.2.opV o)=true then
   bnd (opK P M g.2.opV (g.2.only (touch g.2 o)) k o) fun y=>Zci P M ops (recs++[⟨Qf recs o,touch g.2 o,Xz M g.2.opV o⟩]) (k+1) rest ((g.2.merge k (touch g.2 o) (Xz M g.2.opV o) y.2).put o.dst y.1) else fail)
  else if X7 ops g.2.ep recs (Qf recs o) k o [] false=true then Zci P M ops (recs++[⟨Qf recs o,[],false⟩]) (k+1) rest (g.2.put o.dst (.tup [])) else fail
theorem Zld (hP:FuncsOk P) {ops:Array Oper}:∀(l:List Oper) {k:Nat} {s:St} {recs:List Rec},KP (Zci P M ops recs k l s) (fun s'=>∃C:Nat→Zy,(∀j,Yy P M (C j))∧Yn P M C ops s recs k l=some s'):=by
 intro l
 induction l with
 | nil=>intro k s recs;exact Ze ⟨fun _=>Zl,fun _=>Zo hP,rfl⟩
 | cons o l ih=>
  intro k s recs
  simp only[Zci,Yn]
  refine Za Zdr (fun g hg=>?_)
  obtain⟨g,s0⟩:=g
  obtain⟨hg,hs0⟩:=hg
  simp only at hg hs0
  subst hs0
  cases g with
  | true=>
   simp only[if_true]
   refine Zu (fun ha=>Za (Zkp hP) (fun y hy=>ih.mono fun s' ⟨C,h1,h2⟩=>?_)) (fun _=>Zb)
   obtain⟨D,d1,d2⟩:=hy
   refine⟨setC C k D,fun j=>?_,?_⟩
   ·unfold setC;split
    ·exact d1
    ·exact h1 j
   ·rw[hg]
    simp only[Option.bind_some,if_true,setC,ha]
    rw[d2,Option.bind_some,←h2]
    exact Ze7 l (fun j hj=>by simp only[setC];rw[if_neg (by omega)])
  | false=>
   simp only[Bool.false_eq_true,if_false]
   refine Zu (fun ha=>ih.mono fun s' ⟨C,h1,h2⟩=>⟨C,h1,?_⟩) (fun _=>Zb)
   rw[hg]
   simp only[Option.bind_some,Bool.false_eq_true,if_false,ha,if_true]
   exact h2
end
inductive It where
 | c (x:Code)
 | blk (i:Nat)
def SX (P:Program) (R:Ex→St→Prop):List It→Ex→St→Prop
 | [],e,s=>R e s
 | .c x::k,.normal,s=>Cx P x s (fun e s=>SX P R k e s)
 | .c x::k,.ret,s=>SX P R k .ret s
 | .c x::k,.exit j,s=>SX P R k (.exit j) s
 | .blk i::k,.exit j,s=>if j=i then SX P R k .normal s else SX P R k (.exit j) s
 | .blk i::k,.normal,s=>SX P R k .normal s
 | .blk i::k,.ret,s=>SX P R k .ret s
structure Res where
 stk:List It
 ex:Ex
 st:St
def mach (P:Program) (M:Hints):(n:Nat)→List It→Ex→(s:St)→KM Res
 | 0,stk,ex,s=>ret ⟨stk,ex,s⟩
 | n+1,stk,ex,s=>match stk with
  | []=>ret ⟨[],ex,s⟩
  | .blk i::k=>match ex with
   | .exit j=>if j=i then mach P M n k .normal s else mach P M n k (.exit j) s
   | .normal=>mach P M n k .normal s
   | .ret=>mach P M n k .ret s
  | .c x::k=>match ex with
   | .ret=>mach P M n k .ret s
   | .exit j=>mach P M n k (.exit j) s
   | .normal=>match x with
    | .skip=>mach P M n k .normal s
    | .ret=>mach P M n k .ret s
    | .exit i=>mach P M n k (.exit i) s
    | .seq a b=>mach P M n (.c a::.c b::k) .normal s
    | .cond c a b=>match s.opV c with
     | .lit (.bool t)=>bnd (Zeg t) fun e=>if e then mach P M n (.c a::k) .normal s else mach P M n (.c b::k) .normal s
     | _=>fail
    | .block i c=>mach P M n (.c c::.blk i::k) .normal s
    | .loop c=>mach P M n (.c c::.c (.loop c)::k) .normal s
    | .region _ ops d=>match d with
     | false=>bnd (opsK P M ops 0 ops.toList ⟨s.env,s.heap,s.ep+1⟩) fun s'=>mach P M n k .normal s'
     | true=>if Region.noSelect ops=true then bnd (Zci P M ops [] 0 ops.toList ⟨s.env,s.heap,s.ep+1⟩) fun s'=>mach P M n k .normal s' else fail
    | _=>fail
section
variable {P:Program} {M:Hints} {R:Ex→St→Prop}
theorem Zmn (M:Hints) (hP:FuncsOk P) {k:List It} {S:St} {i:Nat} {d0 d1:Tmp} {x0 y:Operand} {t yt e ty0 ty1:TypeId} {p0 p1:String} {af0 af1:Array Edge} (hte:Zw P t=some e) (hx:S.opV x0=.tr []) (hy:(({S with ep:=S.ep+1}:St).put (some d0) (.tr [])).opV y=.lit (.slice none 0 0))
  (h:∀b,SX P R k .normal ((({S with ep:=S.ep+1}:St).put (some d0) (.tr [])).put (some d1) (.lit (.bool b)))):
  SX P R (.c (.region i #[⟨some d0,.move x0,ty0,p0,af0,none⟩,⟨some d1,.binOp .eql t (.tmp d0) y yt,ty1,p1,af1,none⟩] false)::k) .normal S:=
 Zmw M hP (R:=fun e s=>SX P R k e s) hte hx hy h
def Zj1:List It→Option (Operand×Tmp×Tmp×TypeId×Operand×List It)
 | .c (.region _ ops false)::k=>match ops.toList with
  | [⟨some d0,.move x0,_,_,_,none⟩,⟨some d1,.binOp .eql t (.tmp d) y _,_,_,_,none⟩]=>if d=d0 then some (x0,d0,d1,t,y,k) else none
  | _=>none
 | _=>none
theorem Zlo (M:Hints) (hP:FuncsOk P) {stk k:List It} {S:St} {d0 d1:Tmp} {x0 y:Operand} {t e:TypeId} (hs:Zj1 stk=some (x0,d0,d1,t,y,k)) (hte:Zw P t=some e) (hx:S.opV x0=.tr []) (hy:(({S with ep:=S.ep+1}:St).put (some d0) (.tr [])).opV y=.lit (.slice none 0 0))
  (h:∀b,SX P R k .normal ((({S with ep:=S.ep+1}:St).put (some d0) (.tr [])).put (some d1) (.lit (.bool b)))):SX P R stk .normal S:=by
 unfold Zj1 at hs
 split at hs
 ·rename_i i ops k'
  split at hs
  ·rename_i c0 z0 ty0 p0 af0 c1 u d z yt ty1 p1 af1 hl
   split at hs
   ·rename_i hd
    simp only[Option.some.injEq,Prod.mk.injEq] at hs
    obtain⟨rfl,rfl,rfl,rfl,rfl,rfl⟩:=hs
    subst hd
    obtain rfl:ops=#[⟨some d,.move z0,ty0,p0,af0,none⟩,⟨some c1,.binOp .eql u (.tmp d) z yt,ty1,p1,af1,none⟩]:=by
     apply Array.toList_inj.1;rw[hl]
    exact Zmn M hP hte hx hy h
   ·cases hs
  ·cases hs
 ·cases hs
theorem Zmm (hP:FuncsOk P):∀(n:Nat) {stk:List It} {ex:Ex} {s:St},KP (mach P M n stk ex s) (fun r=>SX P R r.stk r.ex r.st→SX P R stk ex s):=by
 intro n
 induction n with
 | zero=>intro stk ex s;exact Ze id
 | succ n ih=>
  intro stk ex s
  simp only[mach]
  split
  ·exact Ze id
  ·rename_i i k
   split
   ·rename_i j
    refine Zu (fun hj=>ih.mono fun r hr h=>?_) (fun hj=>ih.mono fun r hr h=>?_)
    ·simp only[SX];rw[if_pos hj];exact hr h
    ·simp only[SX];rw[if_neg hj];exact hr h
   ·exact ih.mono fun r hr h=>hr h
   ·exact ih.mono fun r hr h=>hr h
  ·rename_i x k
   split
   ·exact ih.mono fun r hr h=>hr h
   ·exact ih.mono fun r hr h=>hr h
   ·split
    ·exact ih.mono fun r hr h=>Zm6 (hr h)
    ·exact ih.mono fun r hr h=>Cx_ret (hr h)
    ·exact ih.mono fun r hr h=>Zmg (hr h)
    ·refine ih.mono fun r hr h=>Cx_seq (Zdl (hr h) fun e s h=>?_)
     cases e<;>exact h
    ·rename_i c a b
     split
     ·rename_i t hc
      refine Za Zfl (fun e he=>?_)
      subst he
      cases t with
      | true=>exact ih.mono fun r hr h=>Zhi hc (hr h)
      | false=>exact ih.mono fun r hr h=>Zhi hc (hr h)
     ·exact Zb
    ·rename_i i c
     refine ih.mono fun r hr h=>Zlg (Zdl (hr h) fun e s h=>?_)
     cases e<;>exact h
    ·rename_i c
     refine ih.mono fun r hr h=>Zmq (Zdl (hr h) fun e s h=>?_)
     cases e<;>exact h
    ·rename_i i ops d
     split
     ·refine Za (Zm7 hP _) (fun s' hs=>ih.mono fun r hr h=>?_)
      obtain⟨C,h1,h2⟩:=hs
      exact Cx_ops hP C h1 h2 (hr h)
     ·refine Zu (fun hn=>Za (Zld hP _) (fun s' hs=>ih.mono fun r hr h=>?_)) (fun _=>Zb)
      obtain⟨C,h1,h2⟩:=hs
      exact Zmi hP C h1 hn h2 (hr h)
    ·exact Zb
theorem Zek (hP:FuncsOk P) (n:Nat) {stk:List It} {ex:Ex} {s:St}:KP (mach P M n stk ex s) (fun r=>∀R,SX P R r.stk r.ex r.st→SX P R stk ex s):=fun q a obs q' e ho R=>Zmm hP n q a obs q' e ho
def endK (P:Program) (M:Hints) (f:FuncId) (fn:Func) (xs:List V) (r:Res):KM (V×List V):=match r.stk with
 | []=>match r.ex with
  | .exit _=>fail
  | .normal=>retK P M f fn xs r.st
  | .ret=>retK P M f fn xs r.st
 | _=>fail
def runK (P:Program) (M:Hints) (f:FuncId) (fn:Func) (xs:List V) (n:Nat) (stk:List It) (s:St):KM (V×List V):=
 bnd (mach P M n stk .normal s) (endK P M f fn xs)
theorem Zmp (hP:FuncsOk P) {f:FuncId} {fn:Func} {xs:List V} {n:Nat} {stk:List It} {s:St}:KP (runK P M f fn xs n stk s) (fun y=>SX P (RetC P M f fn xs y) stk .normal s):=by
 refine Za (Zek hP n) (fun r hr=>?_)
 obtain⟨st,ex,s1⟩:=r
 unfold endK
 cases st with
 | cons x l=>exact Zb
 | nil=>cases ex with
  | exit i=>exact Zb
  | normal=>exact Zhg.kp.mono fun y hy=>hr _ ⟨trivial,hy⟩
  | ret=>exact Zhg.kp.mono fun y hy=>hr _ ⟨trivial,hy⟩
def told {α:Type} (x:Option (α×List Prop×List O)):Option (Prop×α):=match x with|some (a,obs,[])=>some (All obs,a)|_=>none
theorem Zhf {α:Type} {x:KM α} {q:List O} {Q:α→Prop} {p:Prop} {a:α} (h:KP x Q) (e:told (x q)=some (p,a)) (hp:p):Q a:=by
 unfold told at e
 split at e
 ·rename_i b obs hx
  injection e with e
  injection e with e1 e2
  subst e2
  exact h q _ _ _ hx (by rw[e1];exact hp)
 ·cases e
theorem Zhq (hP:FuncsOk P) {f:FuncId} {fn:Func} {xs:List V} {y:V×List V} {stk:List It} {s:St} {p:Prop} (n:Nat) (q:List O) (hp:p) (e:told (runK P M f fn xs n stk s q)=some (p,y)):SX P (RetC P M f fn xs y) stk .normal s:=
 Zhf (x:=runK P M f fn xs n stk s) (Q:=fun y=>SX P (RetC P M f fn xs y) stk .normal s) (Zmp hP) e hp
def ren1 (f:List (Id×Id)):V→V
 | .ptr id i off=>match renI f id with|some id'=>.ptr id' i off|none=>.undef
 | .sl id off len=>match renI f id with|some id'=>.sl id' off len|none=>(match off,len with|0,0=>.lit (.slice none 0 0)|_,_=>.undef)
 | .lit v=>.lit v
 | .tr rows=>.tr rows
 | .vw rows=>.vw rows
 | .rp sh row off=>.rp sh row off
 | _=>.undef
def renV (f:List (Id×Id)):V→V
 | .agg xs=>.agg (xs.map (ren1 f))
 | .tup xs=>.tup (xs.map (ren1 f))
 | .fn g xs=>.fn g (xs.map (ren1 f))
 | x=>ren1 f x
theorem Zdj {f:List (Id×Id)} {x:V} (h:ren1 f x≠.undef∨x=.undef):VR1 f x (ren1 f x):=by
 cases x with
 | undef=>trivial
 | ptr id i off=>
  simp only[ren1] at h ⊢
  split
  ·rename_i id' hr;exact⟨hr,rfl,rfl⟩
  ·rename_i hr;rw[hr] at h;simp at h
 | sl id off len=>
  simp only[ren1] at h ⊢
  split
  ·rename_i id' hr;exact⟨hr,rfl,rfl⟩
  ·rename_i hr
   rw[hr] at h
   simp only at h
   split
   ·exact⟨hr,rfl,rfl⟩
   ·rename_i hne
    exfalso
    split at h
    ·rename_i h1 h2;exact hne rfl rfl
    ·simp at h
 | lit v=>rfl
 | tr rows=>rfl
 | vw rows=>rfl
 | rp sh row off=>rfl
 | agg _=>simp[ren1] at h
 | tup _=>simp[ren1] at h
 | fn _ _=>simp[ren1] at h
 | own _ _=>simp[ren1] at h
 | obx _=>simp[ren1] at h
def okV:V→Bool|.undef=>false|_=>true
theorem okV_ne {x:V} (h:okV x=true):x≠.undef:=by rintro rfl;cases h
theorem Zbc {f:List (Id×Id)}:∀{xs:List V},(xs.map (ren1 f)).all okV=true→VRs f xs (xs.map (ren1 f)):=by
 intro xs
 induction xs with
 | nil=>intro _;trivial
 | cons x xs ih=>
  intro h
  simp only[List.map_cons,List.all_cons,Bool.and_eq_true] at h
  exact⟨Zdj (.inl (okV_ne h.1)),ih h.2⟩
def okVs:V→Bool
 | .agg xs|.tup xs|.fn _ xs=>xs.all okV
 | x=>okV x
theorem Zmh {f:List (Id×Id)} {x:V} (h:okVs (renV f x)=true):VR f x (renV f x):=by
 cases x with
 | agg xs=>exact Zbc h
 | tup xs=>exact Zbc h
 | fn g xs=>exact⟨rfl,Zbc h⟩
 | undef=>trivial
 | lit v=>rfl
 | tr rows=>rfl
 | vw rows=>rfl
 | rp sh row off=>rfl
 | own e rows=>cases h
 | obx cs=>cases h
 | ptr id i off=>exact Zdj (x:=.ptr id i off) (.inl fun e=>by have h2:okVs (ren1 f (.ptr id i off))=true:=h;rw[e] at h2;cases h2)
 | sl id off len=>exact Zdj (x:=.sl id off len) (.inl fun e=>by have h2:okVs (ren1 f (.sl id off len))=true:=h;rw[e] at h2;cases h2)
def renB (f:List (Id×Id)) (p:Id×Blk):Option Blk:=match renI f p.1 with
 | none=>none
 | some _=>some ⟨p.2.box,p.2.own,p.2.cl,(if p.2.box then 0 else p.2.el),if p.2.box then p.2.rows.map (fun r=>r.map (ren1 f)) else p.2.rows⟩
def wasB (f:List (Id×Id)) (S:St) (p:Id×Blk):Option Blk:=match renI f p.1 with
 | none=>none
 | some id'=>(S.heap id').map fun c=>⟨c.box,c.own,c.cl,(if c.box then 0 else c.el),c.rows⟩
def newB (f:List (Id×Id)) (p:Id×Blk):Bool:=match renI f p.1 with
 | none=>!p.2.box&&p.2.own&&(match p.2.rows with|[]=>true|_=>false)
 | some _=>if p.2.box then (match p.2.rows with|[r]=>(r.map (ren1 f)).all okV|_=>false) else true
theorem Zm4 {f:List (Id×Id)} {S:St} {p:Id×Blk} (h:wasB f S p=renB f p) (hn:newB f p=true):BR f S p.1 p.2:=by
 obtain⟨id,b⟩:=p
 unfold BR
 unfold wasB renB at h
 unfold newB at hn
 simp only at h hn ⊢
 split
 ·rename_i hr
  rw[hr] at hn
  simp only[Bool.and_eq_true,Bool.not_eq_true'] at hn
  refine⟨hn.1.1,hn.1.2,?_⟩
  cases hb:b.rows with
  | nil=>rfl
  | cons x l=>rw[hb] at hn;simp at hn
 ·rename_i id' hr
  rw[hr] at h hn
  simp only at h hn
  obtain⟨c,h1,h2⟩:=Option.map_eq_some_iff.1 h
  injection h2 with e1 e2 e3 e4 e5
  refine⟨c,h1,e1,e2,e3,?_⟩
  cases hbx:b.box with
  | true=>
   rw[hbx] at hn e1 e5
   simp only[if_true] at hn e5 ⊢
   cases hb:b.rows with
   | nil=>rw[hb] at hn;cases hn
   | cons r l=>cases l with
    | cons r2 l=>rw[hb] at hn;cases hn
    | nil=>
     rw[hb] at hn e5
     exact⟨r,_,rfl,e5,Zbc hn⟩
  | false=>
   rw[hbx] at e1 e4 e5
   rw[e1] at e4
   simp only[Bool.false_eq_true,if_false] at e4 e5 ⊢
   exact⟨e4,e5⟩
def wasL (f:List (Id×Id)) (l:List (Nat×V)) (h:List (Id×Blk)) (S:St):List V×List (Option Blk):=(l.map fun p=>S.env p.1,h.map fun p=>wasB f S p)
def renL (f:List (Id×Id)) (l:List (Nat×V)) (h:List (Id×Blk)):List V×List (Option Blk):=(l.map fun p=>renV f p.2,h.map fun p=>renB f p)
def cutB (f:List (Id×Id)) (l:List (Nat×V)) (h:List (Id×Blk)) (ep:Nat):Bool:=wkB f l h ep&&(l.all fun p=>okVs (renV f p.2))&&h.all fun p=>newB f p
theorem Zcv {α β:Type} {g1 g2:α→β} {l:List α} (h:l.map g1=l.map g2):∀x∈l,g1 x=g2 x:=by
 induction l with
 | nil=>intro x hx;simp at hx
 | cons y l ih=>
  simp only[List.map_cons,List.cons.injEq] at h
  intro x hx
  rcases List.mem_cons.1 hx with rfl|hx
  ·exact h.1
  ·exact ih h.2 x hx
theorem Zmv {f:List (Id×Id)} {l:List (Nat×V)} {h:List (Id×Blk)} {ep:Nat} {S:St} (e:wasL f l h S=renL f l h) (hb:cutB f l h ep=true):Weak f S l h ep:=by
 simp only[wasL,renL,Prod.mk.injEq] at e
 simp only[cutB,Bool.and_eq_true,List.all_eq_true] at hb
 refine⟨fun p hp=>?_,fun p hp=>Zm4 (Zcv e.2 p hp) (hb.2 p hp),hb.1.1⟩
 rw[Zcv e.1 p hp]
 exact Zmh (hb.1.2 p hp)
def len1:V→KM V
 | .sl id off len=>bnd hear fun o=>match o with
  | .num n _ _ _=>bnd (obl (len=n)) fun _=>ret (.sl id off n)
  | _=>fail
 | x=>ret x
theorem Zhl {x:V}:KP (len1 x) (fun y=>y=x):=by
 unfold len1
 split
 ·refine Za Z0 (fun o _=>?_)
  split
  ·exact Za Zg (fun _ h=>Ze (by rw[h]))
  ·exact Zb
 ·exact Ze rfl
def lens:List V→KM (List V)
 | []=>ret []
 | x::xs=>bnd (len1 x) fun y=>bnd (lens xs) fun ys=>ret (y::ys)
theorem Zdg:∀{xs:List V},KP (lens xs) (fun ys=>ys=xs):=by
 intro xs
 induction xs with
 | nil=>exact Ze rfl
 | cons x xs ih=>exact Za Zhl (fun y hy=>Za ih (fun ys hys=>Ze (by rw[hy,hys])))
def lenV:V→KM V
 | .agg xs=>bnd (lens xs) fun ys=>ret (.agg ys)
 | .fn g xs=>bnd (lens xs) fun ys=>ret (.fn g ys)
 | x=>len1 x
theorem Zmt {x:V}:KP (lenV x) (fun y=>y=x):=by
 unfold lenV
 split
 ·exact Za Zdg (fun y hy=>Ze (by rw[hy]))
 ·exact Za Zdg (fun y hy=>Ze (by rw[hy]))
 ·exact Zhl
def Zhs (S:St):List (Nat×V)→KM (List V)
 | []=>ret []
 | p::l=>bnd (lenV (S.env p.1)) fun y=>bnd (Zhs S l) fun ys=>ret (y::ys)
theorem Zm1 {S:St}:∀{l:List (Nat×V)},KP (Zhs S l) (fun ys=>ys=l.map fun p=>S.env p.1):=by
 intro l
 induction l with
 | nil=>exact Ze rfl
 | cons p l ih=>exact Za Zmt (fun y hy=>Za ih (fun ys hys=>Ze (by rw[hy,hys];rfl)))
def lenB:Option Blk→KM (Option Blk)
 | some ⟨true,own,cl,el,[row]⟩=>bnd (lens row) fun r=>ret (some ⟨true,own,cl,el,[r]⟩)
 | x=>ret x
theorem Zm2 {x:Option Blk}:KP (lenB x) (fun y=>y=x):=by
 unfold lenB
 split
 ·exact Za Zdg (fun r hr=>Ze (by rw[hr]))
 ·exact Ze rfl
def lenH (f:List (Id×Id)) (S:St):List (Id×Blk)→KM (List (Option Blk))
 | []=>ret []
 | p::l=>bnd (lenB (wasB f S p)) fun y=>bnd (lenH f S l) fun ys=>ret (y::ys)
theorem Zm3 {f:List (Id×Id)} {S:St}:∀{l:List (Id×Blk)},KP (lenH f S l) (fun ys=>ys=l.map fun p=>wasB f S p):=by
 intro l
 induction l with
 | nil=>exact Ze rfl
 | cons p l ih=>exact Za Zm2 (fun y hy=>Za ih (fun ys hys=>Ze (by rw[hy,hys];rfl)))
def Zkk (f:List (Id×Id)) (l:List (Nat×V)) (h:List (Id×Blk)) (r:Res):KM (List It×List V×List (Option Blk)):=match r.ex with
 | .normal=>bnd (Zhs r.st l) fun vs=>bnd (lenH f r.st h) fun bs=>ret (r.stk,vs,bs)
 | _=>fail
def cutK (P:Program) (M:Hints) (f:List (Id×Id)) (l:List (Nat×V)) (h:List (Id×Blk)) (n:Nat) (stk:List It) (s:St):KM (List It×List V×List (Option Blk)):=
 bnd (mach P M n stk .normal s) (Zkk f l h)
def isC:List It→Bool
 | .c _::_=>true
 | _=>false
theorem Zg9 (hP:FuncsOk P) {stk k2:List It} {s:St} {p:Prop} {l:List (Nat×V)} {h:List (Id×Blk)} {ep:Nat} (f:List (Id×Id)) (n:Nat) (q:List O) (hp:p) (hn:SX P R k2 .normal (mkS l h ep))
  (e:told (cutK P M f l h n stk s q)=some (p,(k2,renL f l h))) (hb:(isC k2&&cutB f l h ep)=true):SX P R stk .normal s:=by
 simp only[Bool.and_eq_true] at hb
 refine Zhf (x:=cutK P M f l h n stk s) (Q:=fun y=>y=(k2,renL f l h)→SX P R stk .normal s) ?_ e hp rfl
 refine Za (Zek hP n) (fun r hr=>?_)
 obtain⟨st,ex,s1⟩:=r
 unfold Zkk
 cases ex with
 | normal=>
  refine Za Zm1 (fun vs hvs=>Za Zm3 (fun bs hbs=>Ze fun hy=>hr _ ?_))
  simp only[Prod.mk.injEq] at hy
  simp only
  rw[hy.1]
  have hy2:wasL f l h s1=renL f l h:=by
   rw[←hy.2,hvs,hbs];rfl
  cases k2 with
  | nil=>cases hb.1
  | cons x k=>cases x with
   | blk i=>cases hb.1
   | c x=>exact Zm9 f (Zmv hy2 hb.2) hn
 | ret=>exact Zb
 | exit i=>exact Zb
end
end Go.Proofs.Ytgmmcfpabnoekaa.Ev
namespace Go.Proofs.Ytgmmcfpabnoekaa.Ev
open Go
set_option linter.unusedVariables false
section
variable {α:Type}
def idx (xs:List α) (i:Int):Option α:=if 0≤i then xs[i.toNat]? else none
def appI (sz:Nat) (xs ys:List α):Option (List α):=if (xs.length+ys.length)*sz≤140737488355328∧xs.length+ys.length≤9223372036854775807 then some (xs++ys) else none
def mkI (sz:Nat) (n:Int) (z:α):Option (List α):=if 0≤n∧n.toNat*sz≤70368744177664∧n.toNat≤9223372036854775807 then some (List.replicate n.toNat z) else none
def Yv (xs:List α) (l h:Int):Option (List α):=if 0≤l∧l≤h∧h.toNat≤xs.length then some ((xs.drop l.toNat).take (h.toNat - l.toNat)) else none
def clrI (z:α) (xs:List α) (l h:Int):Option (List α):=if l.toNat+(h.toNat - l.toNat)≤xs.length then some (xs.take l.toNat++List.replicate (h.toNat - l.toNat) z++xs.drop (l.toNat+(h.toNat - l.toNat))) else none
def setO (xs:List α) (i:Int) (a:α):Option (List α):=some (xs.set i.toNat a)
end
def FU:Nat:=18446744073709551616
def w64 (n:Int):Int:=IntKind.i64.wrap n
def addW (a b:Int):Int:=IntKind.i64.wrap (a+b)
def subW (a b:Int):Int:=IntKind.i64.wrap (a - b)
theorem w64_of {n:Int} (h1:-9223372036854775808≤n) (h2:n < 9223372036854775808):w64 n=n:=by
 simp[w64,IntKind.wrap,IntKind.bits,IntKind.signed];omega
end Go.Proofs.Ytgmmcfpabnoekaa.Ev
namespace Go.Proofs.Ytgmmcfpabnoekaa.Ev
open Go Go.RowKit KM
set_option linter.unusedVariables false
set_option linter.unusedSimpArgs false
set_option linter.unusedSectionVars false
variable [Anchor]
abbrev il (n:Int):V:=.lit (.int .i64 n)
abbrev bl (b:Bool):V:=.lit (.bool b)
section
variable {P:Program} {M:Hints}
def entS (M:Hints) (f:FuncId) (xs:List V):St:=(St.enters ⟨fun _=>.undef,fun _=>none,0⟩ 0 (M.modes f) xs).getD ⟨fun _=>.undef,fun _=>none,0⟩
theorem Zlw (hP:FuncsOk P) {f:FuncId} {fn:Func} {c:Code} {xs:List V} {r:V} {os:List V} (hfn:P.funcs[f]?=some fn) (hc:fn.body=some c) (hs:(St.enters ⟨fun _=>.undef,fun _=>none,0⟩ 0 (M.modes f) xs).isSome=true)
  (h:SX P (RetC P M f fn xs (r,os)) [.c c] .normal (entS M f xs)):Fine P M (f,xs,r,os):=by
 obtain⟨s1,h1⟩:=Option.isSome_iff_exists.1 hs
 refine Zm0 hP hfn hc h1 ?_
 have:entS M f xs=s1:=by unfold entS;rw[h1];rfl
 rw[←this]
 exact h
end
theorem aa {p q:Prop} (h:p) (k:q):p∧q:=⟨h,k⟩
theorem tt:True:=trivial
theorem Zkx {α β:Type} {x:Option α} {f:α→Option β} {b:β} (h:x.bind f=some b):∃a,x=some a∧f a=some b:=Option.bind_eq_some_iff.1 h
theorem Zmc {β:Type} {t:Bool} {x y:Option β} {b:β} (h:(if t=true then x else y)=some b):(t=true∧x=some b)∨(t=false∧y=some b):=by
 cases t with
 | true=>exact .inl ⟨rfl,h⟩
 | false=>exact .inr ⟨rfl,h⟩
section
variable {α:Type}
theorem ixn {xs:List α} {i:Int} {a:α} (h:idx xs i=some a):Zs (il i)=some i.toNat:=by
 unfold idx at h
 split at h
 ·rename_i h0;simp[Zs,h0]
 ·cases h
theorem ixr (e:α→List V) {xs:List α} {i:Int} {a:α} (h:idx xs i=some a):(xs.map e)[i.toNat]?=some (e a):=by
 unfold idx at h
 split at h
 ·rw[List.getElem?_map,h];rfl
 ·cases h
theorem ixl (e:α→List V) {xs:List α} {i:Int} {a:α} (h:idx xs i=some a):i.toNat < (xs.map e).length:=(List.getElem?_eq_some_iff.1 (ixr e h)).1
theorem lenr (e:α→List V) (xs:List α):(xs.map e).length=xs.length:=List.length_map ..
theorem lene (e:α→List V) (xs:List α):(xs.map e).length=(xs.map e).length:=rfl
theorem alr (n:Nat) {e:α→List V} (he:∀a,(e a).length=n) (xs:List α):X1 n (xs.map e)=true:=by
 unfold X1
 rw[List.all_eq_true]
 intro r hr
 obtain⟨a,_,rfl⟩:=List.mem_map.1 hr
 simp[he]
theorem ltr {e:α→List V} (he:∀a,(e a).all Zcy=true) (xs:List α):Yg (xs.map e)=true:=by
 unfold Yg
 rw[List.all_eq_true]
 intro r hr
 obtain⟨a,_,rfl⟩:=List.mem_map.1 hr
 exact he a
theorem apm (e:α→List V) {sz:Nat} {xs ys zs:List α} (h:appI sz xs ys=some zs):xs.map e++ys.map e=zs.map e:=by
 unfold appI at h
 split at h
 ·injection h with h;rw[←h,List.map_append]
 ·cases h
theorem apl (e:α→List V) {sz:Nat} {xs ys zs:List α} (h:appI sz xs ys=some zs):((xs.map e).length+(ys.map e).length)*sz≤140737488355328∧(xs.map e).length+(ys.map e).length≤9223372036854775807:=by
 unfold appI at h
 split at h
 ·rename_i hh;simpa using hh
 ·cases h
theorem apm0 (e:α→List V) {sz:Nat} {ys zs:List α} (h:appI sz [] ys=some zs):ys.map e=zs.map e:=apm e h
theorem mkn {sz:Nat} {n:Int} {z:α} {xs:List α} (h:mkI sz n z=some xs):Zs (il n)=some n.toNat:=by
 unfold mkI at h
 split at h
 ·rename_i h0;simp[Zs,h0.1]
 ·cases h
theorem mkl {sz:Nat} {n:Int} {z:α} {xs:List α} (h:mkI sz n z=some xs):n.toNat*sz≤70368744177664∧n.toNat≤9223372036854775807:=by
 unfold mkI at h
 split at h
 ·rename_i h0;exact h0.2
 ·cases h
theorem mkr (e:α→List V) {sz:Nat} {n:Int} {z:α} {xs:List α} (h:mkI sz n z=some xs):List.replicate n.toNat (e z)=xs.map e:=by
 unfold mkI at h
 split at h
 ·injection h with h;rw[←h,List.map_replicate]
 ·cases h
theorem sln {xs ys:List α} {l h:Int} (e:Yv xs l h=some ys):Zs (il l)=some l.toNat∧Zs (il h)=some h.toNat:=by
 unfold Yv at e
 split at e
 ·rename_i h0
  refine⟨by simp[Zs,h0.1],?_⟩
  have:0≤h:=by omega
  simp[Zs,this]
 ·cases e
theorem sll (en:α→List V) {xs ys:List α} {l h:Int} (e:Yv xs l h=some ys):l.toNat≤h.toNat∧h.toNat≤(xs.map en).length:=by
 unfold Yv at e
 split at e
 ·rename_i h0
  rw[List.length_map]
  omega
 ·cases e
theorem slr (en:α→List V) {xs ys:List α} {l h:Int} (e:Yv xs l h=some ys):((xs.map en).drop l.toNat).take (h.toNat - l.toNat)=ys.map en:=by
 unfold Yv at e
 split at e
 ·injection e with e;rw[←e,List.map_take,List.map_drop]
 ·cases e
end
def encI (n:Int):List V:=[.lit (.int .i64 n)]
section
variable {α:Type}
theorem seto (e:α→List V) {xs ys:List α} {i:Int} {a:α} (h:setO xs i a=some ys):(xs.map e).set i.toNat (e a)=ys.map e:=by
 unfold setO at h
 injection h with h
 rw[←h,List.map_set]
theorem setl (e:α→List V) {xs ys:List α} {i:Int} {a:α} (h:setO xs i a=some ys):(xs.map e).length=(ys.map e).length:=by
 rw[←seto e h,List.length_set]
theorem sla (en:α→List V) {xs ys:List α} {l h:Int} (e:Yv xs l h=some ys):l.toNat+(h.toNat - l.toNat)≤(xs.map en).length:=by
 have:=sll en e
 omega
end
section
variable {α:Type}
theorem Zl8 {sz:Nat} {r:List α} (h:appI sz [] []=some r):[]=r:=by
 unfold appI at h
 split at h
 ·injection h
 ·cases h
theorem apz (n:Nat):(0+0)*n≤140737488355328∧0+0≤9223372036854775807:=by simp
theorem clrl (e:α→List V) {z:α} {xs ys:List α} {l h:Int} (q:clrI z xs l h=some ys):l.toNat+(h.toNat - l.toNat)≤(xs.map e).length:=by
 unfold clrI at q
 split at q
 ·rwa [List.length_map]
 ·cases q
theorem clrr (e:α→List V) {z:α} {xs ys:List α} {l h:Int} (q:clrI z xs l h=some ys):(xs.map e).take l.toNat++List.replicate (h.toNat - l.toNat) (e z)++(xs.map e).drop (l.toNat+(h.toNat - l.toNat))=ys.map e:=by
 unfold clrI at q
 split at q
 ·injection q with q;rw[←q];simp
 ·cases q
theorem clrs (e:α→List V) {z:α} {xs ys:List α} {l h:Int} (q:clrI z xs l h=some ys):(xs.map e).length=(ys.map e).length:=by
 unfold clrI at q
 split at q
 ·injection q with q;rw[←q];simp;omega
 ·cases q
end
def ks:Nat→List O→List O
 | 0,l=>l
 | n+1,l=>.k::ks n l
def Scr (q:List O) (p:Prop):Prop:=p
theorem ee:Scr [] True:=trivial
section
variable {q:List O} {p:Prop} {α:Type}
theorem kk (n:Nat) (k:Scr q p):Scr (ks n q) p:=k
theorem gg {c b:Bool} (h:c=b) (k:Scr q p):Scr (.t b::q) (c=b∧p):=⟨h,k⟩
theorem rr {P:Program} {M:Hints} {y:FuncId×List V×V×List V} (h:Fine P M y) (k:Scr q p):Scr (.res y.2.2.1 y.2.2.2::q) (Fine P M y∧p):=⟨h,k⟩
theorem xb (e:α→List V) {xs:List α} {i:Int} {a:α} (h:idx xs i=some a) (k:Scr q p):Scr (.row i.toNat (e a)::q) (Zs (il i)=some i.toNat∧(xs.map e)[i.toNat]?=some (e a)∧p):=⟨ixn h,ixr e h,k⟩
theorem xd (e:α→List V) {xs:List α} {i:Int} {a:α} (h:idx xs i=some a) (k:Scr q p):Scr (.row i.toNat (e a)::.cell (e a)::q) (Zs (il i)=some i.toNat∧i.toNat < (xs.map e).length∧(xs.map e)[i.toNat]?=some (e a)∧(xs.map e)[i.toNat]?=some (e a)∧p):=⟨ixn h,ixl e h,ixr e h,ixr e h,k⟩
theorem xp (e:α→List V) {xs ys:List α} {i:Int} {a b:α} (h:idx xs i=some a) (h2:setO xs i b=some ys) (k:Scr q p):Scr (.row i.toNat (e a)::.put (e a) (ys.map e)::q) (Zs (il i)=some i.toNat∧i.toNat < (xs.map e).length∧(xs.map e)[i.toNat]?=some (e a)∧(xs.map e)[i.toNat]?=some (e a)∧(xs.map e).set i.toNat (e b)=ys.map e∧p):=⟨ixn h,ixl e h,ixr e h,ixr e h,seto e h2,k⟩
theorem xq (e:α→List V) {xs:List α} {i:Int} {a:α} (h:idx xs i=some a) (ys:List α) (k:Scr q p):Scr (.row i.toNat (e a)::.put (e a) (ys.map e)::q) (Zs (il i)=some i.toNat∧i.toNat < (xs.map e).length∧(xs.map e)[i.toNat]?=some (e a)∧(xs.map e)[i.toNat]?=some (e a)∧p):=⟨ixn h,ixl e h,ixr e h,ixr e h,k⟩
theorem ln (e:α→List V) (xs:List α) (k:Scr q p):Scr (.num (xs.map e).length 0 0 []::q) ((xs.map e).length=(xs.map e).length∧p):=⟨rfl,k⟩
theorem lr (e:α→List V) (xs:List α) (k:Scr q p):Scr (.num xs.length 0 0 []::q) ((xs.map e).length=xs.length∧p):=⟨lenr e xs,k⟩
theorem tp (x:O) (k:Scr q p):Scr (x::q) p:=k
theorem ta (e:α→List V) (ys zs:List α) (k:Scr q p):Scr (.app (ys.map e) true (zs.map e) (zs.map e).length::q) p:=k
theorem oa (n:Nat) {e:α→List V} (he:∀a,(e a).length=n) (x:α) (k:Scr q p):Scr q (1=([x].map e).length∧[x].map e=[x].map e∧X1 n ([x].map e)=true∧p):=⟨rfl,rfl,alr n he [x],k⟩
theorem ox (e:α→List V) {sz:Nat} {xs ys zs:List α} (h:appI sz xs ys=some zs) (k:Scr q p):Scr q ((xs.map e).length=(xs.map e).length∧(((xs.map e).length+(ys.map e).length)*sz≤140737488355328∧(xs.map e).length+(ys.map e).length≤9223372036854775807)∧xs.map e++ys.map e=zs.map e∧p):=⟨rfl,apl e h,apm e h,k⟩
theorem oe (e:α→List V) (xs:List α) (k:Scr q p):Scr q ((xs.map e).length=(xs.map e).length∧p):=⟨rfl,k⟩
theorem ob {a:Prop} (h:a) (k:Scr q p):Scr q (a∧p):=⟨h,k⟩
end
def Zb4 (f:Func):Code:=f.body.getD .skip
def at_:List Nat→Code→List It→List It
 | 0::p,.seq a b,k=>at_ p a (.c b::k)
 | _::p,.seq _ b,k=>at_ p b k
 | 0::p,.cond _ a _,k=>at_ p a k
 | _::p,.cond _ _ b,k=>at_ p b k
 | _::p,.block i c,k=>at_ p c (.blk i::k)
 | _::p,.loop c,k=>at_ p c (.c (.loop c)::k)
 | _,c,k=>.c c::k
end Go.Proofs.Ytgmmcfpabnoekaa.Ev
namespace Go.Proofs.Ytgmmcfpabnoekaa.Ev
open Go Go.RowKit
set_option linter.unusedVariables false
set_option linter.unusedSimpArgs false
set_option linter.unusedSectionVars false
variable [Anchor]
section
variable {P:Program} {M:Hints} {w:World} {ok top:Nat→Prop}
end
end Go.Proofs.Ytgmmcfpabnoekaa.Ev
namespace Go.Proofs.Ytgmmcfpabnoekaa.Ev
open Go Go.Proofs
set_option linter.unusedVariables false
structure GMConf where
 weight:Int
 prio:Bool
 every:Int
 cap:Int
 deriving DecidableEq
structure GConf where
 masters:List GMConf
 quantum:Int
 maxWait:Int
 maxRetry:Int
 maxSplit:Int
 lockMost:Int
 deriving DecidableEq
structure GReq where
 write:Bool
 addr:Int
 size:Int
 burst:Int
 lock:Bool
 data_:List Int
 deriving DecidableEq
structure GMst where
 queue:List GReq
 beat:Int
 done:Int
 tries:Int
 parted:Bool
 broken:Bool
 deriving DecidableEq
structure GWrr where
 at_:Int
 credit:Int
 deriving DecidableEq
structure GBucket where
 tokens:Int
 count:Int
 deriving DecidableEq
structure GBeat where
 live:Bool
 who:Int
 beat:Int
 first:Bool
 by_:Int
 left:Int
 resp:Int
 second:Bool
 deriving DecidableEq
structure GDev where
 regs:List Int
 timer:Int
 fifo:List Int
 deriving DecidableEq
structure GModel where
 mem:List Int
 dev:GDev
 deriving DecidableEq
structure GDone where
 cycle:Int
 who:Int
 write:Bool
 addr:Int
 size:Int
 value:Int
 resp:Int
 deriving DecidableEq
structure GBus where
 conf:GConf
 now:Int
 m:List GMst
 arb:GWrr
 buckets:List GBucket
 splits:List Int
 holder:Int
 held:Int
 last:Int
 addr:GBeat
 data_:GBeat
 model:GModel
 picks:Int
 log:List GDone
 deriving DecidableEq
def GMConf.ok (z:GMConf):Prop:=(Lit.int .i64 z.weight).wf=true∧True∧(Lit.int .i64 z.every).wf=true∧(Lit.int .i64 z.cap).wf=true
def GConf.ok (z:GConf):Prop:=(z.masters.length≤maxLen∧∀x∈z.masters,GMConf.ok x)∧(Lit.int .i64 z.quantum).wf=true∧(Lit.int .i64 z.maxWait).wf=true∧(Lit.int .i64 z.maxRetry).wf=true∧(Lit.int .i64 z.maxSplit).wf=true∧(Lit.int .i64 z.lockMost).wf=true
def GReq.ok (z:GReq):Prop:=True∧(Lit.int .i64 z.addr).wf=true∧(Lit.int .i64 z.size).wf=true∧(Lit.int .i64 z.burst).wf=true∧True∧(z.data_.length≤maxLen∧∀x∈z.data_,(Lit.int .i64 x).wf=true)
def GMst.ok (z:GMst):Prop:=(z.queue.length≤maxLen∧∀x∈z.queue,GReq.ok x)∧(Lit.int .i64 z.beat).wf=true∧(Lit.int .i64 z.done).wf=true∧(Lit.int .i64 z.tries).wf=true∧True∧True
def GWrr.ok (z:GWrr):Prop:=(Lit.int .i64 z.at_).wf=true∧(Lit.int .i64 z.credit).wf=true
def GBucket.ok (z:GBucket):Prop:=(Lit.int .i64 z.tokens).wf=true∧(Lit.int .i64 z.count).wf=true
def GBeat.ok (z:GBeat):Prop:=True∧(Lit.int .i64 z.who).wf=true∧(Lit.int .i64 z.beat).wf=true∧True∧(Lit.int .i64 z.by_).wf=true∧(Lit.int .i64 z.left).wf=true∧(Lit.int .i64 z.resp).wf=true∧True
def GDev.ok (z:GDev):Prop:=(z.regs.length≤maxLen∧∀x∈z.regs,(Lit.int .i64 x).wf=true)∧(Lit.int .i64 z.timer).wf=true∧(z.fifo.length≤maxLen∧∀x∈z.fifo,(Lit.int .i64 x).wf=true)
def GModel.ok (z:GModel):Prop:=(z.mem.length≤maxLen∧∀x∈z.mem,(Lit.int .i64 x).wf=true)∧GDev.ok z.dev
def GDone.ok (z:GDone):Prop:=(Lit.int .i64 z.cycle).wf=true∧(Lit.int .i64 z.who).wf=true∧True∧(Lit.int .i64 z.addr).wf=true∧(Lit.int .i64 z.size).wf=true∧(Lit.int .i64 z.value).wf=true∧(Lit.int .i64 z.resp).wf=true
def GBus.ok (z:GBus):Prop:=GConf.ok z.conf∧(Lit.int .i64 z.now).wf=true∧(z.m.length≤maxLen∧∀x∈z.m,GMst.ok x)∧GWrr.ok z.arb∧(z.buckets.length≤maxLen∧∀x∈z.buckets,GBucket.ok x)∧(z.splits.length≤maxLen∧∀x∈z.splits,(Lit.int .i64 x).wf=true)∧(Lit.int .i64 z.holder).wf=true∧(Lit.int .i64 z.held).wf=true∧(Lit.int .i64 z.last).wf=true∧GBeat.ok z.addr∧GBeat.ok z.data_∧GModel.ok z.model∧(Lit.int .i64 z.picks).wf=true∧(z.log.length≤maxLen∧∀x∈z.log,GDone.ok x)
abbrev GMConf.z0:GMConf:=⟨0,false,0,0⟩
abbrev GReq.z0:GReq:=⟨false,0,0,0,false,[]⟩
abbrev GMst.z0:GMst:=⟨[],0,0,0,false,false⟩
abbrev GBucket.z0:GBucket:=⟨0,0⟩
abbrev GDone.z0:GDone:=⟨0,0,false,0,0,0,0⟩
def Zap (x0:List GMConf) (x1:Int):Option Int:=
 if decide ((subW x1 (x0.length:Int)) < 0)=true then (
  some (-1))
 else (
  some (subW x1 (x0.length:Int)))
def J6 (x0:GConf) (x1:Int):Option Int:=
 (Zap x0.masters x1).bind fun r0=>
 if decide (r0 < 0)=true then (
  some (-1))
 else (
  some r0)
def X9 (x0:List Int) (x1:Int):Option Int:=
 if decide ((subW x1 (x0.length:Int)) < 0)=true then (
  some (-1))
 else (
  some (subW x1 (x0.length:Int)))
def Ky (x0:GReq) (x1:Int):Option Int:=
 (X9 x0.data_ x1).bind fun r0=>
 if decide (r0 < 0)=true then (
  some (-1))
 else (
  some r0)
def Zb8 (x0:List GReq) (x1:Int)  (k:Int→Int→Option Int) (v0:Int) (v1:Int):Option Int:=
 if decide (v1 < (x0.length:Int))=true then (
  (idx x0 v1).bind fun a0=>
  (Ky a0 v0).bind fun r0=>
  if decide (r0 < 0)=true then (
   some (-1))
  else (
   k r0 (addW v1 1)))
 else (
  some v0)
def X5 (x0:List GReq) (x1:Int)  : Nat→Int→Int→Option Int
 | 0,_,_=>none
 | m+1,v0,v1=>Zb8 x0 x1  (X5 x0 x1  m) v0 v1
def Jq (x0:List GReq) (x1:Int):Option Int:=
 if decide ((subW x1 (x0.length:Int)) < 0)=true then (
  some (-1))
 else (
  X5 x0 x1 FU (subW x1 (x0.length:Int)) 0)
def K5 (x0:GMst) (x1:Int):Option Int:=
 (Jq x0.queue x1).bind fun r0=>
 if decide (r0 < 0)=true then (
  some (-1))
 else (
  some r0)
def Zcm (x0:List GMst) (x1:Int)  (k:Int→Int→Option Int) (v0:Int) (v1:Int):Option Int:=
 if decide (v1 < (x0.length:Int))=true then (
  (idx x0 v1).bind fun a0=>
  (K5 a0 v0).bind fun r0=>
  if decide (r0 < 0)=true then (
   some (-1))
  else (
   k r0 (addW v1 1)))
 else (
  some v0)
def Wc (x0:List GMst) (x1:Int)  : Nat→Int→Int→Option Int
 | 0,_,_=>none
 | m+1,v0,v1=>Zcm x0 x1  (Wc x0 x1  m) v0 v1
def J3 (x0:List GMst) (x1:Int):Option Int:=
 if decide ((subW x1 (x0.length:Int)) < 0)=true then (
  some (-1))
 else (
  Wc x0 x1 FU (subW x1 (x0.length:Int)) 0)
def J9 (x0:List GBucket) (x1:Int):Option Int:=
 if decide ((subW x1 (x0.length:Int)) < 0)=true then (
  some (-1))
 else (
  some (subW x1 (x0.length:Int)))
def Zdu (x0:GDev) (x1:Int):Option Int:=
 (X9 x0.regs x1).bind fun r0=>
 if decide (r0 < 0)=true then (
  some (-1))
 else (
  (X9 x0.fifo r0).bind fun r1=>
  if decide (r1 < 0)=true then (
   some (-1))
  else (
   some r1))
def Jd (x0:GModel) (x1:Int):Option Int:=
 (X9 x0.mem x1).bind fun r0=>
 if decide (r0 < 0)=true then (
  some (-1))
 else (
  (Zdu x0.dev r0).bind fun r1=>
  if decide (r1 < 0)=true then (
   some (-1))
  else (
   some r1))
def Zbn (x0:List GDone) (x1:Int):Option Int:=
 if decide ((subW x1 (x0.length:Int)) < 0)=true then (
  some (-1))
 else (
  some (subW x1 (x0.length:Int)))
def Zao (x0:GBus) (x1:Int):Option Int:=
 (J6 x0.conf x1).bind fun r0=>
 if decide (r0 < 0)=true then (
  some (-1))
 else (
  (J3 x0.m r0).bind fun r1=>
  if decide (r1 < 0)=true then (
   some (-1))
  else (
   (J9 x0.buckets r1).bind fun r2=>
   if decide (r2 < 0)=true then (
    some (-1))
   else (
    (X9 x0.splits r2).bind fun r3=>
    if decide (r3 < 0)=true then (
     some (-1))
    else (
     (Jd x0.model r3).bind fun r4=>
     if decide (r4 < 0)=true then (
      some (-1))
     else (
      (Zbn x0.log r4).bind fun r5=>
      if decide (r5 < 0)=true then (
       some (-1))
      else (
       some r5))))))
def K8 (x0:GMConf):Option GMConf:=
 some x0
def Zbe (x0:List GMConf)  (k:(List GMConf)→Int→Option (List GMConf)) (v0:List GMConf) (v1:Int):Option (List GMConf):=
 if decide (v1 < (x0.length:Int))=true then (
  (idx x0 v1).bind fun a0=>
  (K8 a0).bind fun r0=>
  (idx v0 v1).bind fun a1=>
  (setO v0 v1 r0).bind fun y0=>
  k y0 (addW v1 1))
 else (
  some v0)
def Xf (x0:List GMConf)  : Nat→(List GMConf)→Int→Option (List GMConf)
 | 0,_,_=>none
 | m+1,v0,v1=>Zbe x0  (Xf x0  m) v0 v1
def W7 (x0:List GMConf):Option (List GMConf):=
 (mkI 32 (x0.length:Int) GMConf.z0).bind fun m0=>
 Xf x0 FU m0 0
def Qt (x0:GConf):Option GConf:=
 (W7 x0.masters).bind fun r0=>
 some {x0 with masters:=r0}
def Zct (x0:List Int)  (k:(List Int)→Int→Option (List Int)) (v0:List Int) (v1:Int):Option (List Int):=
 if decide (v1 < (x0.length:Int))=true then (
  (idx x0 v1).bind fun a0=>
  (idx v0 v1).bind fun a1=>
  (setO v0 v1 a0).bind fun y0=>
  k y0 (addW v1 1))
 else (
  some v0)
def Wa (x0:List Int)  : Nat→(List Int)→Int→Option (List Int)
 | 0,_,_=>none
 | m+1,v0,v1=>Zct x0  (Wa x0  m) v0 v1
def Y3 (x0:List Int):Option (List Int):=
 (mkI 8 (x0.length:Int) 0).bind fun m0=>
 Wa x0 FU m0 0
def Qo (x0:GReq):Option GReq:=
 (Y3 x0.data_).bind fun r0=>
 some {x0 with data_:=r0}
def Zcr (x0:List GReq)  (k:(List GReq)→Int→Option (List GReq)) (v0:List GReq) (v1:Int):Option (List GReq):=
 if decide (v1 < (x0.length:Int))=true then (
  (idx x0 v1).bind fun a0=>
  (Qo a0).bind fun r0=>
  (idx v0 v1).bind fun a1=>
  (setO v0 v1 r0).bind fun y0=>
  k y0 (addW v1 1))
 else (
  some v0)
def Wd (x0:List GReq)  : Nat→(List GReq)→Int→Option (List GReq)
 | 0,_,_=>none
 | m+1,v0,v1=>Zcr x0  (Wd x0  m) v0 v1
def Q5 (x0:List GReq):Option (List GReq):=
 (mkI 64 (x0.length:Int) GReq.z0).bind fun m0=>
 Wd x0 FU m0 0
def K2 (x0:GMst):Option GMst:=
 (Q5 x0.queue).bind fun r0=>
 some {x0 with queue:=r0}
def Zcc (x0:List GMst)  (k:(List GMst)→Int→Option (List GMst)) (v0:List GMst) (v1:Int):Option (List GMst):=
 if decide (v1 < (x0.length:Int))=true then (
  (idx x0 v1).bind fun a0=>
  (K2 a0).bind fun r0=>
  (idx v0 v1).bind fun a1=>
  (setO v0 v1 r0).bind fun y0=>
  k y0 (addW v1 1))
 else (
  some v0)
def X8 (x0:List GMst)  : Nat→(List GMst)→Int→Option (List GMst)
 | 0,_,_=>none
 | m+1,v0,v1=>Zcc x0  (X8 x0  m) v0 v1
def Qy (x0:List GMst):Option (List GMst):=
 (mkI 56 (x0.length:Int) GMst.z0).bind fun m0=>
 X8 x0 FU m0 0
def Zaz (x0:GWrr):Option GWrr:=
 some x0
def Ki (x0:GBucket):Option GBucket:=
 some x0
def Zat (x0:List GBucket)  (k:(List GBucket)→Int→Option (List GBucket)) (v0:List GBucket) (v1:Int):Option (List GBucket):=
 if decide (v1 < (x0.length:Int))=true then (
  (idx x0 v1).bind fun a0=>
  (Ki a0).bind fun r0=>
  (idx v0 v1).bind fun a1=>
  (setO v0 v1 r0).bind fun y0=>
  k y0 (addW v1 1))
 else (
  some v0)
def Y7 (x0:List GBucket)  : Nat→(List GBucket)→Int→Option (List GBucket)
 | 0,_,_=>none
 | m+1,v0,v1=>Zat x0  (Y7 x0  m) v0 v1
def Wi (x0:List GBucket):Option (List GBucket):=
 (mkI 16 (x0.length:Int) GBucket.z0).bind fun m0=>
 Y7 x0 FU m0 0
def W1 (x0:GBeat):Option GBeat:=
 some x0
def Zan (x0:GDev):Option GDev:=
 (Y3 x0.regs).bind fun r0=>
 (Y3 x0.fifo).bind fun r1=>
 some (GDev.mk r0 x0.timer r1)
def Qh (x0:GModel):Option GModel:=
 (Y3 x0.mem).bind fun r0=>
 (Zan x0.dev).bind fun r1=>
 some (GModel.mk r0 r1)
def J7 (x0:GDone):Option GDone:=
 some x0
def Zb2 (x0:List GDone)  (k:(List GDone)→Int→Option (List GDone)) (v0:List GDone) (v1:Int):Option (List GDone):=
 if decide (v1 < (x0.length:Int))=true then (
  (idx x0 v1).bind fun a0=>
  (J7 a0).bind fun r0=>
  (idx v0 v1).bind fun a1=>
  (setO v0 v1 r0).bind fun y0=>
  k y0 (addW v1 1))
 else (
  some v0)
def Xp (x0:List GDone)  : Nat→(List GDone)→Int→Option (List GDone)
 | 0,_,_=>none
 | m+1,v0,v1=>Zb2 x0  (Xp x0  m) v0 v1
def Qc (x0:List GDone):Option (List GDone):=
 (mkI 56 (x0.length:Int) GDone.z0).bind fun m0=>
 Xp x0 FU m0 0
def Wo (x0:GBus):Option GBus:=
 (Qt x0.conf).bind fun r0=>
 (Qy x0.m).bind fun r1=>
 (Zaz x0.arb).bind fun r2=>
 (Wi x0.buckets).bind fun r3=>
 (Y3 x0.splits).bind fun r4=>
 (W1 x0.addr).bind fun r5=>
 (W1 x0.data_).bind fun r6=>
 (Qh x0.model).bind fun r7=>
 (Qc x0.log).bind fun r8=>
 some (GBus.mk r0 x0.now r1 r2 r3 r4 x0.holder x0.held x0.last r5 r6 r7 x0.picks r8)
def Xo (x0:List GDone) (x1:Int)  (k:(List GDone)→Int→Option (List GDone)) (v0:List GDone) (v1:Int):Option (List GDone):=
 if decide (v1 < (x0.length:Int))=true then (
  (idx x0 v1).bind fun a0=>
  if decide (a0.who=x1)=true then (
   (appI 56 v0 [a0]).bind fun z0=>
   k z0 (addW v1 1))
  else (
   k v0 (addW v1 1)))
 else (
  some v0)
def X3 (x0:List GDone) (x1:Int)  : Nat→(List GDone)→Int→Option (List GDone)
 | 0,_,_=>none
 | m+1,v0,v1=>Xo x0 x1  (X3 x0 x1  m) v0 v1
def Qx (x0:List GDone) (x1:Int):Option (List GDone):=
 X3 x0 x1 FU [] 0
def Kl (x0:GBus) (x1:Int):Option Int:=
 (Qx x0.log x1).bind fun r0=>
 some (r0.length:Int)
def Ye (x0:List GDone):Option (List GDone):=appI 56 [] x0
def X2 (x0:GDone) (x1:Int):Option Bool:=
 some (decide (x0.who≠x1))
def Y4 (x0:List GDone) (x1c0:Int)  (k:Int→Option Int) (v0:Int):Option Int:=
 if decide (v0 < (x0.length:Int))=true then (
  (idx x0 v0).bind fun a0=>
  (X2 a0 x1c0).bind fun r0=>
  if r0=true then (
   some v0)
  else (
   k (addW v0 1)))
 else (
  some (-1))
def Zq (x0:List GDone) (x1c0:Int)  : Nat→Int→Option Int
 | 0,_=>none
 | m+1,v0=>Y4 x0 x1c0  (Zq x0 x1c0  m) v0
def Z3 (x0:List GDone) (x1c0:Int):Option Int:=
 Zq x0 x1c0 FU 0
def Yw (x0:List GDone) (x1c0:Int)  (k:(List GDone)→Int→Int→Option (List GDone)) (v0:List GDone) (v1:Int) (v2:Int):Option (List GDone):=
 if decide (v2 < (v0.length:Int))=true then (
  (idx v0 v2).bind fun a0=>
  (X2 a0 x1c0).bind fun r0=>
  if (!r0)=true then (
   (idx v0 v1).bind fun a1=>
   (setO v0 v1 a0).bind fun y0=>
   k y0 (addW v1 1) (addW v2 1))
  else (
   k v0 v1 (addW v2 1)))
 else (
  (Yv v0 v1 (v0.length:Int)).bind fun s0=>
  (clrI GDone.z0 v0 v1 (v0.length:Int)).bind fun y1=>
  (Yv y1 0 v1).bind fun s1=>
  some s1)
def Zp (x0:List GDone) (x1c0:Int)  : Nat→(List GDone)→Int→Int→Option (List GDone)
 | 0,_,_,_=>none
 | m+1,v0,v1,v2=>Yw x0 x1c0  (Zp x0 x1c0  m) v0 v1 v2
def Z1 (x0:List GDone) (x1c0:Int):Option (List GDone):=
 (Z3 x0 x1c0).bind fun r1=>
 if decide (r1=(-1))=true then (
  some x0)
 else (
  Zp x0 x1c0 FU x0 r1 (addW r1 1))
def Q4 (x0:List GDone) (x1:Int):Option (List GDone):=
 (Ye x0).bind fun r0=>
 (Z1 r0 x1).bind fun r1=>
 some r1
def Wy (x0:GBus) (x1:Int):Option Int:=
 (Q4 x0.log x1).bind fun r0=>
 some (r0.length:Int)
def Wf (x0:GMConf) (x1:GMConf):Option Bool:=
 if decide (x0.weight≠x1.weight)=true then (
  some false)
 else (
  if (x0.prio != x1.prio)=true then (
   some false)
  else (
   if decide (x0.every≠x1.every)=true then (
    some false)
   else (
    if decide (x0.cap≠x1.cap)=true then (
     some false)
    else (
     some true))))
def Zbf (x0:List GMConf) (x1:List GMConf)  (k:Int→Option Bool) (v0:Int):Option Bool:=
 if decide (v0 < (x0.length:Int))=true then (
  (idx x0 v0).bind fun a0=>
  (idx x1 v0).bind fun a1=>
  (Wf a0 a1).bind fun r0=>
  if (!r0)=true then (
   some false)
  else (
   k (addW v0 1)))
 else (
  some true)
def Xe (x0:List GMConf) (x1:List GMConf)  : Nat→Int→Option Bool
 | 0,_=>none
 | m+1,v0=>Zbf x0 x1  (Xe x0 x1  m) v0
def W6 (x0:List GMConf) (x1:List GMConf):Option Bool:=
 if decide ((x0.length:Int)≠(x1.length:Int))=true then (
  some false)
 else (
  Xe x0 x1 FU 0)
def Qv (x0:GConf) (x1:GConf):Option Bool:=
 (W6 x0.masters x1.masters).bind fun r0=>
 if (!r0)=true then (
  some false)
 else (
  if decide (x0.quantum≠x1.quantum)=true then (
   some false)
  else (
   if decide (x0.maxWait≠x1.maxWait)=true then (
    some false)
   else (
    if decide (x0.maxRetry≠x1.maxRetry)=true then (
     some false)
    else (
     if decide (x0.maxSplit≠x1.maxSplit)=true then (
      some false)
     else (
      if decide (x0.lockMost≠x1.lockMost)=true then (
       some false)
      else (
       some true))))))
def Xm (x0:List Int) (x1:List Int)  (k:Int→Option Bool) (v0:Int):Option Bool:=
 if decide (v0 < (x0.length:Int))=true then (
  (idx x0 v0).bind fun a0=>
  (idx x1 v0).bind fun a1=>
  if decide (a0≠a1)=true then (
   some false)
  else (
   k (addW v0 1)))
 else (
  some true)
def We (x0:List Int) (x1:List Int)  : Nat→Int→Option Bool
 | 0,_=>none
 | m+1,v0=>Xm x0 x1  (We x0 x1  m) v0
def Y0 (x0:List Int) (x1:List Int):Option Bool:=
 if decide ((x0.length:Int)≠(x1.length:Int))=true then (
  some false)
 else (
  We x0 x1 FU 0)
def Ql (x0:GReq) (x1:GReq):Option Bool:=
 if (x0.write != x1.write)=true then (
  some false)
 else (
  if decide (x0.addr≠x1.addr)=true then (
   some false)
  else (
   if decide (x0.size≠x1.size)=true then (
    some false)
   else (
    if decide (x0.burst≠x1.burst)=true then (
     some false)
    else (
     if (x0.lock != x1.lock)=true then (
      some false)
     else (
      (Y0 x0.data_ x1.data_).bind fun r0=>
      if (!r0)=true then (
       some false)
      else (
       some true))))))
def Zcp (x0:List GReq) (x1:List GReq)  (k:Int→Option Bool) (v0:Int):Option Bool:=
 if decide (v0 < (x0.length:Int))=true then (
  (idx x0 v0).bind fun a0=>
  (idx x1 v0).bind fun a1=>
  (Ql a0 a1).bind fun r0=>
  if (!r0)=true then (
   some false)
  else (
   k (addW v0 1)))
 else (
  some true)
def X4 (x0:List GReq) (x1:List GReq)  : Nat→Int→Option Bool
 | 0,_=>none
 | m+1,v0=>Zcp x0 x1  (X4 x0 x1  m) v0
def Q1 (x0:List GReq) (x1:List GReq):Option Bool:=
 if decide ((x0.length:Int)≠(x1.length:Int))=true then (
  some false)
 else (
  X4 x0 x1 FU 0)
def Kv (x0:GMst) (x1:GMst):Option Bool:=
 (Q1 x0.queue x1.queue).bind fun r0=>
 if (!r0)=true then (
  some false)
 else (
  if decide (x0.beat≠x1.beat)=true then (
   some false)
  else (
   if decide (x0.done≠x1.done)=true then (
    some false)
   else (
    if decide (x0.tries≠x1.tries)=true then (
     some false)
    else (
     if (x0.parted != x1.parted)=true then (
      some false)
     else (
      if (x0.broken != x1.broken)=true then (
       some false)
      else (
       some true))))))
def Zck (x0:List GMst) (x1:List GMst)  (k:Int→Option Bool) (v0:Int):Option Bool:=
 if decide (v0 < (x0.length:Int))=true then (
  (idx x0 v0).bind fun a0=>
  (idx x1 v0).bind fun a1=>
  (Kv a0 a1).bind fun r0=>
  if (!r0)=true then (
   some false)
  else (
   k (addW v0 1)))
 else (
  some true)
def X6 (x0:List GMst) (x1:List GMst)  : Nat→Int→Option Bool
 | 0,_=>none
 | m+1,v0=>Zck x0 x1  (X6 x0 x1  m) v0
def Qz (x0:List GMst) (x1:List GMst):Option Bool:=
 if decide ((x0.length:Int)≠(x1.length:Int))=true then (
  some false)
 else (
  X6 x0 x1 FU 0)
def Kt (x0:GWrr) (x1:GWrr):Option Bool:=
 if decide (x0.at_≠x1.at_)=true then (
  some false)
 else (
  if decide (x0.credit≠x1.credit)=true then (
   some false)
  else (
   some true))
def Wz (x0:GBucket) (x1:GBucket):Option Bool:=
 if decide (x0.tokens≠x1.tokens)=true then (
  some false)
 else (
  if decide (x0.count≠x1.count)=true then (
   some false)
  else (
   some true))
def Za1 (x0:List GBucket) (x1:List GBucket)  (k:Int→Option Bool) (v0:Int):Option Bool:=
 if decide (v0 < (x0.length:Int))=true then (
  (idx x0 v0).bind fun a0=>
  (idx x1 v0).bind fun a1=>
  (Wz a0 a1).bind fun r0=>
  if (!r0)=true then (
   some false)
  else (
   k (addW v0 1)))
 else (
  some true)
def Y9 (x0:List GBucket) (x1:List GBucket)  : Nat→Int→Option Bool
 | 0,_=>none
 | m+1,v0=>Za1 x0 x1  (Y9 x0 x1  m) v0
def Wl (x0:List GBucket) (x1:List GBucket):Option Bool:=
 if decide ((x0.length:Int)≠(x1.length:Int))=true then (
  some false)
 else (
  Y9 x0 x1 FU 0)
def Wx (x0:GBeat) (x1:GBeat):Option Bool:=
 if (x0.live != x1.live)=true then (
  some false)
 else (
  if decide (x0.who≠x1.who)=true then (
   some false)
  else (
   if decide (x0.beat≠x1.beat)=true then (
    some false)
   else (
    if (x0.first != x1.first)=true then (
     some false)
    else (
     if decide (x0.by_≠x1.by_)=true then (
      some false)
     else (
      if decide (x0.left≠x1.left)=true then (
       some false)
      else (
       if decide (x0.resp≠x1.resp)=true then (
        some false)
       else (
        if (x0.second != x1.second)=true then (
         some false)
        else (
         some true))))))))
def Za5 (x0:GDev) (x1:GDev):Option Bool:=
 (Y0 x0.regs x1.regs).bind fun r0=>
 if (!r0)=true then (
  some false)
 else (
  if decide (x0.timer≠x1.timer)=true then (
   some false)
  else (
   (Y0 x0.fifo x1.fifo).bind fun r1=>
   if (!r1)=true then (
    some false)
   else (
    some true)))
def Qd (x0:GModel) (x1:GModel):Option Bool:=
 (Y0 x0.mem x1.mem).bind fun r0=>
 if (!r0)=true then (
  some false)
 else (
  (Za5 x0.dev x1.dev).bind fun r1=>
  if (!r1)=true then (
   some false)
  else (
   some true))
def Wr (x0:GDone) (x1:GDone):Option Bool:=
 if decide (x0.cycle≠x1.cycle)=true then (
  some false)
 else (
  if decide (x0.who≠x1.who)=true then (
   some false)
  else (
   if (x0.write != x1.write)=true then (
    some false)
   else (
    if decide (x0.addr≠x1.addr)=true then (
     some false)
    else (
     if decide (x0.size≠x1.size)=true then (
      some false)
     else (
      if decide (x0.value≠x1.value)=true then (
       some false)
      else (
       if decide (x0.resp≠x1.resp)=true then (
        some false)
       else (
        some true)))))))
def Zbv (x0:List GDone) (x1:List GDone)  (k:Int→Option Bool) (v0:Int):Option Bool:=
 if decide (v0 < (x0.length:Int))=true then (
  (idx x0 v0).bind fun a0=>
  (idx x1 v0).bind fun a1=>
  (Wr a0 a1).bind fun r0=>
  if (!r0)=true then (
   some false)
  else (
   k (addW v0 1)))
 else (
  some true)
def Xr (x0:List GDone) (x1:List GDone)  : Nat→Int→Option Bool
 | 0,_=>none
 | m+1,v0=>Zbv x0 x1  (Xr x0 x1  m) v0
def Qi (x0:List GDone) (x1:List GDone):Option Bool:=
 if decide ((x0.length:Int)≠(x1.length:Int))=true then (
  some false)
 else (
  Xr x0 x1 FU 0)
def Ks (x0:GBus) (x1:GBus):Option Bool:=
 (Qv x0.conf x1.conf).bind fun r0=>
 if (!r0)=true then (
  some false)
 else (
  if decide (x0.now≠x1.now)=true then (
   some false)
  else (
   (Qz x0.m x1.m).bind fun r1=>
   if (!r1)=true then (
    some false)
   else (
    (Kt x0.arb x1.arb).bind fun r2=>
    if (!r2)=true then (
     some false)
    else (
     (Wl x0.buckets x1.buckets).bind fun r3=>
     if (!r3)=true then (
      some false)
     else (
      (Y0 x0.splits x1.splits).bind fun r4=>
      if (!r4)=true then (
       some false)
      else (
       if decide (x0.holder≠x1.holder)=true then (
        some false)
       else (
        if decide (x0.held≠x1.held)=true then (
         some false)
        else (
         if decide (x0.last≠x1.last)=true then (
          some false)
         else (
          (Wx x0.addr x1.addr).bind fun r5=>
          if (!r5)=true then (
           some false)
          else (
           (Wx x0.data_ x1.data_).bind fun r6=>
           if (!r6)=true then (
            some false)
           else (
            (Qd x0.model x1.model).bind fun r7=>
            if (!r7)=true then (
             some false)
            else (
             if decide (x0.picks≠x1.picks)=true then (
              some false)
             else (
              (Qi x0.log x1.log).bind fun r8=>
              if (!r8)=true then (
               some false)
              else (
               some true))))))))))))))
def Xl (x0:GBus) (x1:Int):Option Bool:=
 (Zao x0 1048576).bind fun r0=>
 if decide (r0 < 0)=true then (
  some true)
 else (
  (Wo x0).bind fun r1=>
  (Kl r1 x1).bind fun r2=>
  (Wo x0).bind fun r3=>
  (Wy r3 x1).bind fun r4=>
  if decide (r4≠r2)=true then (
   some false)
  else (
   (Wo x0).bind fun r5=>
   (Ks r3 r5).bind fun r6=>
   if (!r6)=true then (
    some false)
   else (
    some true)))
end Go.Proofs.Ytgmmcfpabnoekaa.Ev
namespace Go.Proofs.Ytgmmcfpabnoekaa.Ev
open Go Go.Proofs Go.RowKit
set_option linter.unusedVariables false
set_option linter.unusedSimpArgs false
def GMConf.enc (x:GMConf):List V:=[.lit (.int .i64 x.weight),.lit (.bool x.prio),.lit (.int .i64 x.every),.lit (.int .i64 x.cap)]
def GConf.enc (x:GConf):List V:=[.tr (x.masters.map GMConf.enc),.lit (.int .i64 x.quantum),.lit (.int .i64 x.maxWait),.lit (.int .i64 x.maxRetry),.lit (.int .i64 x.maxSplit),.lit (.int .i64 x.lockMost)]
def GReq.enc (x:GReq):List V:=[.lit (.bool x.write),.lit (.int .i64 x.addr),.lit (.int .i64 x.size),.lit (.int .i64 x.burst),.lit (.bool x.lock),.tr (x.data_.map encI)]
def GMst.enc (x:GMst):List V:=[.tr (x.queue.map GReq.enc),.lit (.int .i64 x.beat),.lit (.int .i64 x.done),.lit (.int .i64 x.tries),.lit (.bool x.parted),.lit (.bool x.broken)]
def GWrr.enc (x:GWrr):List V:=[.lit (.int .i64 x.at_),.lit (.int .i64 x.credit)]
def GBucket.enc (x:GBucket):List V:=[.lit (.int .i64 x.tokens),.lit (.int .i64 x.count)]
def GBeat.enc (x:GBeat):List V:=[.lit (.bool x.live),.lit (.int .i64 x.who),.lit (.int .i64 x.beat),.lit (.bool x.first),.lit (.int .i64 x.by_),.lit (.int .i64 x.left),.lit (.int .i64 x.resp),.lit (.bool x.second)]
def GDev.enc (x:GDev):List V:=[.tr (x.regs.map encI),.lit (.int .i64 x.timer),.tr (x.fifo.map encI)]
def GModel.enc (x:GModel):List V:=[.tr (x.mem.map encI),.tr (x.dev.regs.map encI),.lit (.int .i64 x.dev.timer),.tr (x.dev.fifo.map encI)]
def GDone.enc (x:GDone):List V:=[.lit (.int .i64 x.cycle),.lit (.int .i64 x.who),.lit (.bool x.write),.lit (.int .i64 x.addr),.lit (.int .i64 x.size),.lit (.int .i64 x.value),.lit (.int .i64 x.resp)]
theorem GDone.enc_len (x:GDone):(GDone.enc x).length=7:=rfl
theorem GDone.enc_lit (x:GDone):(GDone.enc x).all Zcy=true:=rfl
def GBus.enc (x:GBus):List V:=[.tr (x.conf.masters.map GMConf.enc),.lit (.int .i64 x.conf.quantum),.lit (.int .i64 x.conf.maxWait),.lit (.int .i64 x.conf.maxRetry),.lit (.int .i64 x.conf.maxSplit),.lit (.int .i64 x.conf.lockMost),.lit (.int .i64 x.now),.tr (x.m.map GMst.enc),.lit (.int .i64 x.arb.at_),.lit (.int .i64 x.arb.credit),.tr (x.buckets.map GBucket.enc),.tr (x.splits.map encI),.lit (.int .i64 x.holder),.lit (.int .i64 x.held),.lit (.int .i64 x.last),.lit (.bool x.addr.live),.lit (.int .i64 x.addr.who),.lit (.int .i64 x.addr.beat),.lit (.bool x.addr.first),.lit (.int .i64 x.addr.by_),.lit (.int .i64 x.addr.left),.lit (.int .i64 x.addr.resp),.lit (.bool x.addr.second),.lit (.bool x.data_.live),.lit (.int .i64 x.data_.who),.lit (.int .i64 x.data_.beat),.lit (.bool x.data_.first),.lit (.int .i64 x.data_.by_),.lit (.int .i64 x.data_.left),.lit (.int .i64 x.data_.resp),.lit (.bool x.data_.second),.tr (x.model.mem.map encI),.tr (x.model.dev.regs.map encI),.lit (.int .i64 x.model.dev.timer),.tr (x.model.dev.fifo.map encI),.lit (.int .i64 x.picks),.tr (x.log.map GDone.enc)]
def GBus.ow (x:GBus):List V:=[.own 110 (x.conf.masters.map GMConf.enc),il x.conf.quantum,il x.conf.maxWait,il x.conf.maxRetry,il x.conf.maxSplit,il x.conf.lockMost,il x.now,.own 91 (x.m.map GMst.enc),il x.arb.at_,il x.arb.credit,.own 94 (x.buckets.map GBucket.enc),.own 3 (x.splits.map encI),il x.holder,il x.held,il x.last,bl x.addr.live,il x.addr.who,il x.addr.beat,bl x.addr.first,il x.addr.by_,il x.addr.left,il x.addr.resp,bl x.addr.second,bl x.data_.live,il x.data_.who,il x.data_.beat,bl x.data_.first,il x.data_.by_,il x.data_.left,il x.data_.resp,bl x.data_.second,.own 3 (x.model.mem.map encI),.own 3 (x.model.dev.regs.map encI),il x.model.dev.timer,.own 3 (x.model.dev.fifo.map encI),il x.picks,.own 87 (x.log.map GDone.enc)]
theorem GBus.so (x:GBus) {q:List O} {p:Prop} (h:Scr q p):Scr q ((x.conf.masters.map GMConf.enc).length=(x.conf.masters.map GMConf.enc).length∧(x.m.map GMst.enc).length=(x.m.map GMst.enc).length∧(x.buckets.map GBucket.enc).length=(x.buckets.map GBucket.enc).length∧(x.splits.map encI).length=(x.splits.map encI).length∧(x.model.mem.map encI).length=(x.model.mem.map encI).length∧(x.model.dev.regs.map encI).length=(x.model.dev.regs.map encI).length∧(x.model.dev.fifo.map encI).length=(x.model.dev.fifo.map encI).length∧(x.log.map GDone.enc).length=(x.log.map GDone.enc).length∧p):=⟨rfl,rfl,rfl,rfl,rfl,rfl,rfl,rfl,h⟩
def GDev.ow (x:GDev):List V:=[.own 3 (x.regs.map encI),il x.timer,.own 3 (x.fifo.map encI)]
theorem GDev.so (x:GDev) {q:List O} {p:Prop} (h:Scr q p):Scr q ((x.regs.map encI).length=(x.regs.map encI).length∧(x.fifo.map encI).length=(x.fifo.map encI).length∧p):=⟨rfl,rfl,h⟩
def GModel.ow (x:GModel):List V:=[.own 3 (x.mem.map encI),.own 3 (x.dev.regs.map encI),il x.dev.timer,.own 3 (x.dev.fifo.map encI)]
theorem GModel.so (x:GModel) {q:List O} {p:Prop} (h:Scr q p):Scr q ((x.mem.map encI).length=(x.mem.map encI).length∧(x.dev.regs.map encI).length=(x.dev.regs.map encI).length∧(x.dev.fifo.map encI).length=(x.dev.fifo.map encI).length∧p):=⟨rfl,rfl,rfl,h⟩
abbrev rx (n t:Nat) (R:List (List V)):Id×Blk:=((1,n),⟨false,true,true,t,R⟩)
end Go.Proofs.Ytgmmcfpabnoekaa.Ev
