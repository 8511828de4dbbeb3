/- A part of the proof of FnExactReadConf: see the text YtlcfolgfmlgncaaDoorLawFnExactReadConf for what is proved and its conditions. Conditions here: those in each line. -/
import Derived.Test.YtlcfolgfmlgncaaDoorA2
import Derived.Deep.DeepFit
import Derived.KernelRfl
import Derived.Lib.AtoiAll
import Derived.Lib.ItoaNum
import Derived.Lib.Join
import Derived.Lib.Split
import Derived.Lib.Strings
import Derived.Shelf.LaysC
import Derived.Shelf.LaysM
import Derived.Shelf.Strconv.AtoiAll
import Derived.Shelf.Strconv.Itoa3
import Derived.Shelf.Strings.OnBuilder
import Derived.Shelf.Strings.Prefix
import Derived.Shelf.Strings.SplitShaped
import Derived.Test.YtlcfolgfmlgncaaDoorProg
import Derived.WalkKit
import GoSem.ClaimData
namespace Go.Proofs.YtlcfolgfmlgncaaDoor.Ev
open Go Go.RowKit KM
set_option linter.unusedVariables false
set_option linter.unusedSimpArgs false
set_option linter.unusedSectionVars false
variable [Anchor]
section
variable {P:Program} {M:Hints}
def Zd8 (ts:List (Option TypeId)) (x:V) (s:St):KM (V×St):=
 match x with
 | .agg cs=>bnd (Ke ts cs s) fun y=>ret (.agg y.1,y.2)
 | .ptr id 0 0=>bnd (Zah s ts id) fun y=>ret (.obx y.1,y.2)
 | x=>Jc s (ts.headD none) x
theorem Zjf {s:St} {ts:List (Option TypeId)} {x:V}:KS (Zd8 ts x s) (s.liftOne ts x):=by
 unfold Zd8
 split
 ·exact Zx Jh
 ·exact Zx Za1
 ·rename_i _ h1 h2
  have:s.liftOne ts x=s.giveCell (ts.headD none) x:=by
   unfold St.liftOne
   split<;>simp_all
  rw[this];exact Zad
def Zek (P:Program):List TypeId→List V→(s:St)→KM (List V×St)
 | _,[],s=>ret ([],s)
 | ts,x::r,s=>bnd (Zd8 (Zbf P (ts.headD 0)) x s) fun y=>bnd (Zek P ts.tail r y.2) fun z=>ret (y.1::z.1,z.2)
theorem Zi7:∀{xs:List V} {s:St} {ts:List TypeId},KS (Zek P ts xs s) (s.liftAll P ts xs):=by
 intro xs
 induction xs with
 | nil=>intro s ts;exact Z1
 | cons x xs ih=>intro s ts;exact Wi Zjf fun y=>Zx ih
def W8 (p:Nat):(k:Nat)→List V→(s:St)→KM (List V×St)
 | _,[],s=>ret ([],s)
 | k,x::r,s=>match x with
  | .own e rows=>bnd (Zbg s (0,64*p+k) 0 rows.length) fun er=>if er.1=e then bnd (W8 p (k+1) r (s.kill (0,64*p+k))) fun z=>ret (.own er.1 er.2::z.1,z.2) else fail
  | _=>bnd (W8 p (k+1) r s) fun z=>ret (.undef::z.1,z.2)
theorem Zc1 {p:Nat}:∀{xs:List V} {k:Nat} {s:St},KS (W8 p k xs s) (s.outCells p k xs):=by
 intro xs
 induction xs with
 | nil=>intro k s;exact Z1
 | cons x xs ih=>
  intro k s
  cases x with
  | own e rows=>
   simp only[W8,St.outCells]
   refine Za Zax (fun er he=>?_)
   rw[he,Option.bind_some]
   refine Zs (fun hx=>?_) (fun _=>Zb)
   rw[if_pos hx]
   exact Zx ih
  | _=>
   simp only[W8,St.outCells]
   exact Zx ih
def outK (p:Nat) (ts:List (Option TypeId)) (m:Mode) (x:V) (s:St):KM (V×St):=
 match m with
 | .rd|.mv=>ret (.undef,s)
 | .io=>match x with
  | .agg cs=>bnd (Zah s ts (0,64*p+63)) fun y=>if y.1.length=cs.length then ret (.agg y.1,y.2) else fail
  | _=>fail
 | .iov=>match x with
  | .agg cs=>bnd (W8 p 0 cs s) fun y=>ret (.agg y.1,y.2)
  | x=>bnd (W8 p 0 [x] s) fun y=>bnd (opt y.1.head?) fun v=>ret (v,y.2)
theorem Zpm {s:St} {p:Nat} {ts:List (Option TypeId)} {m:Mode} {x:V}:KS (outK p ts m x s) (s.out p ts m x):=by
 cases m
 ·exact Z1
 ·cases x with
  | agg cs=>
   simp only[outK,St.out]
   refine Za Za1 (fun y hy=>?_)
   rw[hy]
   simp only[Option.bind_some]
   refine Zs (fun hx=>?_) (fun _=>Zb)
   rw[if_pos hx]
   exact Ze rfl
  | _=>exact Zb
 ·exact Z1
 ·cases x with
  | agg cs=>exact Zx Zc1
  | _=>simp only[outK,St.out];exact Wi Zc1 fun y=>Zx Ja
def Zld (P:Program):(p:Nat)→List TypeId→List Mode→List V→(s:St)→KM (List V)
 | _,_,_,[],s=>ret []
 | p,ts,ms,x::r,s=>bnd (outK p (Zbf P (ts.headD 0)) (ms.headD .rd) x s) fun y=>bnd (Zld P (p+1) ts.tail ms.tail r y.2) fun z=>ret (y.1::z)
theorem Zm3:∀{xs:List V} {s:St} {p:Nat} {ts:List TypeId} {ms:List Mode},KS (Zld P p ts ms xs s) (s.outs P p ts ms xs):=by
 intro xs
 induction xs with
 | nil=>intro s p ts ms;exact Z1
 | cons x xs ih=>intro s p ts ms;exact Wi Zpm fun y=>Zx ih
def retK (P:Program) (M:Hints) (f:FuncId) (fn:Func) (xs:List V) (s:St):KM (V×List V):=
 bnd (opt (resV P s fn.results.toList)) fun vs=>bnd (Zek P fn.resultTypes.toList vs s) fun z=>bnd (Zld P 0 fn.params.toList (M.modes f) xs z.2) fun os=>ret (Zdi z.1,os)
theorem Zkb {f:FuncId} {fn:Func} {xs:List V} {s:St}:KS (retK P M f fn xs s) ((resV P s fn.results.toList).bind fun vs=>(s.liftAll P fn.resultTypes.toList vs).bind fun z=>(z.2.outs P 0 fn.params.toList (M.modes f) xs).map fun os=>(Zdi z.1,os)):=
 Wi Ja fun vs=>Wi Zi7 fun z=>Zx Zm3
def Zku (P:Program) (M:Hints) (s:St) (k:Nat) (g:FuncId) (args:List V):KM (V×St):=
 if args.length≤8 then bnd (Zit P (((P.funcs[g]?).map (·.params.toList)).getD []) (M.modes g) args s) fun y=>bnd (Zfj y.2 (M.modes g) y.1) fun xs=>bnd hear fun o=>match o with
  | .res r os=>bnd (obl (Fine P M (g,xs,r,os))) fun _=>if ((Zcc r||os.any Wq)&&!Qf (M.modes g) args)=true then fail else
   bnd (Zim s.ep (M.modes g) (16*k+8) args os y.2) fun s'=>opt (s'.takeRes s.ep (16*k) r)
  | _=>fail
 else fail
theorem Zm1 (hP:FuncsOk P) {s:St} {k:Nat} {g:FuncId} {args:List V}:KP (Zku P M s k g args) (fun y=>∃C,Xw P M C∧Qy P M C s k g args=some y):=by
 unfold Zku
 refine Zs (fun h8=>?_) (fun _=>Zb)
 refine Za Zl9 (fun y hy=>Za Zml (fun xs hx=>Za Z4 (fun o _=>?_)))
 split
 ·rename_i r os
  refine Za Zf (fun _ hf=>Zs (fun _=>Zb) (fun ht=>Za Zmn (fun s' hs=>Y7.mono fun z hz=>⟨one (g,xs,r,os),one_ok hP hf,?_⟩)))
  unfold Qy
  rw[if_pos h8,hy,Option.bind_some,hx,Option.bind_some]
  have h1:one (g,xs,r,os) g xs=some (r,os):=by unfold one;rw[if_pos ⟨rfl,rfl⟩]
  rw[h1,Option.bind_some]
  simp only
  rw[if_neg ht,hs,Option.bind_some,hz]
 ·exact Zb
def Zh3 (s:St) (all:Bool) (x:V) (m:List (List V)) (lb:Bool):KM St:=
 match x with
 | .sl id off len=>if id.1=s.ep∨all=true then (if lb=true then bnd (Zbg s id off len) fun er=>bnd (obl (er.2=m)) fun _=>ret (s.kill id) else match s.heap id with
   | some b=>if b.cl=false then bnd (Kv s (.sl id off len)) fun rows=>bnd (obl (rows=m)) fun _=>bnd (obl (Xc m=lb)) fun _=>ret s else fail
   | none=>fail)
  else bnd (Kv s x) fun rows=>bnd (obl (rows=m)) fun _=>bnd (obl (Xc m=lb)) fun _=>ret s
 | x=>bnd (Kv s x) fun rows=>bnd (obl (rows=m)) fun _=>bnd (obl (Xc m=lb)) fun _=>ret s
theorem Zlj {s:St} {all:Bool} {x:V} {m:List (List V)} {lb:Bool}:KP (Zh3 s all x m lb) (fun s1=>s.moved all x=some (m,lb,s1)):=by
 unfold Zh3
 split
 ·rename_i id off len
  simp only[St.moved]
  refine Zs (fun hx=>Zs (fun hl=>?_) (fun _=>?_)) (fun hn=>?_)
  ·refine Za Zax (fun er he=>Za Zf (fun _ hm=>Ze ?_))
   rw[if_pos hx,he,hl]
   simp only[hm]
  ·split
   ·rename_i b hb
    refine Zs (fun hc=>?_) (fun _=>Zb)
    refine Za X9 (fun rows hr=>Za Zf (fun _ hm=>Za Zf (fun _ hl=>Ze ?_)))
    have hw:s.whole id off len=none:=by
     unfold St.whole
     rw[hb,Option.bind_some,if_neg (fun h=>by rw[hc] at h;cases h.2.2.1)]
    rw[if_pos hx,hw,hr]
    simp only[Option.map_some,hm,hl]
   ·exact Zb
  ·refine Za X9 (fun rows hr=>Za Zf (fun _ hm=>Za Zf (fun _ hl=>Ze ?_)))
   rw[if_neg hn,hr]
   simp only[Option.map_some,hm,hl]
 ·rename_i _ hne
  refine Za X9 (fun rows hr=>Za Zf (fun _ hm=>Za Zf (fun _ hl=>Ze ?_)))
  have:s.moved all x=(s.rowsOf x).map fun rows=>(rows,Xc rows,s):=by
   unfold St.moved
   split<;>simp_all
  rw[this,hr]
  simp only[Option.map_some,hm,hl]
def appK (P:Program) (all:Bool) (s:St) (id:Id) (t:TypeId) (b x:V):KM (V×St):=
 bnd (opt (Z3 P t)) fun e=>bnd hear fun o=>match o with
 | .app m lb R n=>bnd (Zh3 s all x m lb) fun s1=>if Zc P e≠0∧Kn P e=true then bnd (obl (Qg (Zc P e) m=true)) fun _=>
  match b with
  | .lit (.slice none 0 0)=>bnd (obl (m.length*P.bytesOf e≤140737488355328∧m.length≤9223372036854775807)) fun _=>bnd (obl (m=R)) fun _=>bnd (obl (n=R.length)) fun _=>ret (.sl id 0 n,s1.setB id ⟨false,true,lb,e,R⟩)
  | .sl i 0 len=>match s1.heap i with
   | some k=>if k.box=false∧k.own=true∧k.el=e then bnd (obl (len=k.rows.length)) fun _=>bnd (obl ((len+m.length)*P.bytesOf e≤140737488355328∧len+m.length≤9223372036854775807)) fun _=>
     bnd (obl (k.rows++m=R)) fun _=>bnd (obl (n=R.length)) fun _=>ret (.sl id 0 n,(s1.kill i).setB id ⟨false,true,k.cl&&lb,e,R⟩) else fail
   | none=>fail
  | _=>fail
  else fail
 | _=>fail
theorem Zoq {all:Bool} {s:St} {id:Id} {t:TypeId} {b x:V}:KS (appK P all s id t b x) (W5 P all s id t b x):=by
 unfold appK W5
 refine Wi Ja fun e=>Za Z4 (fun o _=>?_)
 split
 ·rename_i m lb R n
  refine Za Zlj (fun s1 hm=>Zs (fun hz=>Za Zf (fun _ ha=>?_)) (fun _=>Zb))
  rw[hm,Option.bind_some,if_pos ⟨ha,hz.1,hz.2⟩]
  split
  ·refine Za Zf (fun _ h1=>Za Zf (fun _ h2=>Za Zf (fun _ h3=>Ze ?_)))
   rw[if_pos h1,h3,h2]
   rfl
  ·rename_i i len
   simp only
   split
   ·rename_i k hk
    refine Zs (fun hx=>?_) (fun _=>Zb)
    refine Za Zf (fun _ h0=>Za Zf (fun _ h1=>Za Zf (fun _ h2=>Za Zf (fun _ h3=>Ze ?_))))
    rw[hk,Option.bind_some,if_pos ⟨hx.1,hx.2.1,by omega,hx.2.2,h1⟩,h3,←h2,List.drop_zero,List.length_append,h0]
   ·exact Zb
  ·exact Zb
 ·exact Zb
def Zg3 (c:Bool):KM Bool:=bnd hear fun o=>match o with
 | .t e=>bnd (obl (c=e)) fun _=>ret e
 | .k=>ret c
 | _=>fail
theorem Zik {c:Bool}:KP (Zg3 c) (fun e=>c=e):=by
 unfold Zg3
 refine Za Z4 (fun o _=>?_)
 split
 ·exact Za Zf (fun _ h=>Ze h)
 ·exact Ze rfl
 ·exact Zb
def J9 (p:Prop) [Decidable p]:KM Unit:=bnd hear fun o=>match o with
 | .k=>if p then ret () else fail
 | .obl=>obl p
 | _=>fail
theorem Jd {p:Prop} [Decidable p]:KP (J9 p) (fun _=>p):=by
 unfold J9
 refine Za Z4 (fun o _=>?_)
 split
 ·exact Zs (fun h=>Ze h) (fun _=>Zb)
 ·exact Zf
 ·exact Zb
def Zk6 (op:BinOp) (k k':IntKind) (a b:Int):KM V:=
 match op with
 | .shl=>bnd (J9 (0≤b)) fun _=>ret (.lit (.int k (k.wrap (a*2^min b.toNat k.bits))))
 | .shr=>bnd (J9 (0≤b)) fun _=>ret (.lit (.int k (a.fdiv (2^min b.toNat k.bits))))
 | .quo=>if k=k' then bnd (J9 (b≠0)) fun _=>ret (.lit (.int k (k.wrap (a.tdiv b)))) else fail
 | .rem=>if k=k' then bnd (J9 (b≠0)) fun _=>ret (.lit (.int k (a.tmod b))) else fail
 | op=>opt (binI op k k' a b)
theorem Znl {op:BinOp} {k k':IntKind} {a b:Int}:KS (Zk6 op k k' a b) (binI op k k' a b):=by
 unfold Zk6
 split
 ·refine Za Jd (fun _ h=>Ze ?_)
  simp only[binI];rw[if_neg (by omega)]
 ·refine Za Jd (fun _ h=>Ze ?_)
  simp only[binI];rw[if_neg (by omega)]
 ·refine Zs (fun hk=>Za Jd (fun _ h=>Ze ?_)) (fun _=>Zb)
  simp only[binI];rw[if_pos hk,if_neg h]
 ·refine Zs (fun hk=>Za Jd (fun _ h=>Ze ?_)) (fun _=>Zb)
  simp only[binI];rw[if_pos hk,if_neg h]
 ·exact Ja
def Zkl (op:BinOp) (a b:ByteArray):KM V:=
 match op with
 | .add=>bnd (J9 (¬((a.size+b.size:Nat):Int) > IntKind.i64.max)) fun _=>ret (.lit (.string (a++b)))
 | op=>opt (binS op a b)
theorem Zog {op:BinOp} {a b:ByteArray}:KS (Zkl op a b) (binS op a b):=by
 unfold Zkl
 split
 ·refine Za Jd (fun _ h=>Ze ?_)
  simp only[binS];rw[if_neg h]
 ·exact Ja
def opK (P:Program) (M:Hints) (f:Operand→V) (s:St) (k:Nat) (o:Oper):KM (V×St):=
 match o.op with
 | .binOp op t x y yt=>match f x,f y with
  | .lit (.int k1 a),.lit (.int k2 b)=>bnd (Zk6 op k1 k2 a b) fun v=>ret (v,s)
  | .lit (.string a),.lit (.string b)=>bnd (Zkl op a b) fun v=>ret (v,s)
  | .lit (.bool a),.lit (.bool b)=>match op,P.underlying t with
   | .eql,some .bool=>ret (.lit (.bool (a == b)),s)
   | .neq,some .bool=>ret (.lit (.bool (a != b)),s)
   | _,_=>fail
  | .agg xs,.agg ys=>if (Y1 xs).isSome=true∧(Y1 ys).isSome=true∧Zb9 P t xs=true then bnd (opt (Xj xs ys)) fun b=>match op with
   | .eql=>ret (.lit (.bool b),s)
   | .neq=>ret (.lit (.bool (!b)),s)
   | _=>fail
   else fail
  | a,.lit (.slice none 0 0)=>match a with
   | .sl ..|.tr _|.vw _=>if (Z3 P t).isSome=true then bnd (Kv s a) fun rows=>bnd (obl (rows≠[])) fun _=>match op with
    | .eql=>ret (.lit (.bool false),s)
    | .neq=>ret (.lit (.bool true),s)
    | _=>fail
    else fail
   | _=>opt (Zh P M Zk f s k o)
  | _,_=>opt (Zh P M Zk f s k o)
 | .buildSlice t n parts=>bnd (opt (Z3 P t)) fun e=>bnd (opt (if n*Zc P e=0 then some [] else X7 P e)) fun z=>
  if Zc P e=0∨n*Zc P e > 1048576∨Kn P e=false then fail else
  bnd (opt (Kk P (fun i=>some (i*Zc P e,Zc P e)) (List.replicate n z).flatten (parts.toList.map fun p=>(p.1,f p.2)))) fun cs=>
   bnd (Zdb (Km (Zc P e) n cs) s) fun y=>ret (.sl (s.ep,1024*k) 0 n,y.2.2.setB (s.ep,1024*k) ⟨false,true,y.2.1,e,y.1⟩)
 | .pick c a b=>match f c with
  | .lit (.bool t)=>bnd (Zg3 t) fun e=>if e then ret (f a,s) else ret (f b,s)
  | _=>fail
 | .indexAddr t x ix=>bnd (opt (Z3 P t)) fun e=>if Zc P e=0 then fail else bnd hear fun q=>match q with
  | .row n r=>if r.length=Zc P e then bnd (obl (Zy (f ix)=some n)) fun _=>match f x with
   | .sl i off len=>bnd (obl (n < len)) fun _=>match s.heap i with
    | some b=>bnd (obl (b.rows[offN off n]?=some r)) fun _=>ret (.ptr i (offN off n) 0,s)
    | none=>fail
   | .tr rows=>bnd (obl (rows[n]?=some r)) fun _=>ret (.rp true r 0,s)
   | .vw rows=>bnd (obl (rows[n]?=some r)) fun _=>ret (.rp false r 0,s)
   | _=>fail
   else fail
  | _=>fail
 | .load t a=>match f a with
  | .ptr i j n=>match s.heap i with
   | some b=>match b.box with
    | true=>opt (Zh P M Zk f s k o)
    | false=>bnd hear fun q=>match q with
     | .cell row=>bnd (obl (b.rows[j]?=some row)) fun _=>if n+Zc P t≤row.length then bnd (opt (Wv P t ((row.drop n).take (Zc P t)))) fun v=>ret (v,s) else fail
     | _=>fail
   | none=>fail
  | _=>opt (Zh P M Zk f s k o)
 | .store t a x=>match f a with
  | .ptr i j n=>match s.heap i with
   | some b=>match b.box with
    | true=>opt (Zh P M Zk f s k o)
    | false=>bnd hear fun q=>match q with
     | .put row R=>bnd (obl (b.rows[j]?=some row)) fun _=>bnd (opt (Kp (f x))) fun cs=>if b.own=true∧cs.length=Zc P t∧n+Zc P t≤row.length∧Zc P t≠0 then
       bnd (Ji cs s) fun y=>match y.2.2.heap i with
        | some b=>bnd (obl (b.rows.set j (Yh row n y.1)=R)) fun _=>ret (.undef,y.2.2.setB i ⟨b.box,b.own,b.cl&&y.2.1,b.el,R⟩)
        | none=>fail
       else fail
     | _=>fail
   | none=>fail
  | _=>fail
 | .slice t x lo hi none=>match f x with
  | .sl id off len=>bnd hear fun q=>match q with
   | .num l h n R=>bnd (opt (Z3 P t)) fun e=>bnd (Kv s (f x)) fun rows=>bnd (obl (match lo with|some z=>Zy (f z)=some l|none=>l=0)) fun _=>bnd (obl (match hi with|some z=>Zy (f z)=some h|none=>rows.length=h)) fun _=>
    bnd (obl (l≤h∧h≤rows.length)) fun _=>bnd (obl (Qg (Zc P e) rows=true)) fun _=>bnd (obl (n=h - l)) fun _=>if Zc P e≠0 then ret (.sl id (offN off l) n,s) else fail
   | _=>fail
  | .tr _|.vw _=>bnd hear fun q=>match q with
   | .num l h n R=>bnd (opt (Z3 P t)) fun e=>bnd (Kv s (f x)) fun rows=>bnd (obl (match lo with|some z=>Zy (f z)=some l|none=>l=0)) fun _=>bnd (obl (match hi with|some z=>Zy (f z)=some h|none=>rows.length=h)) fun _=>
    bnd (obl (l≤h∧h≤rows.length)) fun _=>bnd (obl (Qg (Zc P e) rows=true)) fun _=>bnd (obl ((rows.drop l).take (h - l)=R)) fun _=>if Zc P e≠0 then ret ((match f x with|.tr _=>.tr R|_=>.vw R),s) else fail
   | _=>fail
  | .lit (.string b)=>match P.underlying t with
   | some .string=>bnd hear fun q=>match q with
    | .val (.lit (.string c))=>bnd (obl (ssl b (lo.map f) (hi.map f)=some c)) fun _=>ret (.lit (.string c),s)
    | _=>fail
   | _=>fail
  | _=>opt (Zh P M Zk f s k o)
 | .index t x ix=>match f x with
  | .lit (.string b)=>match P.underlying t with
   | some .string=>bnd hear fun q=>match q with
    | .val (.lit (.int _ m))=>bnd (obl (sidx b (f ix)=some m)) fun _=>ret (.lit (.int .u8 m),s)
    | _=>fail
   | _=>fail
  | _=>opt (Zh P M Zk f s k o)
 | .convert src dst x=>match f x with
  | .sl ..|.tr _|.vw _=>match P.underlying src,P.underlying dst with
   | some (.slice e),some .string=>match P.underlying e with
    | some (.int .u8)=>bnd (Kv s (f x)) fun rows=>bnd hear fun q=>match q with
     | .val (.lit (.string c))=>bnd (obl (strV rows=some c)) fun _=>ret (.lit (.string c),s)
     | _=>fail
    | _=>fail
   | _,_=>fail
  | _=>opt (Zh P M Zk f s k o)
 | .makeSlice t l c=>bnd hear fun q=>match q with
  | .mk n R=>bnd (opt (Z3 P t)) fun e=>bnd (opt (X7 P e)) fun z=>bnd (obl (Zy (f l)=some n)) fun _=>bnd (obl (Zy (f c)=some n)) fun _=>bnd (obl (n*P.bytesOf e≤70368744177664∧n≤9223372036854775807)) fun _=>
   bnd (obl (List.replicate n (z.map Yz)=R)) fun _=>if z.length=Zc P e∧Zc P e≠0 then ret (.sl (s.ep,1024*k) 0 R.length,s.setB (s.ep,1024*k) ⟨false,true,true,e,R⟩) else fail
  | _=>fail
 | .call c=>match c.callee with
  | .value g=>match f g with
   | .fn g caps=>Zku P M s k g (c.args.toList.map f++caps)
   | _=>fail
  | .builtin .append=>match c.args.toList,c.argTypes.toList with
   | [b,x],[t,t']=>if t=t' then appK P (M.mv o.pos) s (s.ep,1024*k) t (f b) (f x) else fail
   | _,_=>fail
  | .builtin .len=>match c.args.toList,c.argTypes.toList with
   | [x],[t]=>match f x with
    | .sl _ _ n=>bnd hear fun q=>match q with
     | .num m _ _ _=>bnd (obl (n=m)) fun _=>if (Z3 P t).isSome=true then ret (.lit (.int .i64 m),s) else fail
     | _=>fail
    | .tr rows|.vw rows=>bnd hear fun q=>match q with
     | .num m _ _ _=>bnd (obl (rows.length=m)) fun _=>if (Z3 P t).isSome=true then ret (.lit (.int .i64 m),s) else fail
     | _=>fail
    | _=>opt (Zh P M Zk f s k o)
   | _,_=>fail
  | .builtin .clear=>match c.args.toList,c.argTypes.toList with
   | [x],[t]=>bnd (opt (Z3 P t)) fun e=>bnd (opt (X7 P e)) fun z=>match f x with
    | .sl i off n=>match s.heap i with
     | some b=>bnd hear fun q=>match q with
      | .app R _ _ _=>if b.own=true∧b.box=false∧b.el=e∧z.length=Zc P e∧Zc P e≠0 then bnd (obl (off+n≤b.rows.length)) fun _=>
        bnd (obl (b.rows.take off++List.replicate n (z.map Yz)++b.rows.drop (off+n)=R)) fun _=>ret (.tup [],s.setB i ⟨b.box,b.own,b.cl,b.el,R⟩) else fail
      | _=>fail
     | none=>fail
    | _=>fail
   | _,_=>fail
  | _=>opt (Zh P M Zk f s k o)
 | _=>opt (Zh P M Zk f s k o)
end
section
variable {P:Program} {M:Hints}
def OpOk (P:Program) (M:Hints) (f:Operand→V) (s:St) (k:Nat) (o:Oper) (y:V×St):Prop:=∃C,Xw P M C∧Zh P M C f s k o=some y
theorem Xx (hP:FuncsOk P) {f:Operand→V} {s:St} {k:Nat} {o:Oper}:KP (opt (Zh P M Zk f s k o)) (OpOk P M f s k o):=Y7.mono fun y h=>⟨Zk,Zo hP,h⟩
theorem Zms (hP:FuncsOk P) {f:Operand→V} {s:St} {k:Nat} {d:Option Tmp} {ty t yt:TypeId} {pos:String} {af:Array Edge} {g:Option (Nat×Bool)} {op:BinOp} {x y:Operand}:KP (opK P M f s k ⟨d,.binOp op t x y yt,ty,pos,af,g⟩) (OpOk P M f s k ⟨d,.binOp op t x y yt,ty,pos,af,g⟩):=by
 have base:∀{v:V},binX P op t x y (f x) (f y)=some v→(∃a b,f x=.lit a∧f y=.lit b)→Zh P M Zk f s k ⟨d,.binOp op t x y yt,ty,pos,af,g⟩=some (v,s):=fun {v} h ⟨a,b,h1,h2⟩=>by
  have e:Zr P f ⟨d,.binOp op t x y yt,ty,pos,af,g⟩=some v:=by rw[Zlo];exact h
  simp only[Zh,h1,h2,e,Option.map_some]
 have base2:∀{v:V},binX P op t x y (f x) (f y)=some v→(∃a b,f x=.agg a∧f y=.agg b)→Zh P M Zk f s k ⟨d,.binOp op t x y yt,ty,pos,af,g⟩=some (v,s):=fun {v} h ⟨a,b,h1,h2⟩=>by
  have e:Zr P f ⟨d,.binOp op t x y yt,ty,pos,af,g⟩=some v:=by rw[Zlo];exact h
  simp only[Zh,h1,h2,e,Option.map_some]
 simp only[opK]
 split
 ·rename_i k1 a k2 b h1 h2
  refine Za Znl (fun v hv=>Ze ⟨Zk,Zo hP,base ?_ ⟨_,_,h1,h2⟩⟩)
  rw[h1,h2,Zm7];exact hv
 ·rename_i a b h1 h2
  refine Za Zog (fun v hv=>Ze ⟨Zk,Zo hP,base ?_ ⟨_,_,h1,h2⟩⟩)
  rw[h1,h2,Zm4];exact hv
 ·rename_i a b h1 h2
  split
  ·rename_i h3
   refine Ze ⟨Zk,Zo hP,base ?_ ⟨_,_,h1,h2⟩⟩
   rw[h1,h2,Znk h3]
  ·rename_i h3
   refine Ze ⟨Zk,Zo hP,base ?_ ⟨_,_,h1,h2⟩⟩
   rw[h1,h2,Zmw h3]
  ·exact Zb
 ·rename_i xs ys h1 h2
  refine Zs (fun hc=>Za Y7 (fun b hb=>?_)) (fun _=>Zb)
  split
  ·exact Ze ⟨Zk,Zo hP,base2 (by rw[h1,h2,Zmd hc.1 hc.2.1 hc.2.2 hb]) ⟨_,_,h1,h2⟩⟩
  ·exact Ze ⟨Zk,Zo hP,base2 (by rw[h1,h2,Zmi hc.1 hc.2.1 hc.2.2 hb]) ⟨_,_,h1,h2⟩⟩
  ·exact Zb
 ·rename_i hy
  split
  all_goals first
   | exact Xx hP
   | (
     rename_i hx
     refine Zs (fun he=>Za X9 (fun rows hr=>Za Zf (fun _ hn=>?_))) (fun _=>Zb)
     obtain⟨r,l,rfl⟩:=List.exists_cons_of_ne_nil hn
     have hf:¬(Z3 P t).isSome=false:=by rw[he];decide
     split
     ·exact Ze ⟨Zk,Zo hP,by simp only[Zh,hx,hy];rw[if_neg hf];rw[hx] at hr;rw[hr]⟩
     ·exact Ze ⟨Zk,Zo hP,by simp only[Zh,hx,hy];rw[if_neg hf];rw[hx] at hr;rw[hr]⟩
     ·exact Zb)
 ·exact Xx hP
theorem Zf5 (hP:FuncsOk P) {f:Operand→V} {s:St} {k:Nat} {d:Option Tmp} {ty t:TypeId} {pos:String} {af:Array Edge} {g:Option (Nat×Bool)} {n:Nat} {parts:Array (Nat×Operand)}:KP (opK P M f s k ⟨d,.buildSlice t n parts,ty,pos,af,g⟩) (OpOk P M f s k ⟨d,.buildSlice t n parts,ty,pos,af,g⟩):=by
 simp only[opK]
 refine Za Y7 (fun e he=>Za Y7 (fun z hz=>Zs (fun _=>Zb) (fun hc=>Za Y7 (fun cs hcs=>Za Zg8 (fun y hy=>Ze ⟨Zk,Zo hP,?_⟩)))))
 simp only[Zh,he,Option.bind_some,hz]
 rw[if_neg hc,hcs,Option.bind_some,hy]
 rfl
theorem Zna (hP:FuncsOk P) {f:Operand→V} {s:St} {k:Nat} {d:Option Tmp} {ty:TypeId} {pos:String} {af:Array Edge} {g:Option (Nat×Bool)} {c a b:Operand}:KP (opK P M f s k ⟨d,.pick c a b,ty,pos,af,g⟩) (OpOk P M f s k ⟨d,.pick c a b,ty,pos,af,g⟩):=by
 simp only[opK]
 split
 ·rename_i t hc
  refine Za Zik (fun e he=>?_)
  subst he
  cases t with
  | true=>exact Ze ⟨Zk,Zo hP,by simp only[Zh,hc,if_true]⟩
  | false=>exact Ze ⟨Zk,Zo hP,by simp only[Zh,hc,Bool.false_eq_true,if_false]⟩
 ·exact Zb
theorem Zgt (hP:FuncsOk P) {f:Operand→V} {s:St} {k:Nat} {d:Option Tmp} {ty t:TypeId} {pos:String} {af:Array Edge} {g:Option (Nat×Bool)} {x ix:Operand}:KP (opK P M f s k ⟨d,.indexAddr t x ix,ty,pos,af,g⟩) (OpOk P M f s k ⟨d,.indexAddr t x ix,ty,pos,af,g⟩):=by
 simp only[opK]
 refine Za Y7 (fun e he=>Zs (fun _=>Zb) (fun hz=>Za Z4 (fun o _=>?_)))
 split
 ·rename_i n r
  refine Zs (fun hr=>Za Zf (fun _ hn=>?_)) (fun _=>Zb)
  split
  ·rename_i i off len hx
   refine Za Zf (fun _ hlt=>?_)
   split
   ·rename_i b hb
    refine Za Zf (fun _ hrow=>Ze ⟨Zk,Zo hP,?_⟩)
    rw[Zka] at hrow ⊢
    simp only[Zh,he,Option.bind_some,hz,if_false,hn,hx,hlt,if_true,hb,hrow,hr]
   ·exact Zb
  ·rename_i rows hx
   refine Za Zf (fun _ hrow=>Ze ⟨Zk,Zo hP,?_⟩)
   simp only[Zh,he,Option.bind_some,hz,if_false,hn,hx,if_true,hrow,hr]
  ·rename_i rows hx
   refine Za Zf (fun _ hrow=>Ze ⟨Zk,Zo hP,?_⟩)
   simp only[Zh,he,Option.bind_some,hz,if_false,hn,hx,if_true,hrow,hr]
  ·exact Zb
 ·exact Zb
theorem Znv (hP:FuncsOk P) {f:Operand→V} {s:St} {k:Nat} {d:Option Tmp} {ty t:TypeId} {pos:String} {af:Array Edge} {g:Option (Nat×Bool)} {a:Operand}:KP (opK P M f s k ⟨d,.load t a,ty,pos,af,g⟩) (OpOk P M f s k ⟨d,.load t a,ty,pos,af,g⟩):=by
 simp only[opK]
 split
 ·rename_i i j n ha
  split
  ·rename_i b hb
   split
   ·exact Xx hP
   ·refine Za Z4 (fun o _=>?_)
    split
    ·rename_i row
     refine Za Zf (fun _ hrow=>Zs (fun hl=>Za Y7 (fun v hv=>Ze ⟨Zk,Zo hP,?_⟩)) (fun _=>Zb))
     simp only[Zh,ha,hb,Option.bind_some,hrow,hl,if_true,hv,Option.map_some]
    ·exact Zb
  ·exact Zb
 ·exact Xx hP
theorem Zlw (hP:FuncsOk P) {f:Operand→V} {s:St} {k:Nat} {d:Option Tmp} {ty t:TypeId} {pos:String} {af:Array Edge} {g:Option (Nat×Bool)} {a x:Operand}:KP (opK P M f s k ⟨d,.store t a x,ty,pos,af,g⟩) (OpOk P M f s k ⟨d,.store t a x,ty,pos,af,g⟩):=by
 simp only[opK]
 split
 ·rename_i i j n ha
  split
  ·rename_i b hb
   split
   ·exact Xx hP
   ·rename_i hbx
    refine Za Z4 (fun o _=>?_)
    split
    ·rename_i row R
     refine Za Zf (fun _ hrow=>Za Y7 (fun cs hcs=>Zs (fun hc=>Za Ziv (fun y hy=>?_)) (fun _=>Zb)))
     split
     ·rename_i b2 hb2
      refine Za Zf (fun _ hR=>Ze ⟨Zk,Zo hP,?_⟩)
      have hc':b.own=true∧cs.length=Zc P t∧n+Zc P t≤row.length∧Zc P t≠0:=hc
      simp only[Zh,ha,hb,Option.bind_some,hrow,hcs]
      rw[if_pos hc',hbx]
      simp only[Bool.false_eq_true,if_false,hy,Option.bind_some,hb2,hR]
     ·exact Zb
    ·exact Zb
  ·exact Zb
 ·exact Zb
def Ziq (x:V) (l h:Nat):Option V:=match x with
 | .sl id off _=>some (.sl id (off+l) (h - l))
 | .tr rows=>some (.tr ((rows.drop l).take (h - l)))
 | .vw rows=>some (.vw ((rows.drop l).take (h - l)))
 | _=>none
theorem Zbz {s:St} {t e:TypeId} {x:V} {rows:List (List V)} {lo hi:Option Operand} {f:Operand→V} {l h:Nat} (he:Z3 P t=some e) (hr:s.rowsOf x=some rows) (hl:match lo with|some z=>Zy (f z)=some l|none=>l=0) (hh:match hi with|some z=>Zy (f z)=some h|none=>rows.length=h)
  (h1:l≤h∧h≤rows.length) (h2:Qg (Zc P e) rows=true) (h3:Zc P e≠0):Ka P s t x (lo.map f) (hi.map f)=Ziq x l h:=by
 have key:∀(a b:Option Nat),a=some l→b=some h→(a.bind fun l=>b.bind fun h=>if l≤h∧h≤rows.length∧Qg (Zc P e) rows=true∧Zc P e≠0 then Ziq x l h else none)=Ziq x l h:=by
  rintro _ _ rfl rfl
  simp only[Option.bind_some]
  rw[if_pos ⟨h1.1,h1.2,h2,h3⟩]
 unfold Ka
 rw[he,Option.bind_some,hr,Option.bind_some]
 refine key _ _ ?_ ?_
 ·cases lo with
  | none=>simp only at hl;rw[hl];rfl
  | some z=>exact hl
 ·cases hi with
  | none=>simp only at hh;rw[←hh];rfl
  | some z=>exact hh
theorem Zls (hP:FuncsOk P) {f:Operand→V} {s:St} {k:Nat} {d:Option Tmp} {ty t:TypeId} {pos:String} {af:Array Edge} {g:Option (Nat×Bool)} {x:Operand} {lo hi mx:Option Operand}:KP (opK P M f s k ⟨d,.slice t x lo hi mx,ty,pos,af,g⟩) (OpOk P M f s k ⟨d,.slice t x lo hi mx,ty,pos,af,g⟩):=by
 cases mx with
 | some m=>exact Xx hP
 | none=>
  simp only[opK]
  split
  ·rename_i id off len hx
   refine Za Z4 (fun o _=>?_)
   split
   ·rename_i l h n R
    refine Za Y7 (fun e he=>Za X9 (fun rows hr=>Za Zf (fun _ hl=>Za Zf (fun _ hh=>Za Zf (fun _ h1=>Za Zf (fun _ h2=>Za Zf (fun _ h4=>Zs (fun h3=>Ze ⟨Zk,Zo hP,?_⟩) (fun _=>Zb))))))))
    simp only[Zh,Zbz he hr hl hh h1 h2 h3]
    rw[hx,h4,Zka]
    rfl
   ·exact Zb
  ·rename_i rws hx
   refine Za Z4 (fun o _=>?_)
   split
   ·rename_i l h n R
    refine Za Y7 (fun e he=>Za X9 (fun rows hr=>Za Zf (fun _ hl=>Za Zf (fun _ hh=>Za Zf (fun _ h1=>Za Zf (fun _ h2=>Za Zf (fun _ h4=>Zs (fun h3=>Ze ⟨Zk,Zo hP,?_⟩) (fun _=>Zb))))))))
    simp only[Zh,Zbz he hr hl hh h1 h2 h3]
    rw[hx] at hr ⊢
    have:rws=rows:=by simpa [St.rowsOf] using hr
    rw[←h4,←this]
    rfl
   ·exact Zb
  ·rename_i rws hx
   refine Za Z4 (fun o _=>?_)
   split
   ·rename_i l h n R
    refine Za Y7 (fun e he=>Za X9 (fun rows hr=>Za Zf (fun _ hl=>Za Zf (fun _ hh=>Za Zf (fun _ h1=>Za Zf (fun _ h2=>Za Zf (fun _ h4=>Zs (fun h3=>Ze ⟨Zk,Zo hP,?_⟩) (fun _=>Zb))))))))
    simp only[Zh,Zbz he hr hl hh h1 h2 h3]
    rw[hx] at hr ⊢
    have:rws=rows:=by simpa [St.rowsOf] using hr
    rw[←h4,←this]
    rfl
   ·exact Zb
  ·rename_i b hx
   split
   ·rename_i ht
    refine Za Z4 (fun q _=>?_)
    split
    ·rename_i c
     refine Za Zf (fun _ hc=>Ze ⟨Zk,Zo hP,?_⟩)
     simp only[Zh,hx,Zmt ht hx hc,Option.map_some]
    ·exact Zb
   ·exact Zb
  ·exact Xx hP
theorem Zmk (hP:FuncsOk P) {f:Operand→V} {s:St} {k:Nat} {d:Option Tmp} {ty t:TypeId} {pos:String} {af:Array Edge} {g:Option (Nat×Bool)} {x ix:Operand}:KP (opK P M f s k ⟨d,.index t x ix,ty,pos,af,g⟩) (OpOk P M f s k ⟨d,.index t x ix,ty,pos,af,g⟩):=by
 simp only[opK]
 split
 ·rename_i b hx
  split
  ·rename_i ht
   refine Za Z4 (fun q _=>?_)
   split
   ·rename_i k' m
    refine Za Zf (fun _ hm=>Ze ⟨Zk,Zo hP,?_⟩)
    simp only[Zh,Znb ht hx hm,Option.map_some]
   ·exact Zb
  ·exact Zb
 ·exact Xx hP
theorem Zi0 (hP:FuncsOk P) {f:Operand→V} {s:St} {k:Nat} {d:Option Tmp} {ty src dst:TypeId} {pos:String} {af:Array Edge} {g:Option (Nat×Bool)} {x:Operand}:KP (opK P M f s k ⟨d,.convert src dst x,ty,pos,af,g⟩) (OpOk P M f s k ⟨d,.convert src dst x,ty,pos,af,g⟩):=by
 simp only[opK]
 split
 all_goals first
  | exact Xx hP
  | (
    rename_i hx
    split
    ·rename_i e h1 h2
     split
     ·rename_i h3
      refine Za X9 (fun rows hr=>Za Z4 (fun q _=>?_))
      split
      ·rename_i c
       refine Za Zf (fun _ hc=>Ze ⟨Zk,Zo hP,?_⟩)
       unfold strV at hc
       obtain⟨bs,hb,hc⟩:=Option.map_eq_some_iff.1 hc
       rw[hx] at hr
       simp only[Zh,hx,h1,h2,h3,hr,hb,Option.bind_some,Option.map_some,hc]
      ·exact Zb
     ·exact Zb
    ·exact Zb)
theorem Zgz (hP:FuncsOk P) {f:Operand→V} {s:St} {k:Nat} {d:Option Tmp} {ty t:TypeId} {pos:String} {af:Array Edge} {g:Option (Nat×Bool)} {l c:Operand}:KP (opK P M f s k ⟨d,.makeSlice t l c,ty,pos,af,g⟩) (OpOk P M f s k ⟨d,.makeSlice t l c,ty,pos,af,g⟩):=by
 simp only[opK]
 refine Za Z4 (fun o _=>?_)
 split
 ·rename_i n R
  refine Za Y7 (fun e he=>Za Y7 (fun z hz=>Za Zf (fun _ hl=>Za Zf (fun _ hc=>Za Zf (fun _ h1=>Za Zf (fun _ hR=>Zs (fun h2=>Ze ⟨Zk,Zo hP,?_⟩) (fun _=>Zb)))))))
  simp only[Zh,he,hz,Option.bind_some,hl,hc]
  rw[if_pos ⟨by trivial,h1.1,h1.2,h2.1,h2.2⟩,hR,←hR,List.length_replicate]
 ·exact Zb
theorem Znj (hP:FuncsOk P) {f:Operand→V} {s:St} {k:Nat} {d:Option Tmp} {ty:TypeId} {pos:String} {af:Array Edge} {g:Option (Nat×Bool)} {c:Call}:KP (opK P M f s k ⟨d,.call c,ty,pos,af,g⟩) (OpOk P M f s k ⟨d,.call c,ty,pos,af,g⟩):=by
 simp only[opK]
 split
 ·rename_i x hc
  split
  ·rename_i h caps hx
   refine (Zm1 hP).mono fun y ⟨C,h1,h2⟩=>⟨C,h1,?_⟩
   simp only[Zh,hc,hx,h2]
  ·exact Zb
 ·rename_i hc
  split
  ·rename_i b x t t' ha ht
   refine Zs (fun he=>Zoq.kp.mono fun y hy=>⟨Zk,Zo hP,?_⟩) (fun _=>Zb)
   simp only[Zh,hc,ha,ht,he,if_true]
   rw[←he];exact hy
  ·exact Zb
 ·rename_i hc
  split
  ·rename_i x t ha ht
   split
   ·rename_i i off n hx
    refine Za Z4 (fun o _=>?_)
    split
    ·refine Za Zf (fun _ hn=>Zs (fun he=>Ze ⟨Zk,Zo hP,?_⟩) (fun _=>Zb))
     simp only[Zh,hc,ha,ht,hx,he,if_true,hn]
    ·exact Zb
   ·rename_i rows hx
    refine Za Z4 (fun o _=>?_)
    split
    ·refine Za Zf (fun _ hn=>Zs (fun he=>Ze ⟨Zk,Zo hP,?_⟩) (fun _=>Zb))
     simp only[Zh,hc,ha,ht,hx,he,if_true,hn]
    ·exact Zb
   ·rename_i rows hx
    refine Za Z4 (fun o _=>?_)
    split
    ·refine Za Zf (fun _ hn=>Zs (fun he=>Ze ⟨Zk,Zo hP,?_⟩) (fun _=>Zb))
     simp only[Zh,hc,ha,ht,hx,he,if_true,hn]
    ·exact Zb
   ·exact Xx hP
  ·exact Zb
 ·rename_i hc
  split
  ·rename_i x t ha ht
   refine Za Y7 (fun e he=>Za Y7 (fun z hz=>?_))
   split
   ·rename_i i off n hx
    split
    ·rename_i b hb
     refine Za Z4 (fun o _=>?_)
     split
     ·refine Zs (fun h=>Za Zf (fun _ h1=>Za Zf (fun _ h2=>Ze ⟨Zk,Zo hP,?_⟩))) (fun _=>Zb)
      simp only[Zh,hc,ha,ht,hx,he,hz,hb,Option.bind_some]
      rw[if_pos ⟨h.1,h.2.1,h1,h.2.2.1,h.2.2.2.1,h.2.2.2.2⟩,h2]
     ·exact Zb
    ·exact Zb
   ·exact Zb
  ·exact Zb
 ·exact Xx hP
theorem Zlv (hP:FuncsOk P) {f:Operand→V} {s:St} {k:Nat} {o:Oper}:KP (opK P M f s k o) (OpOk P M f s k o):=by
 obtain⟨d,op,ty,pos,af,g⟩:=o
 cases op with
 | binOp op t x y yt=>exact Zms hP
 | pick c a b=>exact Zna hP
 | buildSlice t n parts=>exact Zf5 hP
 | indexAddr t x ix=>exact Zgt hP
 | load t a=>exact Znv hP
 | store t a x=>exact Zlw hP
 | slice t x lo hi mx=>exact Zls hP
 | makeSlice t l c=>exact Zgz hP
 | index t x ix=>exact Zmk hP
 | convert src dst x=>exact Zi0 hP
 | call c=>exact Znj hP
 | _=>simp only[opK];exact Xx hP
def Ze1 (s:St) (ops:Array Oper) (o:Oper):KM (Bool×St):=
 match o.guard with
 | none=>ret (true,s)
 | some (j,b)=>match (ops[j]?).bind (·.dst) with
  | some d=>match s.env d with
   | .lit (.bool c)=>bnd hear fun o=>match o with
    | .t e=>bnd (obl (c=e)) fun _=>ret (e == b,⟨upd s.env d (.lit (.bool e)),s.heap,s.ep⟩)
    | .k=>ret (c == b,s)
    | _=>fail
   | .tup []=>ret (false,s)
   | _=>fail
  | none=>fail
theorem Zgi {s:St} {ops:Array Oper} {o:Oper}:KP (Ze1 s ops o) (fun y=>wanted s ops o=some y.1∧y.2=s):=by
 unfold Ze1 wanted
 cases o.guard with
 | none=>exact Ze ⟨rfl,rfl⟩
 | some p=>
  obtain⟨j,b⟩:=p
  simp only
  cases hd:(ops[j]?).bind (·.dst) with
  | none=>exact Zb
  | some d=>
   simp only[Option.map_some]
   cases he:s.env d with
   | lit v=>cases v with
    | bool c=>
     refine Za Z4 (fun q _=>?_)
     cases q with
     | t e=>
      refine Za Zf (fun _ hc=>Ze ⟨by subst hc;rfl,?_⟩)
      have:upd s.env d (.lit (.bool e))=s.env:=by
       funext t
       unfold upd
       split
       ·rename_i h;rw[h,he,hc]
       ·rfl
      rw[this]
     | k=>exact Ze ⟨rfl,rfl⟩
     | _=>exact Zb
    | _=>exact Zb
   | tup l=>cases l with
    | nil=>exact Ze ⟨rfl,rfl⟩
    | cons x l=>exact Zb
   | _=>exact Zb
def opsK (P:Program) (M:Hints) (ops:Array Oper):(k:Nat)→List Oper→(s:St)→KM St
 | _,[],s=>ret s
 | k,o::rest,s=>bnd (Ze1 s ops o) fun g=>if g.1 then bnd (opK P M g.2.opV g.2 k o) fun y=>opsK P M ops (k+1) rest (y.2.put o.dst y.1) else opsK P M ops (k+1) rest (g.2.put o.dst (.tup []))
theorem Zjm {C C':Nat→Zz} {ops:Array Oper}:∀(l:List Oper) {k:Nat} {s:St},(∀j,k≤j→C j=C' j)→Wc P M C ops s k l=Wc P M C' ops s k l:=by
 intro l
 induction l with
 | nil=>intros;rfl
 | cons o l ih=>
  intro k s h
  simp only[Wc,h k (Nat.le_refl _)]
  simp only[fun s=>ih (k:=k+1) (s:=s) (fun j hj=>h j (by omega))]
theorem Zhd {C C':Nat→Zz} {ops:Array Oper}:∀(l:List Oper) {k:Nat} {s:St} {recs:List Rec},(∀j,k≤j→C j=C' j)→Y9 P M C ops s recs k l=Y9 P M C' ops s recs k l:=by
 intro l
 induction l with
 | nil=>intros;rfl
 | cons o l ih=>
  intro k s recs h
  simp only[Y9,h k (Nat.le_refl _)]
  simp only[fun s recs=>ih (k:=k+1) (s:=s) (recs:=recs) (fun j hj=>h j (by omega))]
def setC (C:Nat→Zz) (k:Nat) (D:Zz):Nat→Zz:=fun j=>if j=k then D else C j
theorem Zos (hP:FuncsOk P) {ops:Array Oper}:∀(l:List Oper) {k:Nat} {s:St},KP (opsK P M ops k l s) (fun s'=>∃C:Nat→Zz,(∀j,Xw P M (C j))∧Wc P M C ops s k l=some s'):=by
 intro l
 induction l with
 | nil=>intro k s;exact Ze ⟨fun _=>Zk,fun _=>Zo hP,rfl⟩
 | cons o l ih=>
  intro k s
  simp only[opsK,Wc]
  refine Za Zgi (fun g hg=>?_)
  obtain⟨g,s0⟩:=g
  obtain⟨hg,hs0⟩:=hg
  simp only at hg hs0
  subst hs0
  cases g with
  | true=>
   simp only[if_true]
   refine Za (Zlv hP) (fun y hy=>ih.mono fun s' ⟨C,h1,h2⟩=>?_)
   obtain⟨D,d1,d2⟩:=hy
   refine⟨setC C k D,fun j=>?_,?_⟩
   ·unfold setC;split
    ·exact d1
    ·exact h1 j
   ·rw[hg]
    simp only[Option.bind_some,if_true,setC]
    unfold evOp
    rw[d2,Option.bind_some,←h2]
    exact Zjm l (fun j hj=>by simp only[setC];rw[if_neg (by omega)])
  | false=>
   simp only[Bool.false_eq_true,if_false]
   refine ih.mono fun s' ⟨C,h1,h2⟩=>⟨C,h1,?_⟩
   rw[hg]
   exact h2
def Zfm (P:Program) (M:Hints) (ops:Array Oper):(recs:List Rec)→(k:Nat)→List Oper→(s:St)→KM St
 | _,_,[],s=>ret s
 | recs,k,o::rest,s=>bnd (Ze1 s ops o) fun g=>if g.1 then (if Qm ops g.2.ep recs (K6 recs o) k o (touch g.2 o) (W9 M g.2.opV o)=true then
   bnd (opK P M g.2.opV (g.2.only (touch g.2 o)) k o) fun y=>Zfm P M ops (recs++[⟨K6 recs o,touch g.2 o,W9 M g.2.opV o⟩]) (k+1) rest ((g.2.merge k (touch g.2 o) (W9 M g.2.opV o) y.2).put o.dst y.1) else fail)
  else if Qm ops g.2.ep recs (K6 recs o) k o [] false=true then Zfm P M ops (recs++[⟨K6 recs o,[],false⟩]) (k+1) rest (g.2.put o.dst (.tup [])) else fail
theorem Zng (hP:FuncsOk P) {ops:Array Oper}:∀(l:List Oper) {k:Nat} {s:St} {recs:List Rec},KP (Zfm P M ops recs k l s) (fun s'=>∃C:Nat→Zz,(∀j,Xw P M (C j))∧Y9 P M C ops s recs k l=some s'):=by
 intro l
 induction l with
 | nil=>intro k s recs;exact Ze ⟨fun _=>Zk,fun _=>Zo hP,rfl⟩
 | cons o l ih=>
  intro k s recs
  simp only[Zfm,Y9]
  refine Za Zgi (fun g hg=>?_)
  obtain⟨g,s0⟩:=g
  obtain⟨hg,hs0⟩:=hg
  simp only at hg hs0
  subst hs0
  cases g with
  | true=>
   simp only[if_true]
   refine Zs (fun ha=>Za (Zlv hP) (fun y hy=>ih.mono fun s' ⟨C,h1,h2⟩=>?_)) (fun _=>Zb)
   obtain⟨D,d1,d2⟩:=hy
   refine⟨setC C k D,fun j=>?_,?_⟩
   ·unfold setC;split
    ·exact d1
    ·exact h1 j
   ·rw[hg]
    simp only[Option.bind_some,if_true,setC,ha]
    rw[d2,Option.bind_some,←h2]
    exact Zhd l (fun j hj=>by simp only[setC];rw[if_neg (by omega)])
  | false=>
   simp only[Bool.false_eq_true,if_false]
   refine Zs (fun ha=>ih.mono fun s' ⟨C,h1,h2⟩=>⟨C,h1,?_⟩) (fun _=>Zb)
   rw[hg]
   simp only[Option.bind_some,Bool.false_eq_true,if_false,ha,if_true]
   exact h2
end
inductive It where
 | c (x:Code)
 | blk (i:Nat)
def SX (P:Program) (R:Ex→St→Prop):List It→Ex→St→Prop
 | [],e,s=>R e s
 | .c x::k,.normal,s=>Cx P x s (fun e s=>SX P R k e s)
 | .c x::k,.ret,s=>SX P R k .ret s
 | .c x::k,.exit j,s=>SX P R k (.exit j) s
 | .blk i::k,.exit j,s=>if j=i then SX P R k .normal s else SX P R k (.exit j) s
 | .blk i::k,.normal,s=>SX P R k .normal s
 | .blk i::k,.ret,s=>SX P R k .ret s
structure Res where
 stk:List It
 ex:Ex
 st:St
def mach (P:Program) (M:Hints):(n:Nat)→List It→Ex→(s:St)→KM Res
 | 0,stk,ex,s=>ret ⟨stk,ex,s⟩
 | n+1,stk,ex,s=>match stk with
  | []=>ret ⟨[],ex,s⟩
  | .blk i::k=>match ex with
   | .exit j=>if j=i then mach P M n k .normal s else mach P M n k (.exit j) s
   | .normal=>mach P M n k .normal s
   | .ret=>mach P M n k .ret s
  | .c x::k=>match ex with
   | .ret=>mach P M n k .ret s
   | .exit j=>mach P M n k (.exit j) s
   | .normal=>match x with
    | .skip=>mach P M n k .normal s
    | .ret=>mach P M n k .ret s
    | .exit i=>mach P M n k (.exit i) s
    | .seq a b=>mach P M n (.c a::.c b::k) .normal s
    | .cond c a b=>match s.opV c with
     | .lit (.bool t)=>bnd (Zg3 t) fun e=>if e then mach P M n (.c a::k) .normal s else mach P M n (.c b::k) .normal s
     | _=>fail
    | .block i c=>mach P M n (.c c::.blk i::k) .normal s
    | .loop c=>mach P M n (.c c::.c (.loop c)::k) .normal s
    | .region _ ops d=>match d with
     | false=>bnd (opsK P M ops 0 ops.toList ⟨s.env,s.heap,s.ep+1⟩) fun s'=>mach P M n k .normal s'
     | true=>if Region.noSelect ops=true then bnd (Zfm P M ops [] 0 ops.toList ⟨s.env,s.heap,s.ep+1⟩) fun s'=>mach P M n k .normal s' else fail
    | _=>fail
section
variable {P:Program} {M:Hints} {R:Ex→St→Prop}
def partOf:List It→Option (Operand×Tmp×Tmp×TypeId×Operand×List It)
 | .c (.region _ ops false)::k=>match ops.toList with
  | [⟨some d0,.move x0,_,_,_,none⟩,⟨some d1,.binOp .eql t (.tmp d) y _,_,_,_,none⟩]=>if d=d0 then some (x0,d0,d1,t,y,k) else none
  | _=>none
 | _=>none
theorem Zoz (hP:FuncsOk P):∀(n:Nat) {stk:List It} {ex:Ex} {s:St},KP (mach P M n stk ex s) (fun r=>SX P R r.stk r.ex r.st→SX P R stk ex s):=by
 intro n
 induction n with
 | zero=>intro stk ex s;exact Ze id
 | succ n ih=>
  intro stk ex s
  simp only[mach]
  split
  ·exact Ze id
  ·rename_i i k
   split
   ·rename_i j
    refine Zs (fun hj=>ih.mono fun r hr h=>?_) (fun hj=>ih.mono fun r hr h=>?_)
    ·simp only[SX];rw[if_pos hj];exact hr h
    ·simp only[SX];rw[if_neg hj];exact hr h
   ·exact ih.mono fun r hr h=>hr h
   ·exact ih.mono fun r hr h=>hr h
  ·rename_i x k
   split
   ·exact ih.mono fun r hr h=>hr h
   ·exact ih.mono fun r hr h=>hr h
   ·split
    ·exact ih.mono fun r hr h=>Zow (hr h)
    ·exact ih.mono fun r hr h=>Cx_ret (hr h)
    ·exact ih.mono fun r hr h=>Zo8 (hr h)
    ·refine ih.mono fun r hr h=>Cx_seq (Zf6 (hr h) fun e s h=>?_)
     cases e<;>exact h
    ·rename_i c a b
     split
     ·rename_i t hc
      refine Za Zik (fun e he=>?_)
      subst he
      cases t with
      | true=>exact ih.mono fun r hr h=>Zkc hc (hr h)
      | false=>exact ih.mono fun r hr h=>Zkc hc (hr h)
     ·exact Zb
    ·rename_i i c
     refine ih.mono fun r hr h=>Zoa (Zf6 (hr h) fun e s h=>?_)
     cases e<;>exact h
    ·rename_i c
     refine ih.mono fun r hr h=>Zpl (Zf6 (hr h) fun e s h=>?_)
     cases e<;>exact h
    ·rename_i i ops d
     split
     ·refine Za (Zos hP _) (fun s' hs=>ih.mono fun r hr h=>?_)
      obtain⟨C,h1,h2⟩:=hs
      exact Cx_ops hP C h1 h2 (hr h)
     ·refine Zs (fun hn=>Za (Zng hP _) (fun s' hs=>ih.mono fun r hr h=>?_)) (fun _=>Zb)
      obtain⟨C,h1,h2⟩:=hs
      exact Zoy hP C h1 hn h2 (hr h)
    ·exact Zb
theorem Zhs (hP:FuncsOk P) (n:Nat) {stk:List It} {ex:Ex} {s:St}:KP (mach P M n stk ex s) (fun r=>∀R,SX P R r.stk r.ex r.st→SX P R stk ex s):=fun q a obs q' e ho R=>Zoz hP n q a obs q' e ho
def endK (P:Program) (M:Hints) (f:FuncId) (fn:Func) (xs:List V) (r:Res):KM (V×List V):=match r.stk with
 | []=>match r.ex with
  | .exit _=>fail
  | .normal=>retK P M f fn xs r.st
  | .ret=>retK P M f fn xs r.st
 | _=>fail
def runK (P:Program) (M:Hints) (f:FuncId) (fn:Func) (xs:List V) (n:Nat) (stk:List It) (s:St):KM (V×List V):=
 bnd (mach P M n stk .normal s) (endK P M f fn xs)
theorem Zox (hP:FuncsOk P) {f:FuncId} {fn:Func} {xs:List V} {n:Nat} {stk:List It} {s:St}:KP (runK P M f fn xs n stk s) (fun y=>SX P (RetC P M f fn xs y) stk .normal s):=by
 refine Za (Zhs hP n) (fun r hr=>?_)
 obtain⟨st,ex,s1⟩:=r
 unfold endK
 cases st with
 | cons x l=>exact Zb
 | nil=>cases ex with
  | exit i=>exact Zb
  | normal=>exact Zkb.kp.mono fun y hy=>hr _ ⟨trivial,hy⟩
  | ret=>exact Zkb.kp.mono fun y hy=>hr _ ⟨trivial,hy⟩
def told {α:Type} (x:Option (α×List Prop×List O)):Option (Prop×α):=match x with|some (a,obs,[])=>some (All obs,a)|_=>none
theorem Zj9 {α:Type} {x:KM α} {q:List O} {Q:α→Prop} {p:Prop} {a:α} (h:KP x Q) (e:told (x q)=some (p,a)) (hp:p):Q a:=by
 unfold told at e
 split at e
 ·rename_i b obs hx
  injection e with e
  injection e with e1 e2
  subst e2
  exact h q _ _ _ hx (by rw[e1];exact hp)
 ·cases e
theorem Zov (hP:FuncsOk P) {f:FuncId} {fn:Func} {xs:List V} {y:V×List V} {stk:List It} {s:St} {p:Prop} (n:Nat) (q:List O) (hp:p) (e:told (runK P M f fn xs n stk s q)=some (p,y)):SX P (RetC P M f fn xs y) stk .normal s:=
 Zj9 (x:=runK P M f fn xs n stk s) (Q:=fun y=>SX P (RetC P M f fn xs y) stk .normal s) (Zox hP) e hp
def ren1 (f:List (Id×Id)):V→V
 | .ptr id i off=>match renI f id with|some id'=>.ptr id' i off|none=>.undef
 | .sl id off len=>match renI f id with|some id'=>.sl id' off len|none=>(match off,len with|0,0=>.lit (.slice none 0 0)|_,_=>.undef)
 | .lit v=>.lit v
 | .tr rows=>.tr rows
 | .vw rows=>.vw rows
 | .rp sh row off=>.rp sh row off
 | _=>.undef
def renV (f:List (Id×Id)):V→V
 | .agg xs=>.agg (xs.map (ren1 f))
 | .tup xs=>.tup (xs.map (ren1 f))
 | .fn g xs=>.fn g (xs.map (ren1 f))
 | x=>ren1 f x
theorem Zfr {f:List (Id×Id)} {x:V} (h:ren1 f x≠.undef∨x=.undef):VR1 f x (ren1 f x):=by
 cases x with
 | undef=>trivial
 | ptr id i off=>
  simp only[ren1] at h ⊢
  split
  ·rename_i id' hr;exact⟨hr,rfl,rfl⟩
  ·rename_i hr;rw[hr] at h;simp at h
 | sl id off len=>
  simp only[ren1] at h ⊢
  split
  ·rename_i id' hr;exact⟨hr,rfl,rfl⟩
  ·rename_i hr
   rw[hr] at h
   simp only at h
   split
   ·exact⟨hr,rfl,rfl⟩
   ·rename_i hne
    exfalso
    split at h
    ·rename_i h1 h2;exact hne rfl rfl
    ·simp at h
 | lit v=>rfl
 | tr rows=>rfl
 | vw rows=>rfl
 | rp sh row off=>rfl
 | agg _=>simp[ren1] at h
 | tup _=>simp[ren1] at h
 | fn _ _=>simp[ren1] at h
 | own _ _=>simp[ren1] at h
 | obx _=>simp[ren1] at h
def okV:V→Bool|.undef=>false|_=>true
theorem okV_ne {x:V} (h:okV x=true):x≠.undef:=by rintro rfl;cases h
theorem Zdm {f:List (Id×Id)}:∀{xs:List V},(xs.map (ren1 f)).all okV=true→VRs f xs (xs.map (ren1 f)):=by
 intro xs
 induction xs with
 | nil=>intro _;trivial
 | cons x xs ih=>
  intro h
  simp only[List.map_cons,List.all_cons,Bool.and_eq_true] at h
  exact⟨Zfr (.inl (okV_ne h.1)),ih h.2⟩
def okVs:V→Bool
 | .agg xs|.tup xs|.fn _ xs=>xs.all okV
 | x=>okV x
theorem Zo9 {f:List (Id×Id)} {x:V} (h:okVs (renV f x)=true):VR f x (renV f x):=by
 cases x with
 | agg xs=>exact Zdm h
 | tup xs=>exact Zdm h
 | fn g xs=>exact⟨rfl,Zdm h⟩
 | undef=>trivial
 | lit v=>rfl
 | tr rows=>rfl
 | vw rows=>rfl
 | rp sh row off=>rfl
 | own e rows=>cases h
 | obx cs=>cases h
 | ptr id i off=>exact Zfr (x:=.ptr id i off) (.inl fun e=>by have h2:okVs (ren1 f (.ptr id i off))=true:=h;rw[e] at h2;cases h2)
 | sl id off len=>exact Zfr (x:=.sl id off len) (.inl fun e=>by have h2:okVs (ren1 f (.sl id off len))=true:=h;rw[e] at h2;cases h2)
def renB (f:List (Id×Id)) (p:Id×Blk):Option Blk:=match renI f p.1 with
 | none=>none
 | some _=>some ⟨p.2.box,p.2.own,p.2.cl,(if p.2.box then 0 else p.2.el),if p.2.box then p.2.rows.map (fun r=>r.map (ren1 f)) else p.2.rows⟩
def wasB (f:List (Id×Id)) (S:St) (p:Id×Blk):Option Blk:=match renI f p.1 with
 | none=>none
 | some id'=>(S.heap id').map fun c=>⟨c.box,c.own,c.cl,(if c.box then 0 else c.el),c.rows⟩
def newB (f:List (Id×Id)) (p:Id×Blk):Bool:=match renI f p.1 with
 | none=>!p.2.box&&p.2.own&&(match p.2.rows with|[]=>true|_=>false)
 | some _=>if p.2.box then (match p.2.rows with|[r]=>(r.map (ren1 f)).all okV|_=>false) else true
theorem Zpk {f:List (Id×Id)} {S:St} {p:Id×Blk} (h:wasB f S p=renB f p) (hn:newB f p=true):BR f S p.1 p.2:=by
 obtain⟨id,b⟩:=p
 unfold BR
 unfold wasB renB at h
 unfold newB at hn
 simp only at h hn ⊢
 split
 ·rename_i hr
  rw[hr] at hn
  simp only[Bool.and_eq_true,Bool.not_eq_true'] at hn
  refine⟨hn.1.1,hn.1.2,?_⟩
  cases hb:b.rows with
  | nil=>rfl
  | cons x l=>rw[hb] at hn;simp at hn
 ·rename_i id' hr
  rw[hr] at h hn
  simp only at h hn
  obtain⟨c,h1,h2⟩:=Option.map_eq_some_iff.1 h
  injection h2 with e1 e2 e3 e4 e5
  refine⟨c,h1,e1,e2,e3,?_⟩
  cases hbx:b.box with
  | true=>
   rw[hbx] at hn e1 e5
   simp only[if_true] at hn e5 ⊢
   cases hb:b.rows with
   | nil=>rw[hb] at hn;cases hn
   | cons r l=>cases l with
    | cons r2 l=>rw[hb] at hn;cases hn
    | nil=>
     rw[hb] at hn e5
     exact⟨r,_,rfl,e5,Zdm hn⟩
  | false=>
   rw[hbx] at e1 e4 e5
   rw[e1] at e4
   simp only[Bool.false_eq_true,if_false] at e4 e5 ⊢
   exact⟨e4,e5⟩
def wasL (f:List (Id×Id)) (l:List (Nat×V)) (h:List (Id×Blk)) (S:St):List V×List (Option Blk):=(l.map fun p=>S.env p.1,h.map fun p=>wasB f S p)
def renL (f:List (Id×Id)) (l:List (Nat×V)) (h:List (Id×Blk)):List V×List (Option Blk):=(l.map fun p=>renV f p.2,h.map fun p=>renB f p)
def cutB (f:List (Id×Id)) (l:List (Nat×V)) (h:List (Id×Blk)) (ep:Nat):Bool:=wkB f l h ep&&(l.all fun p=>okVs (renV f p.2))&&h.all fun p=>newB f p
theorem Zfa {α β:Type} {g1 g2:α→β} {l:List α} (h:l.map g1=l.map g2):∀x∈l,g1 x=g2 x:=by
 induction l with
 | nil=>intro x hx;simp at hx
 | cons y l ih=>
  simp only[List.map_cons,List.cons.injEq] at h
  intro x hx
  rcases List.mem_cons.1 hx with rfl|hx
  ·exact h.1
  ·exact ih h.2 x hx
theorem Zom {f:List (Id×Id)} {l:List (Nat×V)} {h:List (Id×Blk)} {ep:Nat} {S:St} (e:wasL f l h S=renL f l h) (hb:cutB f l h ep=true):Weak f S l h ep:=by
 simp only[wasL,renL,Prod.mk.injEq] at e
 simp only[cutB,Bool.and_eq_true,List.all_eq_true] at hb
 refine⟨fun p hp=>?_,fun p hp=>Zpk (Zfa e.2 p hp) (hb.2 p hp),hb.1.1⟩
 rw[Zfa e.1 p hp]
 exact Zo9 (hb.1.2 p hp)
def len1:V→KM V
 | .sl id off len=>bnd hear fun o=>match o with
  | .num n _ _ _=>bnd (obl (len=n)) fun _=>ret (.sl id off n)
  | _=>fail
 | x=>ret x
theorem Zj8 {x:V}:KP (len1 x) (fun y=>y=x):=by
 unfold len1
 split
 ·refine Za Z4 (fun o _=>?_)
  split
  ·exact Za Zf (fun _ h=>Ze (by rw[h]))
  ·exact Zb
 ·exact Ze rfl
def lens:List V→KM (List V)
 | []=>ret []
 | x::xs=>bnd (len1 x) fun y=>bnd (lens xs) fun ys=>ret (y::ys)
theorem Zfx:∀{xs:List V},KP (lens xs) (fun ys=>ys=xs):=by
 intro xs
 induction xs with
 | nil=>exact Ze rfl
 | cons x xs ih=>exact Za Zj8 (fun y hy=>Za ih (fun ys hys=>Ze (by rw[hy,hys])))
def lenV:V→KM V
 | .agg xs=>bnd (lens xs) fun ys=>ret (.agg ys)
 | .fn g xs=>bnd (lens xs) fun ys=>ret (.fn g ys)
 | x=>len1 x
theorem Zo5 {x:V}:KP (lenV x) (fun y=>y=x):=by
 unfold lenV
 split
 ·exact Za Zfx (fun y hy=>Ze (by rw[hy]))
 ·exact Za Zfx (fun y hy=>Ze (by rw[hy]))
 ·exact Zj8
def Zk1 (S:St):List (Nat×V)→KM (List V)
 | []=>ret []
 | p::l=>bnd (lenV (S.env p.1)) fun y=>bnd (Zk1 S l) fun ys=>ret (y::ys)
theorem Zpe {S:St}:∀{l:List (Nat×V)},KP (Zk1 S l) (fun ys=>ys=l.map fun p=>S.env p.1):=by
 intro l
 induction l with
 | nil=>exact Ze rfl
 | cons p l ih=>exact Za Zo5 (fun y hy=>Za ih (fun ys hys=>Ze (by rw[hy,hys];rfl)))
def lenB:Option Blk→KM (Option Blk)
 | some ⟨true,own,cl,el,[row]⟩=>bnd (lens row) fun r=>ret (some ⟨true,own,cl,el,[r]⟩)
 | x=>ret x
theorem Zou {x:Option Blk}:KP (lenB x) (fun y=>y=x):=by
 unfold lenB
 split
 ·exact Za Zfx (fun r hr=>Ze (by rw[hr]))
 ·exact Ze rfl
def lenH (f:List (Id×Id)) (S:St):List (Id×Blk)→KM (List (Option Blk))
 | []=>ret []
 | p::l=>bnd (lenB (wasB f S p)) fun y=>bnd (lenH f S l) fun ys=>ret (y::ys)
theorem Zpg {f:List (Id×Id)} {S:St}:∀{l:List (Id×Blk)},KP (lenH f S l) (fun ys=>ys=l.map fun p=>wasB f S p):=by
 intro l
 induction l with
 | nil=>exact Ze rfl
 | cons p l ih=>exact Za Zou (fun y hy=>Za ih (fun ys hys=>Ze (by rw[hy,hys];rfl)))
def Zl0 (f:List (Id×Id)) (l:List (Nat×V)) (h:List (Id×Blk)) (r:Res):KM (List It×List V×List (Option Blk)):=match r.ex with
 | .normal=>bnd (Zk1 r.st l) fun vs=>bnd (lenH f r.st h) fun bs=>ret (r.stk,vs,bs)
 | _=>fail
def cutK (P:Program) (M:Hints) (f:List (Id×Id)) (l:List (Nat×V)) (h:List (Id×Blk)) (n:Nat) (stk:List It) (s:St):KM (List It×List V×List (Option Blk)):=
 bnd (mach P M n stk .normal s) (Zl0 f l h)
def isC:List It→Bool
 | .c _::_=>true
 | _=>false
theorem Zo3 (hP:FuncsOk P) {stk k2:List It} {s:St} {p:Prop} {l:List (Nat×V)} {h:List (Id×Blk)} {ep:Nat} (f:List (Id×Id)) (n:Nat) (q:List O) (hp:p) (hn:SX P R k2 .normal (mkS l h ep))
  (e:told (cutK P M f l h n stk s q)=some (p,(k2,renL f l h))) (hb:(isC k2&&cutB f l h ep)=true):SX P R stk .normal s:=by
 simp only[Bool.and_eq_true] at hb
 refine Zj9 (x:=cutK P M f l h n stk s) (Q:=fun y=>y=(k2,renL f l h)→SX P R stk .normal s) ?_ e hp rfl
 refine Za (Zhs hP n) (fun r hr=>?_)
 obtain⟨st,ex,s1⟩:=r
 unfold Zl0
 cases ex with
 | normal=>
  refine Za Zpe (fun vs hvs=>Za Zpg (fun bs hbs=>Ze fun hy=>hr _ ?_))
  simp only[Prod.mk.injEq] at hy
  simp only
  rw[hy.1]
  have hy2:wasL f l h s1=renL f l h:=by
   rw[←hy.2,hvs,hbs];rfl
  cases k2 with
  | nil=>cases hb.1
  | cons x k=>cases x with
   | blk i=>cases hb.1
   | c x=>exact Zo7 f (Zom hy2 hb.2) hn
 | ret=>exact Zb
 | exit i=>exact Zb
end
end Go.Proofs.YtlcfolgfmlgncaaDoor.Ev
namespace Go.Proofs.YtlcfolgfmlgncaaDoor.Ev
open Go
set_option linter.unusedVariables false
section
variable {α:Type}
def idx (xs:List α) (i:Int):Option α:=if 0≤i then xs[i.toNat]? else none
def appI (sz:Nat) (xs ys:List α):Option (List α):=if (xs.length+ys.length)*sz≤140737488355328∧xs.length+ys.length≤9223372036854775807 then some (xs++ys) else none
def X5 (xs:List α) (l h:Int):Option (List α):=if 0≤l∧l≤h∧h.toNat≤xs.length then some ((xs.drop l.toNat).take (h.toNat - l.toNat)) else none
def setO (xs:List α) (i:Int) (a:α):Option (List α):=some (xs.set i.toNat a)
def lenE {β:Type} (xs:List α) (ys:List β):Option Unit:=if xs.length=ys.length then some () else none
end
def strL (l:List UInt8):ByteArray:=⟨l.toArray⟩
def FU:Nat:=18446744073709551616
def w64 (n:Int):Int:=IntKind.i64.wrap n
def w8 (n:Int):Int:=IntKind.u8.wrap n
def addW (a b:Int):Int:=IntKind.i64.wrap (a+b)
def mulW (a b:Int):Int:=IntKind.i64.wrap (a*b)
def quoW (a b:Int):Int:=IntKind.i64.wrap (a.tdiv b)
def remW (a b:Int):Int:=a.tmod b
def negW (a:Int):Int:=IntKind.i64.wrap (0 - a)
def Zk4 (a b:Int):Int:=IntKind.u8.wrap (a - b)
def atS (b:ByteArray) (i:Int):Option Int:=if 0≤i then (b[i.toNat]?).map fun c=>(c.toNat:Int) else none
def subS (b:ByteArray) (l h:Int):Option ByteArray:=if 0≤l∧l≤h∧h.toNat≤b.size then some (b.extract l.toNat h.toNat) else none
def strB (xs:List Int):ByteArray:=⟨(xs.map fun n=>UInt8.ofNat n.toNat).toArray⟩
def catI (a b:ByteArray):Option Unit:=if ((a.size+b.size:Nat):Int) > IntKind.i64.max then none else some ()
theorem w64_of {n:Int} (h1:-9223372036854775808≤n) (h2:n < 9223372036854775808):w64 n=n:=by
 simp[w64,IntKind.wrap,IntKind.bits,IntKind.signed];omega
end Go.Proofs.YtlcfolgfmlgncaaDoor.Ev
namespace Go.Proofs.YtlcfolgfmlgncaaDoor.Ev
open Go Go.RowKit KM
set_option linter.unusedVariables false
set_option linter.unusedSimpArgs false
set_option linter.unusedSectionVars false
variable [Anchor]
abbrev il (n:Int):V:=.lit (.int .i64 n)
abbrev bl (b:Bool):V:=.lit (.bool b)
section
variable {P:Program} {M:Hints}
def entS (M:Hints) (f:FuncId) (xs:List V):St:=(St.enters ⟨fun _=>.undef,fun _=>none,0⟩ 0 (M.modes f) xs).getD ⟨fun _=>.undef,fun _=>none,0⟩
theorem Znu (hP:FuncsOk P) {f:FuncId} {fn:Func} {c:Code} {xs:List V} {r:V} {os:List V} (hfn:P.funcs[f]?=some fn) (hc:fn.body=some c) (hs:(St.enters ⟨fun _=>.undef,fun _=>none,0⟩ 0 (M.modes f) xs).isSome=true)
  (h:SX P (RetC P M f fn xs (r,os)) [.c c] .normal (entS M f xs)):Fine P M (f,xs,r,os):=by
 obtain⟨s1,h1⟩:=Option.isSome_iff_exists.1 hs
 refine Zpi hP hfn hc h1 ?_
 have:entS M f xs=s1:=by unfold entS;rw[h1];rfl
 rw[←this]
 exact h
end
theorem Zmy {α β:Type} {x:Option α} {f:α→Option β} {b:β} (h:x.bind f=some b):∃a,x=some a∧f a=some b:=Option.bind_eq_some_iff.1 h
theorem Zn6 {β:Type} {t:Bool} {x y:Option β} {b:β} (h:(if t=true then x else y)=some b):(t=true∧x=some b)∨(t=false∧y=some b):=by
 cases t with
 | true=>exact .inl ⟨rfl,h⟩
 | false=>exact .inr ⟨rfl,h⟩
section
variable {α:Type}
theorem ixn {xs:List α} {i:Int} {a:α} (h:idx xs i=some a):Zy (il i)=some i.toNat:=by
 unfold idx at h
 split at h
 ·rename_i h0;simp[Zy,h0]
 ·cases h
theorem ixr (e:α→List V) {xs:List α} {i:Int} {a:α} (h:idx xs i=some a):(xs.map e)[i.toNat]?=some (e a):=by
 unfold idx at h
 split at h
 ·rw[List.getElem?_map,h];rfl
 ·cases h
theorem ixl (e:α→List V) {xs:List α} {i:Int} {a:α} (h:idx xs i=some a):i.toNat < (xs.map e).length:=(List.getElem?_eq_some_iff.1 (ixr e h)).1
theorem lenr (e:α→List V) (xs:List α):(xs.map e).length=xs.length:=List.length_map ..
theorem alr (n:Nat) {e:α→List V} (he:∀a,(e a).length=n) (xs:List α):Qg n (xs.map e)=true:=by
 unfold Qg
 rw[List.all_eq_true]
 intro r hr
 obtain⟨a,_,rfl⟩:=List.mem_map.1 hr
 simp[he]
theorem apm (e:α→List V) {sz:Nat} {xs ys zs:List α} (h:appI sz xs ys=some zs):xs.map e++ys.map e=zs.map e:=by
 unfold appI at h
 split at h
 ·injection h with h;rw[←h,List.map_append]
 ·cases h
theorem apl (e:α→List V) {sz:Nat} {xs ys zs:List α} (h:appI sz xs ys=some zs):((xs.map e).length+(ys.map e).length)*sz≤140737488355328∧(xs.map e).length+(ys.map e).length≤9223372036854775807:=by
 unfold appI at h
 split at h
 ·rename_i hh;simpa using hh
 ·cases h
theorem sln {xs ys:List α} {l h:Int} (e:X5 xs l h=some ys):Zy (il l)=some l.toNat∧Zy (il h)=some h.toNat:=by
 unfold X5 at e
 split at e
 ·rename_i h0
  refine⟨by simp[Zy,h0.1],?_⟩
  have:0≤h:=by omega
  simp[Zy,this]
 ·cases e
theorem sll (en:α→List V) {xs ys:List α} {l h:Int} (e:X5 xs l h=some ys):l.toNat≤h.toNat∧h.toNat≤(xs.map en).length:=by
 unfold X5 at e
 split at e
 ·rename_i h0
  rw[List.length_map]
  omega
 ·cases e
theorem slr (en:α→List V) {xs ys:List α} {l h:Int} (e:X5 xs l h=some ys):((xs.map en).drop l.toNat).take (h.toNat - l.toNat)=ys.map en:=by
 unfold X5 at e
 split at e
 ·injection e with e;rw[←e,List.map_take,List.map_drop]
 ·cases e
end
def encI (n:Int):List V:=[.lit (.int .i64 n)]
def encU (n:Int):List V:=[.lit (.int .u8 n)]
def encS (b:ByteArray):List V:=[.lit (.string b)]
theorem Znq (n:Int):(encI n).length=1:=rfl
theorem Q5 (n:ByteArray):(encS n).length=1:=rfl
abbrev iu (n:Int):V:=.lit (.int .u8 n)
abbrev ss (b:ByteArray):V:=.lit (.string b)
theorem six {b:ByteArray} {i m:Int} (h:atS b i=some m):sidx b (il i)=some m:=by
 unfold atS at h
 unfold sidx
 split at h
 ·rename_i h0
  show (if 0≤i then some i.toNat else none).bind _=_
  rw[if_pos h0]
  exact h
 ·cases h
theorem ssx {b c:ByteArray} {l h:Int} (e:subS b l h=some c):ssl b (some (il l)) (some (il h))=some c:=by
 unfold subS at e
 split at e
 ·rename_i h0
  unfold ssl
  show ((if 0≤h then some h.toNat else none).bind fun h=>(if 0≤l then some l.toNat else none).bind fun l=>_)=_
  rw[if_pos (by omega),if_pos h0.1]
  simp only[Option.bind_some]
  rw[if_pos (by omega)]
  exact e
 ·cases e
theorem ssxh {b c:ByteArray} {l:Int} (e:subS b l (b.size:Int)=some c):ssl b (some (il l)) none=some c:=by
 have:=ssx e
 unfold ssl at this ⊢
 exact this
theorem stx (xs:List Int):strV (xs.map fun n=>[V.lit (.int .u8 n)])=some (strB xs):=by
 have:Je (xs.map fun n=>[V.lit (.int .u8 n)])=some (xs.map fun n=>UInt8.ofNat n.toNat):=by
  induction xs with
  | nil=>rfl
  | cons x xs ih=>
   unfold Je at ih ⊢
   simp only[List.map_cons,Jt]
   rw[ih]
   rfl
 unfold strV
 rw[this]
 rfl
section
variable {α:Type}
theorem seto (e:α→List V) {xs ys:List α} {i:Int} {a:α} (h:setO xs i a=some ys):(xs.map e).set i.toNat (e a)=ys.map e:=by
 unfold setO at h
 injection h with h
 rw[←h,List.map_set]
theorem setl (e:α→List V) {xs ys:List α} {i:Int} {a:α} (h:setO xs i a=some ys):(xs.map e).length=(ys.map e).length:=by
 rw[←seto e h,List.length_set]
theorem lz (e:α→List V) {xs:List α} (h:decide (xs.length=0)=true):(xs.map e).length=0:=by
 rw[List.length_map];exact of_decide_eq_true h
theorem lnz (e:α→List V) {xs:List α} (h:decide (xs.length=0)=false):(xs.map e).length≠0:=by
 rw[List.length_map];exact of_decide_eq_false h
theorem ixc (e:α→List V) {xs ys:List α} {i:Int} {a:α} (h:idx ys i=some a) (hl:(xs.map e).length=(ys.map e).length):i.toNat < (xs.map e).length:=hl▸ixl e h
theorem lenq (e:α→List V) {xs ys:List α} {u:Unit} (h:lenE xs ys=some u):(xs.map e).length=(ys.map e).length:=by
 unfold lenE at h
 split at h
 ·rename_i hh;simpa using hh
 ·cases h
end
section
variable {α:Type}
end
def ks:Nat→List O→List O
 | 0,l=>l
 | n+1,l=>.k::ks n l
def Scr (q:List O) (p:Prop):Prop:=p
theorem ee:Scr [] True:=trivial
section
variable {q:List O} {p:Prop} {α:Type}
theorem kk (n:Nat) (k:Scr q p):Scr (ks n q) p:=k
theorem gg {c b:Bool} (h:c=b) (k:Scr q p):Scr (.t b::q) (c=b∧p):=⟨h,k⟩
theorem rr {P:Program} {M:Hints} {y:FuncId×List V×V×List V} (h:Fine P M y) (k:Scr q p):Scr (.res y.2.2.1 y.2.2.2::q) (Fine P M y∧p):=⟨h,k⟩
theorem xb (e:α→List V) {xs:List α} {i:Int} {a:α} (h:idx xs i=some a) (k:Scr q p):Scr (.row i.toNat (e a)::q) (Zy (il i)=some i.toNat∧(xs.map e)[i.toNat]?=some (e a)∧p):=⟨ixn h,ixr e h,k⟩
theorem xd (e:α→List V) {xs:List α} {i:Int} {a:α} (h:idx xs i=some a) (k:Scr q p):Scr (.row i.toNat (e a)::.cell (e a)::q) (Zy (il i)=some i.toNat∧i.toNat < (xs.map e).length∧(xs.map e)[i.toNat]?=some (e a)∧(xs.map e)[i.toNat]?=some (e a)∧p):=⟨ixn h,ixl e h,ixr e h,ixr e h,k⟩
theorem xp (e:α→List V) {xs ys:List α} {i:Int} {a b:α} (h:idx xs i=some a) (h2:setO xs i b=some ys) (k:Scr q p):Scr (.row i.toNat (e a)::.put (e a) (ys.map e)::q) (Zy (il i)=some i.toNat∧i.toNat < (xs.map e).length∧(xs.map e)[i.toNat]?=some (e a)∧(xs.map e)[i.toNat]?=some (e a)∧(xs.map e).set i.toNat (e b)=ys.map e∧p):=⟨ixn h,ixl e h,ixr e h,ixr e h,seto e h2,k⟩
theorem ln (e:α→List V) (xs:List α) (k:Scr q p):Scr (.num (xs.map e).length 0 0 []::q) ((xs.map e).length=(xs.map e).length∧p):=⟨rfl,k⟩
theorem lr (e:α→List V) (xs:List α) (k:Scr q p):Scr (.num xs.length 0 0 []::q) ((xs.map e).length=xs.length∧p):=⟨lenr e xs,k⟩
theorem tp (x:O) (k:Scr q p):Scr (x::q) p:=k
theorem ta (e:α→List V) (ys zs:List α) (k:Scr q p):Scr (.app (ys.map e) true (zs.map e) (zs.map e).length::q) p:=k
theorem oa (n:Nat) {e:α→List V} (he:∀a,(e a).length=n) (x:α) (k:Scr q p):Scr q (1=([x].map e).length∧[x].map e=[x].map e∧Qg n ([x].map e)=true∧p):=⟨rfl,rfl,alr n he [x],k⟩
theorem ox (e:α→List V) {sz:Nat} {xs ys zs:List α} (h:appI sz xs ys=some zs) (k:Scr q p):Scr q ((xs.map e).length=(xs.map e).length∧(((xs.map e).length+(ys.map e).length)*sz≤140737488355328∧(xs.map e).length+(ys.map e).length≤9223372036854775807)∧xs.map e++ys.map e=zs.map e∧p):=⟨rfl,apl e h,apm e h,k⟩
theorem oe (e:α→List V) (xs:List α) (k:Scr q p):Scr q ((xs.map e).length=(xs.map e).length∧p):=⟨rfl,k⟩
theorem ob {a:Prop} (h:a) (k:Scr q p):Scr q (a∧p):=⟨h,k⟩
end
theorem cat0 {a b:ByteArray} {u:Unit} (h:catI a b=some u):¬((a.size+b.size:Nat):Int) > IntKind.i64.max:=by
 unfold catI at h;split at h
 ·cases h
 ·assumption
def Zh7 (f:Func):Code:=f.body.getD .skip
def at_:List Nat→Code→List It→List It
 | 0::p,.seq a b,k=>at_ p a (.c b::k)
 | _::p,.seq _ b,k=>at_ p b k
 | 0::p,.cond _ a _,k=>at_ p a k
 | _::p,.cond _ _ b,k=>at_ p b k
 | _::p,.block i c,k=>at_ p c (.blk i::k)
 | _::p,.loop c,k=>at_ p c (.c (.loop c)::k)
 | _,c,k=>.c c::k
end Go.Proofs.YtlcfolgfmlgncaaDoor.Ev
namespace Go.Proofs.YtlcfolgfmlgncaaDoor.Ev
open Go Go.RowKit
set_option linter.unusedVariables false
set_option linter.unusedSimpArgs false
set_option linter.unusedSectionVars false
variable [Anchor]
section
variable {P:Program} {M:Hints} {w:World} {ok top:Nat→Prop}
theorem Zf3:∀{us:List Value} {xs:List V},us.length=xs.length→OutsR P w ok top [] us xs (xs.map fun _=>V.undef) []
 | [],[],_=>.nil
 | u::us,x::xs,h=>.cons (f1:=[]) (f2:=[]) rfl (Zf3 (by simpa using h))
theorem Zf2 {ms:List Mode} {us:List Value} {xs:List V} {G:List Nat} (h:ArgsR P w ok top ms us xs G):ms=[]→us.length=xs.length∧G=[]∧∀(j:Nat) (u:Value) (x:V),us[j]?=some u→xs[j]?=some x→∀ρ,En w ok ρ u x:=by
 induction h with
 | nil=>intro _;exact⟨rfl,rfl,fun j u x hu=>by simp at hu⟩
 | cons h hs ih=>
  intro hm
  subst hm
  obtain⟨h1,rfl,h2⟩:=ih rfl
  obtain⟨h3,rfl⟩:=h
  refine⟨by simp[h1],rfl,fun j u x hu hx=>?_⟩
  cases j with
  | zero=>simp at hu hx;subst hu;subst hx;exact h3
  | succ j=>exact h2 j u x (by simpa using hu) (by simpa using hx)
theorem Zfp {f:FuncId} {xs:List V} {v:Value} {x:V} (hfn:∃fn,P.funcs[f]?=some fn∧fn.body.isSome=true) (hm:M.modes f=[]) (hv:∀(w':World) (ok top:Nat→Prop),ResR P w' ok top v x [])
  (h:∀(w:World) (us:List Value) (ok:Nat→Prop),Anch w (fun _=>False)→(∀g,ok g→g < w.heap.size)→us.length=xs.length→(∀(j:Nat) (u:Value) (x:V),us[j]?=some u→xs[j]?=some x→∀ρ,En w ok ρ u x)→
   Calls P f us.toArray w (fun e w'=>e=.returned v∧Below w.heap.size w w')):Fine P M (f,xs,x,xs.map fun _=>.undef):=by
 refine⟨hfn,?_⟩
 show Qh P (M.modes f) f xs x _
 rw[hm]
 intro w us G T X ok hT hargs hGn hG hok hX
 obtain⟨hl,rfl,he⟩:=Zf2 hargs rfl
 have:=h w us.toList ok ⟨hT.1,hT.2.1,fun g hg=>hg.elim⟩ (fun g hg=>(hok g hg).1) hl he
 rw[Array.toArray_toList] at this
 exact this.mono fun e w' ⟨he,hb⟩=>⟨v,he,⟨⟨hb.os,hb.tape,hb.output,hb.size,fun k hk _=>hb.block k hk⟩,ok,T,[],[],hv w' ok T,Zf3 hl,by simp,fun g hg=>by simp at hg,fun g hg=>.inl hg,fun g hg=>⟨Nat.lt_of_lt_of_le (hok g hg).1 hb.size,(hok g hg).2⟩⟩⟩
theorem Zkf {v:Value} (hv:Yr v=true) (w':World) (ok top:Nat→Prop):ResR P w' ok top v (.lit v) []:=show Giv P w' ok top v (.lit v) [] from .lit hv
theorem Zan:∀l:List ByteArray,(l.map encS).flatten=l.map fun x=>V.lit (.string x)
 | []=>rfl
 | a::l=>by simp only[List.map_cons,List.flatten_cons,Zan l];rfl
theorem Zn7 {f:FuncId} {xs:List V} {e:TypeId} {l:List ByteArray} (hfn:∃fn,P.funcs[f]?=some fn∧fn.body.isSome=true) (hm:M.modes f=[]) (hlen:l.length≤maxLen)
  (h:∀(w:World) (us:List Value) (ok:Nat→Prop),Anch w (fun _=>False)→(∀g,ok g→g < w.heap.size)→us.length=xs.length→(∀(j:Nat) (u:Value) (x:V),us[j]?=some u→xs[j]?=some x→∀ρ,En w ok ρ u x)→
   Calls P f us.toArray w (fun r w'=>r=.returned (.slice (some ⟨w.heap.size,0,none⟩) l.length l.length)∧w'=w.alloc (.cells (l.map Value.string).toArray e))):Fine P M (f,xs,.tr (l.map encS),xs.map fun _=>.undef):=by
 refine⟨hfn,?_⟩
 show Qh P (M.modes f) f xs (.tr (l.map encS)) _
 rw[hm]
 intro w us G T X ok hT hargs hGn hG hok hX
 obtain⟨hl,rfl,he⟩:=Zf2 hargs rfl
 have:=h w us.toList ok ⟨hT.1,hT.2.1,fun g hg=>hg.elim⟩ (fun g hg=>(hok g hg).1) hl he
 rw[Array.toArray_toList] at this
 refine this.mono fun r w' ⟨hr,hw⟩=>⟨_,hr,?_⟩
 subst hw
 have hs:=Qo w (.cells (l.map Value.string).toArray e)
 have hat:=Zbv w (.cells (l.map Value.string).toArray e)
 have hXs:¬X w.heap.size:=fun hx=>by
  obtain⟨cur,t,hc⟩:=hX _ hx
  have:=(Array.getElem?_eq_some_iff.1 hc).1
  omega
 refine⟨(Left.refl w.heap.size T w).alloc (Nat.le_refl _) _,fun g=>ok g∨g=w.heap.size,fun _=>False,[],[],?_,Zf3 hl,by simp,fun g hg=>by simp at hg,fun g hg=>hg.elim,fun g hg=>?_⟩
 ·show Giv P _ (fun g=>ok g∨g=w.heap.size) _ _ (.tr (l.map encS)) []
  refine .tr (.tr (u:=fun k=>(l.map Value.string)[k]?.getD (.bool false)) (sz:=1) (by simp) (Nat.le_refl _) hlen (fun r hr=>?_) (.inr rfl) (fun k x hx=>?_) (fun k x hx=>?_))
  ·obtain⟨v,_,rfl⟩:=List.mem_map.1 hr;rfl
  ·rw[Zan,List.getElem?_map] at hx
   obtain⟨y,hy,rfl⟩:=Option.map_eq_some_iff.1 hx
   have hk:(l.map Value.string)[k]?=some (.string y):=by rw[List.getElem?_map,hy];rfl
   rw[hk]
   unfold World.cell?
   rw[hat]
   simp[hk]
  ·rw[Zan,List.getElem?_map] at hx
   obtain⟨y,hy,rfl⟩:=Option.map_eq_some_iff.1 hx
   have hk:(l.map Value.string)[k]?=some (.string y):=by rw[List.getElem?_map,hy];rfl
   rw[hk]
   exact .lit rfl
 ·rcases hg with hg|rfl
  ·exact⟨by have:=(hok g hg).1;omega,fun h=>h,(hok g hg).2.2⟩
  ·exact⟨by omega,fun h=>h,hXs⟩
theorem Zbi {ρ:Rho} {u v:Value} (h:En w ok ρ u (.lit v)):u=v:=by cases h;rfl
theorem Zpd {ρ:Rho} {u:Value} {l:List ByteArray} (h:En w ok ρ u (.tr (l.map encS))):
  (∃A c,u=.slice A 0 c∧l=[])∨∃g o c,u=.slice (some ⟨g,o,none⟩) l.length c∧ok g∧l.length≤c∧∀(j:Nat) x,l[j]?=some x→w.cell? ⟨g,o+j,none⟩=some (.string x):=by
 cases h with
 | tr h=>
  have hf:(l.map encS).flatten=l.map fun x=>V.lit (.string x):=Zan l
  generalize hq:l.map encS=rows at h
  cases h with
  | emp=>exact .inl ⟨_,_,rfl,by simpa using hq⟩
  | @tr g o n c sz rows u hn hc hm hs hg hu hr=>
   subst hq
   rw[hf] at hu hr
   have hn':n=l.length:=by rw[←hn];simp
   subst hn'
   refine .inr ⟨g,o,c,rfl,hg,hc,fun j x hx=>?_⟩
   have h1:(l.map fun x=>V.lit (.string x))[j]?=some (V.lit (.string x)):=by rw[List.getElem?_map,hx];rfl
   rw[hu j _ h1]
   have:=hr j _ h1
   generalize u j=q at this
   cases this;rfl
theorem Zob {w:World} {ok ok' top top':Nat→Prop} {ms:List Mode} {us:List Value} {xs os:List V} {fo:List Nat} (h:OutsR P w ok top ms us xs os fo):ms=[]→fo=[]∧OutsR P w ok' top' [] us xs os []:=by
 induction h with
 | nil=>intro _;exact⟨rfl,.nil⟩
 | cons h hs ih=>
  intro hm
  subst hm
  obtain⟨rfl,h2⟩:=ih rfl
  have h1:_=[]:=h
  subst h1
  exact⟨rfl,.cons (f1:=[]) (f2:=[]) rfl h2⟩
theorem Znw {f:FuncId} {xs:List V} {e:TypeId} {rows:List (List V)} {os:List V} (hm:M.modes f=[]) (h:Fine P M (f,xs,.own e rows,os)):Fine P M (f,xs,.tr rows,os):=by
 refine⟨h.1,?_⟩
 have hc:Qh P (M.modes f) f xs (.own e rows) os:=h.2
 show Qh P (M.modes f) f xs (.tr rows) os
 rw[hm] at hc ⊢
 intro w us G T X ok hT hargs hGn hG hok hX
 have hG0:G=[]:=(Zf2 hargs rfl).2.1
 refine (hc w us G T X ok hT hargs hGn hG hok hX).mono fun r w' ⟨v,hr,hd⟩=>⟨v,hr,⟨hd.left,?_⟩⟩
 obtain⟨ok',top',fr,fo,h1,h2,h3,h4,h5,h6⟩:=hd.ex
 have h1:Giv P w' ok' top' v (.own e rows) fr:=h1
 obtain⟨rfl,h2'⟩:=Zob (ok':=fun g=>ok' g∨g∈fr) (top':=fun g=>top' g∧g ∉ fr) h2 rfl
 subst hG0
 refine⟨fun g=>ok' g∨g∈fr,fun g=>top' g∧g ∉ fr,[],[],?_,h2',by simp,fun g hg=>by simp at hg,fun g hg=>h5 g hg.1,fun g hg=>?_⟩
 ·show Giv P w' _ _ v (.tr rows) []
  cases h1 with
  | own h _=>exact .tr (h.ow.rd fun g hg=>.inr hg)
 ·rcases hg with hg|hg
  ·exact⟨(h6 g hg).1,fun hh=>(h6 g hg).2.1 hh.1,(h6 g hg).2.2⟩
  ·have hk:=h4 g (by simpa using hg)
   refine⟨hk.1,fun hh=>hh.2 hg,fun hx=>?_⟩
   obtain⟨cur,t,hh⟩:=hX g hx
   have:=(Array.getElem?_eq_some_iff.1 hh).1
   rcases hk.2 with hk|hk
   ·simp at hk
   ·omega
end
end Go.Proofs.YtlcfolgfmlgncaaDoor.Ev
namespace Go.Proofs.YtlcfolgfmlgncaaDoor.Ev
open Go Go.Proofs
set_option linter.unusedVariables false
structure GMConf where
 weight:Int
 prio:Bool
 every:Int
 cap:Int
 deriving DecidableEq
structure GConf where
 masters:List GMConf
 quantum:Int
 maxWait:Int
 maxRetry:Int
 maxSplit:Int
 lockMost:Int
 deriving DecidableEq
abbrev GConf.z0:GConf:=⟨[],0,0,0,0,0⟩
def Kw (x0:ByteArray) (x1:Int)  (k:(List ByteArray)→Int→Int→Option (List ByteArray)) (v0:List ByteArray) (v1:Int) (v2:Int):Option (List ByteArray):=
 if decide (v2 < (x0.size:Int))=true then (
  (atS x0 v2).bind fun a0=>
  if decide (a0=x1)=true then (
   (subS x0 v1 v2).bind fun s0=>
   (appI 16 v0 [s0]).bind fun z0=>
   k z0 (addW v2 1) (addW v2 1))
  else (
   k v0 v1 (addW v2 1)))
 else (
  (subS x0 v1 (x0.size:Int)).bind fun s1=>
  (appI 16 v0 [s1]).bind fun z1=>
  some z1)
def Wp (x0:ByteArray) (x1:Int)  : Nat→(List ByteArray)→Int→Int→Option (List ByteArray)
 | 0,_,_,_=>none
 | m+1,v0,v1,v2=>Kw x0 x1  (Wp x0 x1  m) v0 v1 v2
def X6 (x0:ByteArray) (x1:Int):Option (List ByteArray):=
 Wp x0 x1 FU [] 0 0
def Qx (x0:Int) (k_L1:Int→ByteArray→Option ByteArray) (v0:Int) (v1:ByteArray) (v2:Int):Option ByteArray:=
 (catI (strB [(w8 (addW 48 v2))]) v1).bind fun n0=>
 k_L1 (quoW v0 10) ((strB [(w8 (addW 48 v2))])++v1)
def J6 (x0:Int)  (k:Int→ByteArray→Option ByteArray) (v0:Int) (v1:ByteArray):Option ByteArray:=
 if decide (v0≠0)=true then (
  if decide ((remW v0 10) < 0)=true then (
   Qx x0 k v0 v1 (negW (remW v0 10)))
  else (
   Qx x0 k v0 v1 (remW v0 10)))
 else (
  if decide (x0 < 0)=true then (
   (catI (strL [45]) v1).bind fun n1=>
   some ((strL [45])++v1))
  else (
   some v1))
def Ww (x0:Int)  : Nat→Int→ByteArray→Option ByteArray
 | 0,_,_=>none
 | m+1,v0,v1=>J6 x0  (Ww x0  m) v0 v1
def Xv (x0:Int):Option ByteArray:=
 if decide (x0=0)=true then (
  some (strL [48]))
 else (
  Ww x0 FU x0 ByteArray.empty)
def X3 (x0:ByteArray) (k_L1:Int→Int→Int→Option (Int×Bool)) (v0:Int) (v1:Int) (v2:Int) (v3:Bool):Option (Int×Bool):=
 if v3=true then (
  (atS x0 v2).bind fun a0=>
  k_L1 (addW (mulW v0 10) (w64 (Zk4 a0 48))) (addW v1 1) (addW v2 1))
 else (
  k_L1 v0 v1 (addW v2 1))
def Yv (x0:ByteArray)  (v0:Int) (v1:Int):Option (Int×Bool):=
 if decide (v1 > 9)=true then (
  some (0,false))
 else (
  if decide ((x0.size:Int) > 10)=true then (
   some (0,false))
  else (
   (Xv v0).bind fun r0=>
   if (!(r0.toList == x0.toList))=true then (
    some (0,false))
   else (
    some (v0,true))))
def Zn (x0:ByteArray)  (v0:Int) (v1:Int) (v4:Bool):Option (Int×Bool):=
 if v4=true then (
  Yv x0 (negW v0) v1)
 else (
  Yv x0 v0 v1)
def Xf (x0:ByteArray) (k_L1:Int→Int→Int→Option (Int×Bool)) (v0:Int) (v1:Int) (v2:Int) (v5:Bool):Option (Int×Bool):=
 if v5=true then (
  (atS x0 v2).bind fun a1=>
  if decide (a1≥48)=true then (
   X3 x0 k_L1 v0 v1 v2 (decide (a1≤57)))
  else (
   X3 x0 k_L1 v0 v1 v2 false))
 else (
  if decide ((x0.size:Int) > 0)=true then (
   (atS x0 0).bind fun a2=>
   Zn x0 v0 v1 (decide (a2=45)))
  else (
   Zn x0 v0 v1 false))
def Wn (x0:ByteArray)  (k:Int→Int→Int→Option (Int×Bool)) (v0:Int) (v1:Int) (v2:Int):Option (Int×Bool):=
 if decide (v2 < (x0.size:Int))=true then (
  Xf x0 k v0 v1 v2 (decide (v2 < 11)))
 else (
  Xf x0 k v0 v1 v2 false)
def W2 (x0:ByteArray)  : Nat→Int→Int→Int→Option (Int×Bool)
 | 0,_,_,_=>none
 | m+1,v0,v1,v2=>Wn x0  (W2 x0  m) v0 v1 v2
def Yc (x0:ByteArray):Option (Int×Bool):=
 W2 x0 FU 0 0 0
def Z6 (x0:Int) (x1:Int) (x2:Int):Option Bool:=
 if decide (x0≥x1)=true then (
  some (decide (x0≤x2)))
 else (
  some false)
def Qp (x0:GConf)  (v0:Bool):Option Int:=
 if v0=true then (
  some 0)
 else (
  some (mulW (addW x0.maxRetry 2) (addW x0.maxWait 6)))
def Wl (x0:GConf):Option Int:=
 (Z6 x0.maxRetry 0 3).bind fun r0=>
 if (!r0)=true then (
  Qp x0 true)
 else (
  (Z6 x0.maxWait 0 3).bind fun r1=>
  Qp x0 (!r1))
def X2 (x0:GConf):Option Int:=
 (Wl x0).bind fun r0=>
 if decide (r0=0)=true then (
  some 0)
 else (
  (Z6 x0.lockMost 1 40).bind fun r1=>
  if (!r1)=true then (
   some 0)
  else (
   (Wl x0).bind fun r2=>
   some (addW (mulW 2 r2) x0.lockMost)))
def Ko (x0:GConf):Option Bool:=
 (Z6 x0.quantum 1 4).bind fun r0=>
 if r0=true then (
  (Wl x0).bind fun r1=>
  if decide (r1 > 0)=true then (
   (Z6 x0.maxSplit 1 12).bind fun r2=>
   if r2=true then (
    (Z6 x0.lockMost 1 40).bind fun r3=>
    some r3)
   else (
    some false))
  else (
   some false))
 else (
  some false)
def Kj (x0:GConf)  (k:Int→Int→Option Bool) (v0:Int) (v1:Int):Option Bool:=
 if decide (v1 < (x0.masters.length:Int))=true then (
  (idx x0.masters v1).bind fun a0=>
  (Z6 a0.weight 1 4).bind fun r0=>
  if (!r0)=true then (
   some false)
  else (
   if (!a0.prio)=true then (
    if decide (a0.every≠0)=true then (
     some false)
    else (
     if decide (a0.cap≠0)=true then (
      some false)
     else (
      if a0.prio=true then (
       (X2 x0).bind fun r1=>
       (Z6 a0.every (mulW (mulW 2 v0) r1) 1000).bind fun r2=>
       if (!r2)=true then (
        some false)
       else (
        (Z6 a0.cap 1 8).bind fun r3=>
        if (!r3)=true then (
         some false)
        else (
         k v0 (addW v1 1))))
      else (
       k v0 (addW v1 1)))))
   else (
    if a0.prio=true then (
     (X2 x0).bind fun r1=>
     (Z6 a0.every (mulW (mulW 2 v0) r1) 1000).bind fun r2=>
     if (!r2)=true then (
      some false)
     else (
      (Z6 a0.cap 1 8).bind fun r3=>
      if (!r3)=true then (
       some false)
      else (
       k v0 (addW v1 1))))
    else (
     k v0 (addW v1 1)))))
 else (
  (Z6 (x0.masters.length:Int) 1 4).bind fun r4=>
  if r4=true then (
   (Ko x0).bind fun r5=>
   some r5)
  else (
   some false))
def Yt (x0:GConf)  : Nat→Int→Int→Option Bool
 | 0,_,_=>none
 | m+1,v0,v1=>Kj x0  (Yt x0  m) v0 v1
def Kb (x0:GConf)  (k:Int→Int→Option Bool) (v0:Int) (v2:Int):Option Bool:=
 if decide (v2 < (x0.masters.length:Int))=true then (
  (idx x0.masters v2).bind fun a1=>
  if a1.prio=true then (
   k (addW v0 1) (addW v2 1))
  else (
   k v0 (addW v2 1)))
 else (
  Yt x0 FU v0 0)
def Qq (x0:GConf)  : Nat→Int→Int→Option Bool
 | 0,_,_=>none
 | m+1,v0,v2=>Kb x0  (Qq x0  m) v0 v2
def Jk (x0:GConf):Option Bool:=
 Qq x0 FU 0 0
def Qw (x0:GConf)  (k:ByteArray→Int→Option ByteArray) (v0:ByteArray) (v1:Int):Option ByteArray:=
 if decide (v1 < (x0.masters.length:Int))=true then (
  (idx x0.masters v1).bind fun a0=>
  (catI v0 (strL [32])).bind fun n0=>
  (Xv a0.weight).bind fun r0=>
  (catI (v0++(strL [32])) r0).bind fun n1=>
  if a0.prio=true then (
   (catI ((v0++(strL [32]))++r0) (strL [58])).bind fun n2=>
   (Xv a0.every).bind fun r1=>
   (catI (((v0++(strL [32]))++r0)++(strL [58])) r1).bind fun n3=>
   (catI ((((v0++(strL [32]))++r0)++(strL [58]))++r1) (strL [58])).bind fun n4=>
   (Xv a0.cap).bind fun r2=>
   (catI (((((v0++(strL [32]))++r0)++(strL [58]))++r1)++(strL [58])) r2).bind fun n5=>
   k ((((((v0++(strL [32]))++r0)++(strL [58]))++r1)++(strL [58]))++r2) (addW v1 1))
  else (
   k ((v0++(strL [32]))++r0) (addW v1 1)))
 else (
  some v0)
def Xo (x0:GConf)  : Nat→ByteArray→Int→Option ByteArray
 | 0,_,_=>none
 | m+1,v0,v1=>Qw x0  (Xo x0  m) v0 v1
def Qd (x0:GConf):Option ByteArray:=
 (Jk x0).bind fun r3=>
 if (!r3)=true then (
  some ByteArray.empty)
 else (
  (Xv x0.quantum).bind fun r4=>
  (catI r4 (strL [32])).bind fun n6=>
  (Xv x0.maxWait).bind fun r5=>
  (catI (r4++(strL [32])) r5).bind fun n7=>
  (catI ((r4++(strL [32]))++r5) (strL [32])).bind fun n8=>
  (Xv x0.maxRetry).bind fun r6=>
  (catI (((r4++(strL [32]))++r5)++(strL [32])) r6).bind fun n9=>
  (catI ((((r4++(strL [32]))++r5)++(strL [32]))++r6) (strL [32])).bind fun n10=>
  (Xv x0.maxSplit).bind fun r7=>
  (catI (((((r4++(strL [32]))++r5)++(strL [32]))++r6)++(strL [32])) r7).bind fun n11=>
  (catI ((((((r4++(strL [32]))++r5)++(strL [32]))++r6)++(strL [32]))++r7) (strL [32])).bind fun n12=>
  (Xv x0.lockMost).bind fun r8=>
  (catI (((((((r4++(strL [32]))++r5)++(strL [32]))++r6)++(strL [32]))++r7)++(strL [32])) r8).bind fun n13=>
  Xo x0 FU ((((((((r4++(strL [32]))++r5)++(strL [32]))++r6)++(strL [32]))++r7)++(strL [32]))++r8) 0)
def Yo (x0:ByteArray) (k_L1:GConf→(List ByteArray)→Int→Option (GConf×Bool)) (vb0:GConf) (vb1:GMConf) (v0:List ByteArray) (v1:Int):Option (GConf×Bool):=
 (appI 32 vb0.masters [vb1]).bind fun z0=>
 k_L1 {vb0 with masters:=z0} v0 (addW v1 1)
def Xh (x0:ByteArray)  (k:GConf→(List ByteArray)→Int→Option (GConf×Bool)) (vb0:GConf) (v0:List ByteArray) (v1:Int):Option (GConf×Bool):=
 if decide (v1 < (v0.length:Int))=true then (
  (idx v0 v1).bind fun a0=>
  (X6 a0 58).bind fun r0=>
  (idx r0 0).bind fun a1=>
  (Yc a1).bind fun r1=>
  if decide ((r0.length:Int)=3)=true then (
   (idx r0 1).bind fun a2=>
   (Yc a2).bind fun r2=>
   (idx r0 2).bind fun a3=>
   (Yc a3).bind fun r3=>
   Yo x0 k vb0 (GMConf.mk r1.1 true r2.1 r3.1) v0 v1)
  else (
   Yo x0 k vb0 (GMConf.mk r1.1 false 0 0) v0 v1))
 else (
  (Qd vb0).bind fun r4=>
  if (!(r4.toList == x0.toList))=true then (
   some (GConf.z0,false))
  else (
   if (x0.toList == ByteArray.empty.toList)=true then (
    some (GConf.z0,false))
   else (
    some (vb0,true))))
def Ya (x0:ByteArray)  : Nat→GConf→(List ByteArray)→Int→Option (GConf×Bool)
 | 0,_,_,_=>none
 | m+1,vb0,v0,v1=>Xh x0  (Ya x0  m) vb0 v0 v1
def Xp (x0:ByteArray):Option (GConf×Bool):=
 (X6 x0 32).bind fun r5=>
 if decide ((r5.length:Int) < 6)=true then (
  some (GConf.z0,false))
 else (
  (idx r5 0).bind fun a4=>
  (Yc a4).bind fun r6=>
  (idx r5 1).bind fun a5=>
  (Yc a5).bind fun r7=>
  (idx r5 2).bind fun a6=>
  (Yc a6).bind fun r8=>
  (idx r5 3).bind fun a7=>
  (Yc a7).bind fun r9=>
  (idx r5 4).bind fun a8=>
  (Yc a8).bind fun r10=>
  Ya x0 FU (GConf.mk [] r6.1 r7.1 r8.1 r9.1 r10.1) r5 5)
def Xd (x0:ByteArray) (x1:ByteArray):Option (List ByteArray):=if x0.size < 4294967281∧1≤x1.size then some (Lib.splitB x1 0 (Lib.countB x0 x1) x0) else none
def Wj (x0:ByteArray) (x1:Int):Option (Int×Bool):=if x0.size≤281474976710656 then (match Lib.atoiAll x0.data.toList with
 | .ok v=>if Lib.itoa v=x0.data.toList∧((Lib.trimPrefix x0.data.toList [45]).length:Int)≤x1 then some (v,true) else some (0,false)
 | _=>some (0,false)) else none
def Y2 (x0:List ByteArray)  (k:(List Int)→Int→Option (List Int×Bool)) (v0:List Int) (v1:Int):Option (List Int×Bool):=
 if decide (v1 < (x0.length:Int))=true then (
  (idx x0 v1).bind fun a0=>
  (Wj a0 18).bind fun r0=>
  if (!r0.2)=true then (
   some ([],false))
  else (
   (appI 8 v0 [r0.1]).bind fun z0=>
   k z0 (addW v1 1)))
 else (
  some (v0,true))
def Xe (x0:List ByteArray)  : Nat→(List Int)→Int→Option (List Int×Bool)
 | 0,_,_=>none
 | m+1,v0,v1=>Y2 x0  (Xe x0  m) v0 v1
def Ws (x0:List ByteArray):Option (List Int×Bool):=
 Xe x0 FU [] 0
def Yk (x0:Int) (x1:Int) (x2:Int):Option Bool:=
 if decide (x1≤x0)=true then (
  some (decide (x0≤x2)))
 else (
  some false)
def K1 (x0:GConf)  (v0:Bool):Option Int:=
 if v0=true then (
  some 0)
 else (
  some (mulW (addW x0.maxRetry 2) (addW x0.maxWait 6)))
def Kg (x0:GConf):Option Int:=
 (Yk x0.maxRetry 0 3).bind fun r0=>
 if (!r0)=true then (
  K1 x0 true)
 else (
  (Yk x0.maxWait 0 3).bind fun r1=>
  K1 x0 (!r1))
def Kd (x0:GConf):Option Int:=
 (Kg x0).bind fun r0=>
 if decide (r0=0)=true then (
  some 0)
 else (
  (Yk x0.lockMost 1 40).bind fun r1=>
  if (!r1)=true then (
   some 0)
  else (
   (Kg x0).bind fun r2=>
   some (addW (mulW 2 r2) x0.lockMost)))
def Kx (x0:GConf)  (k:Int→Int→Option Int) (v0:Int) (v1:Int):Option Int:=
 if decide (v1 < (x0.masters.length:Int))=true then (
  (idx x0.masters v1).bind fun a0=>
  if a0.prio=true then (
   k (addW v0 1) (addW v1 1))
  else (
   k v0 (addW v1 1)))
 else (
  some v0)
def Q0 (x0:GConf)  : Nat→Int→Int→Option Int
 | 0,_,_=>none
 | m+1,v0,v1=>Kx x0  (Q0 x0  m) v0 v1
def Zaz (x0:GConf):Option Int:=
 Q0 x0 FU 0 0
def Qj (x0:GConf):Option Int:=
 (Kd x0).bind fun r0=>
 (Zaz x0).bind fun r1=>
 some (mulW (mulW 2 r0) r1)
def Kl (x0:GMConf) (x1:GConf):Option Bool:=
 (Yk x0.weight 1 4).bind fun r0=>
 if (!r0)=true then (
  some true)
 else (
  if x0.prio=true then (
   (Qj x1).bind fun r1=>
   (Yk x0.every r1 1000).bind fun r2=>
   if (!r2)=true then (
    some true)
   else (
    (Yk x0.cap 1 8).bind fun r3=>
    some (!r3)))
  else (
   if decide (x0.every≠0)=true then (
    some true)
   else (
    some (decide (x0.cap≠0)))))
def Zv (x0:List GMConf) (x1c0:GConf)  (k:Int→Option Int) (v0:Int):Option Int:=
 if decide (v0 < (x0.length:Int))=true then (
  (idx x0 v0).bind fun a0=>
  (Kl a0 x1c0).bind fun r0=>
  if r0=true then (
   some v0)
  else (
   k (addW v0 1)))
 else (
  some (-1))
def Zg (x0:List GMConf) (x1c0:GConf)  : Nat→Int→Option Int
 | 0,_=>none
 | m+1,v0=>Zv x0 x1c0  (Zg x0 x1c0  m) v0
def Z5 (x0:List GMConf) (x1c0:GConf):Option Int:=
 Zg x0 x1c0 FU 0
def Zm (x0:List GMConf) (x1c0:GConf):Option Bool:=
 (Z5 x0 x1c0).bind fun r0=>
 some (decide (r0≥0))
def Qn (x0:GConf):Option Bool:=
 (Yk (x0.masters.length:Int) 1 4).bind fun r0=>
 if (!r0)=true then (
  some false)
 else (
  (Yk x0.quantum 1 4).bind fun r1=>
  if (!r1)=true then (
   some false)
  else (
   (Yk x0.maxSplit 1 12).bind fun r2=>
   if (!r2)=true then (
    some false)
   else (
    (Kd x0).bind fun r3=>
    if decide (r3=0)=true then (
     some false)
    else (
     (Zm x0.masters x0).bind fun r4=>
     some (!r4)))))
def Ql (x0:Int):Option ByteArray:=if -9223372036854775808≤x0∧x0≤9223372036854775807 then some ⟨(Lib.itoa x0).toArray⟩ else none
def Za7 (x0:Int):Option ByteArray:=
 (Ql x0).bind fun r0=>
 some r0
def Q1 (x0:List Int)  (k:(List ByteArray)→Int→Option (List ByteArray)) (v0:List ByteArray) (v1:Int):Option (List ByteArray):=
 if decide (v1 < (x0.length:Int))=true then (
  (idx x0 v1).bind fun a0=>
  (Za7 a0).bind fun r0=>
  (appI 16 v0 [r0]).bind fun z0=>
  k z0 (addW v1 1))
 else (
  some v0)
def Kt (x0:List Int)  : Nat→(List ByteArray)→Int→Option (List ByteArray)
 | 0,_,_=>none
 | m+1,v0,v1=>Q1 x0  (Kt x0  m) v0 v1
def Q4 (x0:List Int):Option (List ByteArray):=
 Kt x0 FU [] 0
def Xn (x0:List ByteArray) (x1:ByteArray):Option ByteArray:=if x0.length≤140737488355328∧(Lib.join (x0.map (·.data.toList)) x1.data.toList).length≤140737488355328 then some ⟨(Lib.join (x0.map (·.data.toList)) x1.data.toList).toArray⟩ else none
def Wd (x0:GConf)  (k:(List ByteArray)→Int→Option ByteArray) (v0:List ByteArray) (v1:Int):Option ByteArray:=
 if decide (v1 < (x0.masters.length:Int))=true then (
  (idx x0.masters v1).bind fun a0=>
  (Za7 a0.weight).bind fun r0=>
  if a0.prio=true then (
   (Q4 [a0.weight,a0.every,a0.cap]).bind fun r1=>
   (Xn r1 (strL [58])).bind fun r2=>
   (appI 16 v0 [r2]).bind fun z0=>
   k z0 (addW v1 1))
  else (
   (appI 16 v0 [r0]).bind fun z0=>
   k z0 (addW v1 1)))
 else (
  (Xn v0 (strL [32])).bind fun r3=>
  some r3)
def Wm (x0:GConf)  : Nat→(List ByteArray)→Int→Option ByteArray
 | 0,_,_=>none
 | m+1,v0,v1=>Wd x0  (Wm x0  m) v0 v1
def W3 (x0:GConf):Option ByteArray:=
 (Qn x0).bind fun r4=>
 if (!r4)=true then (
  some ByteArray.empty)
 else (
  (Q4 [x0.quantum,x0.maxWait,x0.maxRetry,x0.maxSplit,x0.lockMost]).bind fun r5=>
  Wm x0 FU r5 0)
def Yl (x0:ByteArray) (k_L1:GConf→(List ByteArray)→Int→Int→Option (GConf×Bool)) (vb0:GConf) (v0:List Int) (v1:List ByteArray) (v2:Int) (v3:Int) (v4:Bool):Option (GConf×Bool):=
 if v4=true then (
  (idx v0 0).bind fun a0=>
  (idx v0 1).bind fun a1=>
  (idx v0 2).bind fun a2=>
  (appI 32 vb0.masters [(GMConf.mk a0 true a1 a2)]).bind fun z0=>
  k_L1 {vb0 with masters:=z0} v1 v2 (addW v3 1))
 else (
  some (GConf.z0,false))
def Ym (x0:ByteArray) (k_L1:GConf→(List ByteArray)→Int→Int→Option (GConf×Bool)) (vb0:GConf) (v0:List Int) (v5:Bool) (v1:List ByteArray) (v2:Int) (v3:Int) (v6:Bool):Option (GConf×Bool):=
 if v6=true then (
  (idx v0 0).bind fun a3=>
  (appI 32 vb0.masters [(GMConf.mk a3 false 0 0)]).bind fun z1=>
  k_L1 {vb0 with masters:=z1} v1 v2 (addW v3 1))
 else (
  if v5=true then (
   Yl x0 k_L1 vb0 v0 v1 v2 v3 (decide ((v0.length:Int)=3)))
  else (
   Yl x0 k_L1 vb0 v0 v1 v2 v3 false))
def Z2 (x0:ByteArray)  (k:GConf→(List ByteArray)→Int→Int→Option (GConf×Bool)) (vb0:GConf) (v1:List ByteArray) (v2:Int) (v3:Int):Option (GConf×Bool):=
 if decide (v3 < v2)=true then (
  (idx v1 v3).bind fun a4=>
  (Xd a4 (strL [58])).bind fun r0=>
  (Ws r0).bind fun r1=>
  if r1.2=true then (
   Ym x0 k vb0 r1.1 r1.2 v1 v2 v3 (decide ((r1.1.length:Int)=1)))
  else (
   Ym x0 k vb0 r1.1 r1.2 v1 v2 v3 false))
 else (
  (Qn vb0).bind fun r2=>
  if (!r2)=true then (
   some (GConf.z0,false))
  else (
   (W3 vb0).bind fun r3=>
   if (!(r3.toList == x0.toList))=true then (
    some (GConf.z0,false))
   else (
    some (vb0,true))))
def Zu (x0:ByteArray)  : Nat→GConf→(List ByteArray)→Int→Int→Option (GConf×Bool)
 | 0,_,_,_,_=>none
 | m+1,vb0,v1,v2,v3=>Z2 x0  (Zu x0  m) vb0 v1 v2 v3
def Y4 (x0:ByteArray)  (v7:List ByteArray) (v8:Bool):Option (GConf×Bool):=
 if v8=true then (
  some (GConf.z0,false))
 else (
  (X5 v7 0 5).bind fun s0=>
  (Ws s0).bind fun r4=>
  if (!r4.2)=true then (
   some (GConf.z0,false))
  else (
   (idx r4.1 0).bind fun a5=>
   (idx r4.1 1).bind fun a6=>
   (idx r4.1 2).bind fun a7=>
   (idx r4.1 3).bind fun a8=>
   (idx r4.1 4).bind fun a9=>
   (X5 v7 5 (v7.length:Int)).bind fun s1=>
   Zu x0 FU (GConf.mk [] a5 a6 a7 a8 a9) s1 (s1.length:Int) 0))
def Xa (x0:ByteArray):Option (GConf×Bool):=
 (Xd x0 (strL [32])).bind fun r5=>
 if decide ((r5.length:Int) < 6)=true then (
  Y4 x0 r5 true)
 else (
  Y4 x0 r5 (decide ((r5.length:Int) > 9)))
def Wu (x0:GMConf) (x1:GMConf):Option Bool:=
 if decide (x0.weight≠x1.weight)=true then (
  some false)
 else (
  if (x0.prio != x1.prio)=true then (
   some false)
  else (
   if decide (x0.every≠x1.every)=true then (
    some false)
   else (
    if decide (x0.cap≠x1.cap)=true then (
     some false)
    else (
     some true))))
def Qv (x0:List GMConf) (x1:List GMConf)  (k:Int→Option Bool) (v0:Int):Option Bool:=
 if decide (v0 < (x0.length:Int))=true then (
  (idx x0 v0).bind fun a0=>
  (idx x1 v0).bind fun a1=>
  (Wu a0 a1).bind fun r0=>
  if (!r0)=true then (
   some false)
  else (
   k (addW v0 1)))
 else (
  some true)
def Wk (x0:List GMConf) (x1:List GMConf)  : Nat→Int→Option Bool
 | 0,_=>none
 | m+1,v0=>Qv x0 x1  (Wk x0 x1  m) v0
def Ks (x0:List GMConf) (x1:List GMConf):Option Bool:=
 if decide ((x0.length:Int)≠(x1.length:Int))=true then (
  some false)
 else (
  Wk x0 x1 FU 0)
def Qk (x0:GConf) (x1:GConf):Option Bool:=
 (Ks x0.masters x1.masters).bind fun r0=>
 if (!r0)=true then (
  some false)
 else (
  if decide (x0.quantum≠x1.quantum)=true then (
   some false)
  else (
   if decide (x0.maxWait≠x1.maxWait)=true then (
    some false)
   else (
    if decide (x0.maxRetry≠x1.maxRetry)=true then (
     some false)
    else (
     if decide (x0.maxSplit≠x1.maxSplit)=true then (
      some false)
     else (
      if decide (x0.lockMost≠x1.lockMost)=true then (
       some false)
      else (
       some true))))))
def Zcp (x0:List GMConf) (x1:Int)  (k:Option (Int×List GMConf))  : Option (Int×List GMConf):=
 if decide (0 < (x0.length:Int))=true then (
  (idx x0 0).bind fun a0=>
  none)
 else (
  some (x1,x0))
def Qc (x0:List GMConf) (x1:Int)  : Nat→Option (Int×List GMConf)
 | 0=>none
 | m+1=>Zcp x0 x1  (Qc x0 x1  m)
def Kz (x0:List GMConf) (x1:Int):Option (Int×List GMConf):=
 Qc x0 x1 FU
def Jx (x0:GConf) (x1:Int):Option (Int×GConf):=
 (Kz x0.masters x1).bind fun r0=>
 some (r0.1,x0)
def Zcn (x0:List GMConf) (x1:Int)  (k:Int→Int→Option Int) (v0:Int) (v1:Int):Option Int:=
 if decide (v1 < (x0.length:Int))=true then (
  (idx x0 v1).bind fun a0=>
  if decide (a0.weight≠v0)=true then (
   some (-1))
  else (
   if (a0.prio != decide ((remW (addW v0 1) 3)=0))=true then (
    some (-1))
   else (
    if decide (a0.every≠(addW (addW v0 1) 1))=true then (
     some (-1))
    else (
     if decide (a0.cap≠(addW (addW (addW v0 1) 1) 1))=true then (
      some (-1))
     else (
      k (addW (addW (addW (addW v0 1) 1) 1) 1) (addW v1 1))))))
 else (
  some v0)
def Qe (x0:List GMConf) (x1:Int)  : Nat→Int→Int→Option Int
 | 0,_,_=>none
 | m+1,v0,v1=>Zcn x0 x1  (Qe x0 x1  m) v0 v1
def K0 (x0:List GMConf) (x1:Int):Option Int:=
 Qe x0 x1 FU x1 0
def Xq (x0:GConf) (x1:Int):Option Int:=
 (K0 x0.masters x1).bind fun r0=>
 if decide (r0 < 0)=true then (
  some (-1))
 else (
  some r0)
def Zcd (x0:List GMConf) (x1:Int)  (k:(List GMConf)→Int→Int→Option (Int×List GMConf)) (vpers_0_0:List GMConf) (v0:Int) (v1:Int):Option (Int×List GMConf):=
 if decide (v1 < (vpers_0_0.length:Int))=true then (
  (idx vpers_0_0 v1).bind fun a0=>
  (setO vpers_0_0 v1 {a0 with weight:=v0}).bind fun y0=>
  (idx y0 v1).bind fun a1=>
  (setO y0 v1 {a1 with prio:=(decide ((remW (addW v0 1) 3)=0))}).bind fun y1=>
  (idx y1 v1).bind fun a2=>
  (setO y1 v1 {a2 with every:=(addW (addW v0 1) 1)}).bind fun y2=>
  (idx y2 v1).bind fun a3=>
  (setO y2 v1 {a3 with cap:=(addW (addW (addW v0 1) 1) 1)}).bind fun y3=>
  k y3 (addW (addW (addW (addW v0 1) 1) 1) 1) (addW v1 1))
 else (
  (lenE x0 vpers_0_0).bind fun e0=>
  some (v0,vpers_0_0))
def Wy (x0:List GMConf) (x1:Int)  : Nat→(List GMConf)→Int→Int→Option (Int×List GMConf)
 | 0,_,_,_=>none
 | m+1,vpers_0_0,v0,v1=>Zcd x0 x1  (Wy x0 x1  m) vpers_0_0 v0 v1
def Kf (x0:List GMConf) (x1:Int):Option (Int×List GMConf):=
 Wy x0 x1 FU x0 x1 0
def Q3 (x0:GConf) (x1:Int):Option (Int×GConf):=
 if decide (x0.masters.length=0)=true then (
  (Kz [] x1).bind fun r0=>
  some (r0.1,x0))
 else (
  (Kf x0.masters x1).bind fun r0=>
  (lenE x0.masters r0.2).bind fun q0=>
  some (r0.1,{x0 with masters:=r0.2}))
def Yg (x0:ByteArray)  (vb0:GConf) (v0:Int) (v1:Bool):Option Bool:=
 if v1=true then (
  some false)
 else (
  (Xq vb0 1).bind fun r0=>
  if decide (r0 < 0)=true then (
   some false)
  else (
   if decide (r0≠v0)=true then (
    some false)
   else (
    some true)))
def Yf (x0:ByteArray)  (vb0:GConf) (vb1:GConf) (v2:Bool) (v0:Int):Option Bool:=
 (Xq vb1 1).bind fun r1=>
 if decide (r1 < 0)=true then (
  some false)
 else (
  if decide (r1≠v0)=true then (
   some false)
  else (
   (Xa x0).bind fun r2=>
   (Qk r2.1 vb0).bind fun r3=>
   if (!r3)=true then (
    Yg x0 vb1 v0 true)
   else (
    Yg x0 vb1 v0 (r2.2 != v2))))
def Yy (x0:ByteArray)  (vb0:GConf) (vb1:GConf) (v2:Bool) (v3:Bool):Option Bool:=
 if v3=true then (
  some false)
 else (
  if decide (vb1.masters.length=0)=true then (
   (Jx {vb1 with masters:=[]} 1).bind fun r4=>
   Yf x0 vb0 vb1 v2 r4.1)
  else (
   (Q3 vb1 1).bind fun r4=>
   (lenE vb1.masters r4.2.masters).bind fun q0=>
   Yf x0 vb0 {vb1 with masters:=r4.2.masters} v2 r4.1))
def Wx (x0:ByteArray):Option Bool:=
 if decide ((x0.size:Int) > 1048576)=true then (
  some true)
 else (
  (Xp x0).bind fun r5=>
  (Xa x0).bind fun r6=>
  (Qk r6.1 r5.1).bind fun r7=>
  if (!r7)=true then (
   Yy x0 r5.1 r6.1 r5.2 true)
  else (
   Yy x0 r5.1 r6.1 r5.2 (r6.2 != r5.2)))
end Go.Proofs.YtlcfolgfmlgncaaDoor.Ev
namespace Go.Proofs.YtlcfolgfmlgncaaDoor.Ev
open Go Go.Proofs Go.RowKit
set_option linter.unusedVariables false
set_option linter.unusedSimpArgs false
def GMConf.enc (x:GMConf):List V:=[.lit (.int .i64 x.weight),.lit (.bool x.prio),.lit (.int .i64 x.every),.lit (.int .i64 x.cap)]
theorem GMConf.enc_len (x:GMConf):(GMConf.enc x).length=4:=rfl
def GConf.enc (x:GConf):List V:=[.tr (x.masters.map GMConf.enc),.lit (.int .i64 x.quantum),.lit (.int .i64 x.maxWait),.lit (.int .i64 x.maxRetry),.lit (.int .i64 x.maxSplit),.lit (.int .i64 x.lockMost)]
def ffi (n:Nat):Nat→List (Id×Id)
 | 0=>[]
 | m+1=>((1,n),(1,n))::ffi (n+1) m
abbrev bx (n:Nat) (r:List V):Id×Blk:=((1,n),⟨true,true,true,0,[r]⟩)
abbrev rx (n t:Nat) (R:List (List V)):Id×Blk:=((1,n),⟨false,true,true,t,R⟩)
end Go.Proofs.YtlcfolgfmlgncaaDoor.Ev
namespace Go.Proofs
open Go.Shelf Go.RowKit Go.Sort Go.Lib
def Tryd.lays156_ren:Go.Shelf.Ren:=⟨fun|156=>30|165=>50|166=>51|169=>52|240=>66|241=>67|276=>76|277=>77|n=>n,fun|31=>36|9=>9|3=>3|4=>4|0=>0|20=>20|72=>69|76=>73|70=>67|37=>30|75=>72|127=>83|164=>91|5=>5|80=>75|n=>n,fun|n=>n⟩
theorem Tryd.lays156:Go.Proofs.Lays.n156 Tryd.prog Tryd.lays156_ren:={
 mixed:=by kernel_rfl
 f156:=Tryd.func30.trans (congrArg some (by kernel_rfl))
 f165:=Tryd.func50.trans (congrArg some (by kernel_rfl))
 f166:=Tryd.func51.trans (congrArg some (by kernel_rfl))
 f169:=Tryd.func52.trans (congrArg some (by kernel_rfl))
 f240:=Tryd.func66.trans (congrArg some (by kernel_rfl))
 f241:=Tryd.func67.trans (congrArg some (by kernel_rfl))
 f276:=Tryd.func76.trans (congrArg some (by kernel_rfl))
 f277:=Tryd.func77.trans (congrArg some (by kernel_rfl))
 t0:=Tryd.underlying0
 a0:=Tryd.isAgg0
 z0:=Tryd.sizeOf0
 v0:=Tryd.zeroValue0
 t3:=Tryd.underlying3
 a3:=Tryd.isAgg3
 z3:=Tryd.sizeOf3
 v3:=Tryd.zeroValue3
 t4:=Tryd.underlying4
 a4:=Tryd.isAgg4
 z4:=Tryd.sizeOf4
 v4:=Tryd.zeroValue4
 t9:=Tryd.underlying9
 a9:=Tryd.isAgg9
 z9:=Tryd.sizeOf9
 v9:=Tryd.zeroValue9
 t20:=Tryd.underlying20
 a20:=Tryd.isAgg20
 z20:=Tryd.sizeOf20
 v20:=Tryd.zeroValue20
 t31:=Tryd.underlying36
 a31:=Tryd.isAgg36
 z31:=Tryd.sizeOf36
 v31:=Tryd.zeroValue36
 t37:=Tryd.underlying30
 a37:=Tryd.isAgg30
 z37:=Tryd.sizeOf30
 v37:=Tryd.zeroValue30
 t70:=Tryd.underlying67
 a70:=Tryd.isAgg67
 z70:=Tryd.sizeOf67
 v70:=Tryd.zeroValue67
 t72:=Tryd.underlying69
 a72:=Tryd.isAgg69
 z72:=Tryd.sizeOf69
 v72:=Tryd.zeroValue69
 t75:=Tryd.underlying72
 a75:=Tryd.isAgg72
 z75:=Tryd.sizeOf72
 v75:=Tryd.zeroValue72
 t76:=Tryd.underlying73
 a76:=Tryd.isAgg73
 z76:=Tryd.sizeOf73
 v76:=Tryd.zeroValue73
 t127:=Tryd.underlying83
 a127:=Tryd.isAgg83
 z127:=Tryd.sizeOf83
 v127:=Tryd.zeroValue83
 t164:=Tryd.underlying91
 a164:=Tryd.isAgg91
 z164:=Tryd.sizeOf91
 v164:=Tryd.zeroValue91}
theorem Tryd.Builder_Extra_156:Builder.Extra Tryd.prog Tryd.lays156_ren:={
 sizeBuilder:=by kernel_rfl
 liesBuilder:=by kernel_rfl
 t5:=Tryd.underlying5
 a5:=Tryd.isAgg5
 z5:=Tryd.sizeOf5
 v5:=Tryd.zeroValue5
 infoByte:=by kernel_rfl
 cellsByte:=by kernel_rfl
 sizeByte:=by kernel_rfl
 neB5:=by decide}
theorem Tryd.strings_Join_none (a:Option Addr) (c:Nat) (sep:ByteArray) (w:World):
  Calls Tryd.prog 30 #[.slice a 0 c,.string sep] w fun e w'=>e=.returned (.string ⟨#[]⟩)∧w'=w:=Any.strings_Join_none Tryd.lays156 Tryd.Builder_Extra_156 a c sep w
theorem Tryd.strings_Join (bk o c:Nat) (xs:List ByteArray) (sep:ByteArray) (w:World) (hcells:∀(j:Nat) x,xs[j]?=some x→w.cell? ⟨bk,o+j,none⟩=some (.string x)) (hbk:bk < w.heap.size) (hN:xs.length≤140737488355328) (hcap:xs.length≤c) (hlen:(Lib.join (xs.map (·.data.toList)) sep.data.toList).length≤140737488355328):
  Calls Tryd.prog 30 #[.slice (some ⟨bk,o,none⟩) xs.length c,.string sep] w fun e w'=>e=.returned (.string ⟨(Lib.join (xs.map (·.data.toList)) sep.data.toList).toArray⟩)∧Below w.heap.size w w':=Any.strings_Join Tryd.lays156 Tryd.Builder_Extra_156 bk o c xs sep w hcells hbk hN hcap hlen
def Tryd.laysM171_ren:Go.Shelf.Ren:=⟨fun|171=>49|243=>65|246=>75|283=>89|284=>90|285=>91|286=>92|129=>99|317=>98|318=>100|319=>101|320=>102|337=>105|338=>106|n=>n,fun|3=>3|9=>9|2=>2|4=>4|171=>102|0=>0|53=>103|37=>30|5=>5|173=>106|212=>122|51=>112|20=>20|213=>123|46=>84|232=>131|233=>132|n=>n,fun|17=>5|18=>6|19=>7|n=>n⟩
theorem Tryd.laysM171:Go.Proofs.LaysM.n171 Tryd.prog Tryd.laysM171_ren:={
 mixed:=by kernel_rfl
 f129:=Tryd.func99.trans (congrArg some (by kernel_rfl))
 f171:=Tryd.func49.trans (congrArg some (by kernel_rfl))
 f243:=Tryd.func65.trans (congrArg some (by kernel_rfl))
 f246:=Tryd.func75.trans (congrArg some (by kernel_rfl))
 f283:=Tryd.func89.trans (congrArg some (by kernel_rfl))
 f284:=Tryd.func90.trans (congrArg some (by kernel_rfl))
 f285:=Tryd.func91.trans (congrArg some (by kernel_rfl))
 f286:=Tryd.func92.trans (congrArg some (by kernel_rfl))
 f317:=Tryd.func98.trans (congrArg some (by kernel_rfl))
 f318:=Tryd.func100.trans (congrArg some (by kernel_rfl))
 f319:=Tryd.func101.trans (congrArg some (by kernel_rfl))
 f320:=Tryd.func102.trans (congrArg some (by kernel_rfl))
 f337:=Tryd.func105.trans (congrArg some (by kernel_rfl))
 f338:=Tryd.func106.trans (congrArg some (by kernel_rfl))
 t0:=Tryd.underlying0
 a0:=Tryd.isAgg0
 z0:=Tryd.sizeOf0
 v0:=Tryd.zeroValue0
 t2:=Tryd.underlying2
 a2:=Tryd.isAgg2
 z2:=Tryd.sizeOf2
 v2:=Tryd.zeroValue2
 t3:=Tryd.underlying3
 a3:=Tryd.isAgg3
 z3:=Tryd.sizeOf3
 v3:=Tryd.zeroValue3
 t4:=Tryd.underlying4
 a4:=Tryd.isAgg4
 z4:=Tryd.sizeOf4
 v4:=Tryd.zeroValue4
 t5:=Tryd.underlying5
 a5:=Tryd.isAgg5
 z5:=Tryd.sizeOf5
 v5:=Tryd.zeroValue5
 t9:=Tryd.underlying9
 a9:=Tryd.isAgg9
 z9:=Tryd.sizeOf9
 v9:=Tryd.zeroValue9
 t20:=Tryd.underlying20
 a20:=Tryd.isAgg20
 z20:=Tryd.sizeOf20
 v20:=Tryd.zeroValue20
 t37:=Tryd.underlying30
 a37:=Tryd.isAgg30
 z37:=Tryd.sizeOf30
 v37:=Tryd.zeroValue30
 t46:=Tryd.underlying84
 a46:=Tryd.isAgg84
 z46:=Tryd.sizeOf84
 v46:=Tryd.zeroValue84
 t51:=Tryd.underlying112
 a51:=Tryd.isAgg112
 z51:=Tryd.sizeOf112
 v51:=Tryd.zeroValue112
 t53:=Tryd.underlying103
 a53:=Tryd.isAgg103
 z53:=Tryd.sizeOf103
 v53:=Tryd.zeroValue103
 t171:=Tryd.underlying102
 a171:=Tryd.isAgg102
 z171:=Tryd.sizeOf102
 v171:=Tryd.zeroValue102
 t173:=Tryd.underlying106
 a173:=Tryd.isAgg106
 z173:=Tryd.sizeOf106
 v173:=Tryd.zeroValue106
 t212:=Tryd.underlying122
 a212:=Tryd.isAgg122
 z212:=Tryd.sizeOf122
 v212:=Tryd.zeroValue122
 t213:=Tryd.underlying123
 a213:=Tryd.isAgg123
 z213:=Tryd.sizeOf123
 t232:=Tryd.underlying131
 a232:=Tryd.isAgg131
 z232:=Tryd.sizeOf131
 v232:=Tryd.zeroValue131
 t233:=Tryd.underlying132
 a233:=Tryd.isAgg132
 z233:=Tryd.sizeOf132
 v233:=Tryd.zeroValue132
 g17:=by kernel_rfl
 g18:=by kernel_rfl
 g19:=by kernel_rfl
 i0:=by kernel_rfl
 i2:=by kernel_rfl
 i3:=by kernel_rfl
 i4:=by kernel_rfl
 i5:=by kernel_rfl
 i9:=by kernel_rfl
 i20:=by kernel_rfl
 i37:=by kernel_rfl
 i46:=by kernel_rfl
 i51:=by kernel_rfl
 i53:=by kernel_rfl
 i171:=by kernel_rfl
 i173:=by kernel_rfl
 i212:=by kernel_rfl
 i232:=by kernel_rfl
 i233:=by kernel_rfl
 m17:=by kernel_rfl
 m18:=by kernel_rfl
 m19:=by kernel_rfl}
theorem Tryd.strconv_Itoa (n:Int) (h0:-9223372036854775808≤n) (h1:n≤9223372036854775807) (w:World) (htab:Lib.TabIs Tryd.prog w "internal/strconv.uint64pow10" .u64 Lib.pow10Tab):
  Calls Tryd.prog 49 #[.int .i64 n] w fun e w'=>e=.returned (.string ⟨(Lib.itoa n).toArray⟩)∧∃k os,w'=grow (w.drewN k) os:=Any.strconv_Itoa Tryd.laysM171 n h0 h1 w htab
def Tryd.laysC172_ren:Go.Shelf.Ren:=⟨fun|172=>63|244=>72|245=>73|247=>83|279=>84|280=>85|281=>86|282=>87|287=>95|316=>96|171=>49|205=>97|321=>103|322=>104|243=>65|246=>75|283=>89|284=>90|285=>91|286=>92|129=>99|317=>98|318=>100|319=>101|320=>102|337=>105|338=>106|n=>n,fun|9=>9|3=>3|75=>72|76=>73|4=>4|5=>5|167=>95|37=>30|0=>0|85=>96|2=>2|168=>98|53=>103|175=>115|46=>84|210=>119|127=>83|145=>129|143=>127|21=>21|171=>102|173=>106|212=>122|51=>112|20=>20|213=>123|232=>131|233=>132|80=>75|n=>n,fun|15=>3|16=>4|17=>5|18=>6|19=>7|n=>n⟩
theorem Tryd.laysC172:Go.Proofs.LaysC.n172 Tryd.prog Tryd.laysC172_ren:={
 mixed:=by kernel_rfl
 f129:=Tryd.func99.trans (congrArg some (by kernel_rfl))
 f171:=Tryd.func49.trans (congrArg some (by kernel_rfl))
 f172:=Tryd.func63.trans (congrArg some (by kernel_rfl))
 f205:=Tryd.func97.trans (congrArg some (by kernel_rfl))
 f243:=Tryd.func65.trans (congrArg some (by kernel_rfl))
 f244:=Tryd.func72.trans (congrArg some (by kernel_rfl))
 f245:=Tryd.func73.trans (congrArg some (by kernel_rfl))
 f246:=Tryd.func75.trans (congrArg some (by kernel_rfl))
 f247:=Tryd.func83.trans (congrArg some (by kernel_rfl))
 f279:=Tryd.func84.trans (congrArg some (by kernel_rfl))
 f280:=Tryd.func85.trans (congrArg some (by kernel_rfl))
 f281:=Tryd.func86.trans (congrArg some (by kernel_rfl))
 f282:=Tryd.func87.trans (congrArg some (by kernel_rfl))
 f283:=Tryd.func89.trans (congrArg some (by kernel_rfl))
 f284:=Tryd.func90.trans (congrArg some (by kernel_rfl))
 f285:=Tryd.func91.trans (congrArg some (by kernel_rfl))
 f286:=Tryd.func92.trans (congrArg some (by kernel_rfl))
 f287:=Tryd.func95.trans (congrArg some (by kernel_rfl))
 f316:=Tryd.func96.trans (congrArg some (by kernel_rfl))
 f317:=Tryd.func98.trans (congrArg some (by kernel_rfl))
 f318:=Tryd.func100.trans (congrArg some (by kernel_rfl))
 f319:=Tryd.func101.trans (congrArg some (by kernel_rfl))
 f320:=Tryd.func102.trans (congrArg some (by kernel_rfl))
 f321:=Tryd.func103.trans (congrArg some (by kernel_rfl))
 f322:=Tryd.func104.trans (congrArg some (by kernel_rfl))
 f337:=Tryd.func105.trans (congrArg some (by kernel_rfl))
 f338:=Tryd.func106.trans (congrArg some (by kernel_rfl))
 t0:=Tryd.underlying0
 a0:=Tryd.isAgg0
 z0:=Tryd.sizeOf0
 v0:=Tryd.zeroValue0
 t2:=Tryd.underlying2
 a2:=Tryd.isAgg2
 z2:=Tryd.sizeOf2
 v2:=Tryd.zeroValue2
 t3:=Tryd.underlying3
 a3:=Tryd.isAgg3
 z3:=Tryd.sizeOf3
 v3:=Tryd.zeroValue3
 t4:=Tryd.underlying4
 a4:=Tryd.isAgg4
 z4:=Tryd.sizeOf4
 v4:=Tryd.zeroValue4
 t5:=Tryd.underlying5
 a5:=Tryd.isAgg5
 z5:=Tryd.sizeOf5
 v5:=Tryd.zeroValue5
 t9:=Tryd.underlying9
 a9:=Tryd.isAgg9
 z9:=Tryd.sizeOf9
 v9:=Tryd.zeroValue9
 t20:=Tryd.underlying20
 a20:=Tryd.isAgg20
 z20:=Tryd.sizeOf20
 v20:=Tryd.zeroValue20
 t21:=Tryd.underlying21
 a21:=Tryd.isAgg21
 z21:=Tryd.sizeOf21
 v21:=Tryd.zeroValue21
 t37:=Tryd.underlying30
 a37:=Tryd.isAgg30
 z37:=Tryd.sizeOf30
 v37:=Tryd.zeroValue30
 t46:=Tryd.underlying84
 a46:=Tryd.isAgg84
 z46:=Tryd.sizeOf84
 v46:=Tryd.zeroValue84
 t51:=Tryd.underlying112
 a51:=Tryd.isAgg112
 z51:=Tryd.sizeOf112
 v51:=Tryd.zeroValue112
 t53:=Tryd.underlying103
 a53:=Tryd.isAgg103
 z53:=Tryd.sizeOf103
 v53:=Tryd.zeroValue103
 t75:=Tryd.underlying72
 a75:=Tryd.isAgg72
 z75:=Tryd.sizeOf72
 v75:=Tryd.zeroValue72
 t76:=Tryd.underlying73
 a76:=Tryd.isAgg73
 z76:=Tryd.sizeOf73
 v76:=Tryd.zeroValue73
 t85:=Tryd.underlying96
 a85:=Tryd.isAgg96
 z85:=Tryd.sizeOf96
 v85:=Tryd.zeroValue96
 t127:=Tryd.underlying83
 a127:=Tryd.isAgg83
 z127:=Tryd.sizeOf83
 v127:=Tryd.zeroValue83
 t143:=Tryd.underlying127
 a143:=Tryd.isAgg127
 z143:=Tryd.sizeOf127
 v143:=Tryd.zeroValue127
 t145:=Tryd.underlying129
 a145:=Tryd.isAgg129
 z145:=Tryd.sizeOf129
 v145:=Tryd.zeroValue129
 t167:=Tryd.underlying95
 a167:=Tryd.isAgg95
 z167:=Tryd.sizeOf95
 v167:=Tryd.zeroValue95
 t168:=Tryd.underlying98
 a168:=Tryd.isAgg98
 z168:=Tryd.sizeOf98
 v168:=Tryd.zeroValue98
 t171:=Tryd.underlying102
 a171:=Tryd.isAgg102
 z171:=Tryd.sizeOf102
 v171:=Tryd.zeroValue102
 t173:=Tryd.underlying106
 a173:=Tryd.isAgg106
 z173:=Tryd.sizeOf106
 v173:=Tryd.zeroValue106
 t175:=Tryd.underlying115
 a175:=Tryd.isAgg115
 z175:=Tryd.sizeOf115
 v175:=Tryd.zeroValue115
 t210:=Tryd.underlying119
 a210:=Tryd.isAgg119
 z210:=Tryd.sizeOf119
 v210:=Tryd.zeroValue119
 t212:=Tryd.underlying122
 a212:=Tryd.isAgg122
 z212:=Tryd.sizeOf122
 v212:=Tryd.zeroValue122
 t213:=Tryd.underlying123
 a213:=Tryd.isAgg123
 z213:=Tryd.sizeOf123
 t232:=Tryd.underlying131
 a232:=Tryd.isAgg131
 z232:=Tryd.sizeOf131
 v232:=Tryd.zeroValue131
 t233:=Tryd.underlying132
 a233:=Tryd.isAgg132
 z233:=Tryd.sizeOf132
 v233:=Tryd.zeroValue132
 g15:=by kernel_rfl
 g16:=by kernel_rfl
 g17:=by kernel_rfl
 g18:=by kernel_rfl
 g19:=by kernel_rfl
 t80:=Tryd.underlying75
 a80:=Tryd.isAgg75
 z80:=Tryd.sizeOf75
 v80:=Tryd.zeroValue75
 i0:=by kernel_rfl
 i2:=by kernel_rfl
 i3:=by kernel_rfl
 i4:=by kernel_rfl
 i5:=by kernel_rfl
 i9:=by kernel_rfl
 i20:=by kernel_rfl
 i21:=by kernel_rfl
 i37:=by kernel_rfl
 i46:=by kernel_rfl
 i51:=by kernel_rfl
 i53:=by kernel_rfl
 i75:=by kernel_rfl
 i76:=by kernel_rfl
 i80:=by kernel_rfl
 i85:=by kernel_rfl
 i127:=by kernel_rfl
 i143:=by kernel_rfl
 i145:=by kernel_rfl
 i167:=by kernel_rfl
 i168:=by kernel_rfl
 i171:=by kernel_rfl
 i173:=by kernel_rfl
 i175:=by kernel_rfl
 i210:=by kernel_rfl
 i212:=by kernel_rfl
 i232:=by kernel_rfl
 i233:=by kernel_rfl
 m15:=by kernel_rfl
 m16:=by kernel_rfl
 m17:=by kernel_rfl
 m18:=by kernel_rfl
 m19:=by kernel_rfl
 c0:=by kernel_rfl
 c2:=by kernel_rfl
 c3:=by kernel_rfl
 c4:=by kernel_rfl
 c5:=by kernel_rfl
 c9:=by kernel_rfl
 c20:=by kernel_rfl
 c21:=by kernel_rfl
 c37:=by kernel_rfl
 c46:=by kernel_rfl
 c51:=by kernel_rfl
 c53:=by kernel_rfl
 c75:=by kernel_rfl
 c76:=by kernel_rfl
 c80:=by kernel_rfl
 c85:=by kernel_rfl
 c127:=by kernel_rfl
 c143:=by kernel_rfl
 c145:=by kernel_rfl
 c167:=by kernel_rfl
 c168:=by kernel_rfl
 c171:=by kernel_rfl
 c173:=by kernel_rfl
 c175:=by kernel_rfl
 c210:=by kernel_rfl
 c212:=by kernel_rfl
 c213:=by kernel_rfl
 c232:=by kernel_rfl
 c233:=by kernel_rfl}
theorem Tryd.strconv_Atoi_ok (s:ByteArray) (hmax:s.size≤9223372036854775806) (v:Int) (h:Lib.atoiAll s.data.toList=.ok v) (w:World):
  Calls Tryd.prog 63 #[.string s] w fun e w'=>e=.returned (.tuple #[.int .i64 v,.nilIface])∧(w'=w∨∃t,w'=Lib.bytesWorld w 5 t):=Any.strconv_Atoi_ok Tryd.laysC172 s hmax v h w
theorem Tryd.strconv_Atoi_syntax (s:ByteArray) (hlim:s.size≤281474976710656) (h:Lib.atoiAll s.data.toList=Go.Lib.NumEnd.syntax) (ev:Value) (w:World) (hv:w.cell? ⟨3,0,none⟩=some ev) (hev:ev=.nilIface∨∃te pe,ev=.iface te pe):
  Calls Tryd.prog 63 #[.string s] w fun e w'=>∃N,e=.returned (.tuple #[.int .i64 (0),.iface 98 (.pointer (some ⟨N,0,none⟩))])∧w.heap.size≤N∧w'.heap[N]?=some (.cells #[.string ⟨#[65,116,111,105]⟩,.string s,ev] 119 (0,0))∧Below w.heap.size w w':=Any.strconv_Atoi_syntax Tryd.laysC172 s hlim h ev w hv hev
theorem Tryd.strconv_Atoi_range (s:ByteArray) (hlim:s.size≤281474976710656) (h:Lib.atoiAll s.data.toList=.range) (ev:Value) (w:World) (hv:w.cell? ⟨4,0,none⟩=some ev) (hev:ev=.nilIface∨∃te pe,ev=.iface te pe):
  Calls Tryd.prog 63 #[.string s] w fun e w'=>∃N,e=.returned (.tuple #[.int .i64 (Lib.atoiSat s.data.toList),.iface 98 (.pointer (some ⟨N,0,none⟩))])∧w.heap.size≤N∧w'.heap[N]?=some (.cells #[.string ⟨#[65,116,111,105]⟩,.string s,ev] 119 (0,0))∧Below w.heap.size w w':=Any.strconv_Atoi_range Tryd.laysC172 s hlim h ev w hv hev
def Tryd.lays101_ren:Go.Shelf.Ren:=⟨fun|101=>64|208=>74|206=>88|n=>n,fun|9=>9|4=>4|3=>3|n=>n,fun|n=>n⟩
theorem Tryd.lays101:Go.Proofs.Lays.n101 Tryd.prog Tryd.lays101_ren:={
 mixed:=by kernel_rfl
 f101:=Tryd.func64.trans (congrArg some (by kernel_rfl))
 f206:=Tryd.func88.trans (congrArg some (by kernel_rfl))
 f208:=Tryd.func74.trans (congrArg some (by kernel_rfl))
 t3:=Tryd.underlying3
 a3:=Tryd.isAgg3
 z3:=Tryd.sizeOf3
 v3:=Tryd.zeroValue3
 t4:=Tryd.underlying4
 a4:=Tryd.isAgg4
 z4:=Tryd.sizeOf4
 v4:=Tryd.zeroValue4
 t9:=Tryd.underlying9
 a9:=Tryd.isAgg9
 z9:=Tryd.sizeOf9
 v9:=Tryd.zeroValue9}
theorem Tryd.strings_TrimPrefix (s p:ByteArray) (w:World):
  Calls Tryd.prog 64 #[.string s,.string p] w fun e w'=>e=.returned (.string ⟨(Lib.trimPrefix s.data.toList p.data.toList).toArray⟩)∧w'=w:=Any.strings_TrimPrefix Tryd.lays101 s p w
def Tryd.laysM146_ren:Go.Shelf.Ren:=⟨fun|146=>21|221=>45|268=>60|138=>61|143=>62|195=>68|197=>69|218=>70|219=>71|260=>78|217=>79|225=>80|224=>81|267=>82|266=>93|314=>94|n=>n,fun|9=>9|31=>36|3=>3|4=>4|0=>0|105=>86|21=>21|5=>5|46=>84|119=>108|139=>111|138=>110|146=>113|51=>112|n=>n,fun|1=>0|3=>1|4=>2|n=>n⟩
theorem Tryd.laysM146:Go.Proofs.LaysM.n146 Tryd.prog Tryd.laysM146_ren:={
 mixed:=by kernel_rfl
 f138:=Tryd.func61.trans (congrArg some (by kernel_rfl))
 f143:=Tryd.func62.trans (congrArg some (by kernel_rfl))
 f146:=Tryd.func21.trans (congrArg some (by kernel_rfl))
 f195:=Tryd.func68.trans (congrArg some (by kernel_rfl))
 f197:=Tryd.func69.trans (congrArg some (by kernel_rfl))
 f217:=Tryd.func79.trans (congrArg some (by kernel_rfl))
 f218:=Tryd.func70.trans (congrArg some (by kernel_rfl))
 f219:=Tryd.func71.trans (congrArg some (by kernel_rfl))
 f221:=Tryd.func45.trans (congrArg some (by kernel_rfl))
 f224:=Tryd.func81.trans (congrArg some (by kernel_rfl))
 f225:=Tryd.func80.trans (congrArg some (by kernel_rfl))
 f260:=Tryd.func78.trans (congrArg some (by kernel_rfl))
 f266:=Tryd.func93.trans (congrArg some (by kernel_rfl))
 f267:=Tryd.func82.trans (congrArg some (by kernel_rfl))
 f268:=Tryd.func60.trans (congrArg some (by kernel_rfl))
 f314:=Tryd.func94.trans (congrArg some (by kernel_rfl))
 t0:=Tryd.underlying0
 a0:=Tryd.isAgg0
 z0:=Tryd.sizeOf0
 v0:=Tryd.zeroValue0
 t3:=Tryd.underlying3
 a3:=Tryd.isAgg3
 z3:=Tryd.sizeOf3
 v3:=Tryd.zeroValue3
 t4:=Tryd.underlying4
 a4:=Tryd.isAgg4
 z4:=Tryd.sizeOf4
 v4:=Tryd.zeroValue4
 t5:=Tryd.underlying5
 a5:=Tryd.isAgg5
 z5:=Tryd.sizeOf5
 v5:=Tryd.zeroValue5
 t9:=Tryd.underlying9
 a9:=Tryd.isAgg9
 z9:=Tryd.sizeOf9
 v9:=Tryd.zeroValue9
 t21:=Tryd.underlying21
 a21:=Tryd.isAgg21
 z21:=Tryd.sizeOf21
 v21:=Tryd.zeroValue21
 t31:=Tryd.underlying36
 a31:=Tryd.isAgg36
 z31:=Tryd.sizeOf36
 v31:=Tryd.zeroValue36
 t46:=Tryd.underlying84
 a46:=Tryd.isAgg84
 z46:=Tryd.sizeOf84
 v46:=Tryd.zeroValue84
 t51:=Tryd.underlying112
 a51:=Tryd.isAgg112
 z51:=Tryd.sizeOf112
 v51:=Tryd.zeroValue112
 t105:=Tryd.underlying86
 a105:=Tryd.isAgg86
 z105:=Tryd.sizeOf86
 v105:=Tryd.zeroValue86
 t119:=Tryd.underlying108
 a119:=Tryd.isAgg108
 z119:=Tryd.sizeOf108
 t138:=Tryd.underlying110
 a138:=Tryd.isAgg110
 z138:=Tryd.sizeOf110
 v138:=Tryd.zeroValue110
 t139:=Tryd.underlying111
 a139:=Tryd.isAgg111
 z139:=Tryd.sizeOf111
 v139:=Tryd.zeroValue111
 t146:=Tryd.underlying113
 a146:=Tryd.isAgg113
 z146:=Tryd.sizeOf113
 v146:=Tryd.zeroValue113
 g1:=by kernel_rfl
 g3:=by kernel_rfl
 g4:=by kernel_rfl
 i0:=by kernel_rfl
 i3:=by kernel_rfl
 i4:=by kernel_rfl
 i5:=by kernel_rfl
 i9:=by kernel_rfl
 i21:=by kernel_rfl
 i31:=by kernel_rfl
 i46:=by kernel_rfl
 i51:=by kernel_rfl
 i105:=by kernel_rfl
 i138:=by kernel_rfl
 i139:=by kernel_rfl
 i146:=by kernel_rfl
 m1:=by kernel_rfl
 s1_3:=fun w h=>Go.Proofs.cell_of_shapedOpen_int (zero:=#[.int .i64 0]) (t:=3) h (of_decide_eq_true (by kernel_rfl)) (by kernel_rfl) rfl (by kernel_rfl) (by kernel_rfl) Tryd.underlying3
 m3:=by kernel_rfl
 m4:=by kernel_rfl}
end Go.Proofs
namespace Go.Proofs.YtlcfolgfmlgncaaDoor.Ev
open Go Go.Proofs
set_option linter.unusedVariables false
set_option linter.unusedSimpArgs false
def Mo:Hints:=⟨fun f=>(List.lookup f [(8,[.iov,.rd]),(24,[.iov,.rd]),(54,[.io]),(32,[.io]),(53,[.io]),(34,[.io,.mv]),(48,[.io,.mv]),(55,[.io]),(33,[.io]),(31,[.io]),(26,[.io])]).getD [],fun _=>false⟩
set_option linter.unusedSectionVars false
variable [Anchor]
abbrev Y:=FuncId×List V×V×List V
abbrev RF (fn:Func) (y:Y):Ex→St→Prop:=RetC Tryd.prog Mo y.1 fn y.2.1 y.2.2
theorem Zky {P:Program} (hm:P.follows .mixedOrders=true) (h:P.funcs.toList.all (fun fn=>(match fn.body with|some c=>Yj fn.ntmps c|none=>true)&&!(fn.name == "runtime.NumGoroutine"))=true):FuncsOk P:=by
 rw[List.all_eq_true] at h
 refine⟨hm,fun f fn c hf hc=>?_,fun f fn hf=>?_⟩
 ·have:=h fn (Array.mem_toList_iff.2 (Array.mem_of_getElem? hf))
  rw[hc] at this
  simp only[Bool.and_eq_true] at this
  exact this.1
 ·have:=h fn (Array.mem_toList_iff.2 (Array.mem_of_getElem? hf))
  simp only[Bool.and_eq_true,Bool.not_eq_true'] at this
  exact this.2
theorem fOk:FuncsOk Tryd.prog:=Zky (by kernel_rfl) (by kernel_rfl)
theorem bnK {α β:Type} {x:Option α} {f:α→Option β} {b:β} {G:Prop} (h:x.bind f=some b) (k:∀a,x=some a→f a=some b→G):G:=by
 obtain⟨a,h1,h2⟩:=Zmy h;exact k a h1 h2
theorem itK {β:Type} {t:Bool} {x y:Option β} {b:β} {G:Prop} (h:(if t=true then x else y)=some b) (k1:t=true→x=some b→G) (k2:t=false→y=some b→G):G:=by
 rcases Zn6 h with⟨h1,h2⟩|⟨h1,h2⟩
 ·exact k1 h1 h2
 ·exact k2 h1 h2
theorem noK {β:Type} {b:β} {G:Prop} (h:none=some b):G:=by cases h
theorem rtK {α:Type} {F:α→Y} {fn:Func} {a r:α} {p:Prop} {stk:List It} {s:St} {q:List O} (h:some a=some r) (hp:Scr q p) (e:told (runK Tryd.prog Mo (F a).1 fn (F a).2.1 100000 stk s q)=some (p,(F a).2.2):=by kernel_rfl):SX Tryd.prog (RF fn (F r)) stk .normal s:=by
 cases h;exact Zov fOk 100000 q hp e
theorem cutX {y:Y} {fn:Func} {stk k2:List It} {s:St} {p:Prop} {l:List (Nat×V)} {h:List (Id×Blk)} {ep:Nat} {q:List O} (f:List (Id×Id)) (n:Nat) (hp:Scr q p) (hn:SX Tryd.prog (RF fn y) k2 .normal (mkS l h ep))
  (e:told (cutK Tryd.prog Mo f l h n stk s q)=some (p,(k2,renL f l h)):=by kernel_rfl) (hb:(isC k2&&cutB f l h ep)=true:=by kernel_rfl):SX Tryd.prog (RF fn y) stk .normal s:=Zo3 (M:=Mo) fOk f n q hp hn e hb
theorem Z0 {α:Type} {F:α→Y} {fn:Func} {r:α} (hfn:Tryd.prog.funcs[(F r).1]?=some fn) (h:SX Tryd.prog (RF fn (F r)) [.c (Zh7 fn)] .normal (entS Mo (F r).1 (F r).2.1)) (hc:fn.body=some (Zh7 fn):=by kernel_rfl) (hs:(St.enters ⟨fun _=>.undef,fun _=>none,0⟩ 0 (Mo.modes (F r).1) (F r).2.1).isSome=true:=by kernel_rfl):
  Fine Tryd.prog Mo (F r):=Znu fOk hfn hc hs h
abbrev CS (y:Y) (fn:Func) (p:List Nat) (l:List (Nat×V)) (h:List (Id×Blk)):Prop:=SX Tryd.prog (RF fn y) (at_ p (Zh7 fn) []) .normal (mkS l h 1)
end Go.Proofs.YtlcfolgfmlgncaaDoor.Ev
namespace Go.Proofs.YtlcfolgfmlgncaaDoor.Ev
open Go Go.Proofs Go.RowKit Go.Sort
set_option linter.unusedVariables false
set_option linter.unusedSimpArgs false
class ExtOk [A:Anchor]:Prop where
 maxLen:∃m,A.w.cell? ⟨0,0,none⟩=some (.int .i64 m)
 errS:∃ev,A.w.cell? ⟨3,0,none⟩=some ev∧(ev=.nilIface∨∃te pe,ev=.iface te pe)
 errR:∃ev,A.w.cell? ⟨4,0,none⟩=some ev∧(ev=.nilIface∨∃te pe,ev=.iface te pe)
 tab:Lib.TabIs Tryd.prog A.w "internal/strconv.uint64pow10" .u64 Lib.pow10Tab
theorem Zhv {P:Program} [A:Anchor] {w:World} {T:Nat→Prop} (hA:Anch w T) {name:String} {cs:Array Value} (h:A.w.var? P name=some cs):w.var? P name=some cs:=by
 unfold World.var? at h ⊢
 obtain⟨g,hg,h⟩:=Option.bind_eq_some_iff.1 h
 rw[hg,Option.bind_some]
 have hlt:g < A.w.heap.size:=by
  rcases Nat.lt_or_ge g A.w.heap.size with h'|h'
  ·exact h'
  ·rw[Array.getElem?_eq_none h'] at h;cases h
 rw[hA.2.1 g hlt];exact h
theorem Zc7 [A:Anchor] {w:World} {T:Nat→Prop} (hA:Anch w T) {g o:Nat} {v:Value} (h:A.w.cell? ⟨g,o,none⟩=some v):w.cell? ⟨g,o,none⟩=some v:=by
 rw[Zfv (hA.2.1 g (Zdq h))];exact h
theorem us1 {us:List Value} (h:us.length=1):∃u,us=[u]:=by
 match us,h with
 | [u],_=>exact⟨u,rfl⟩
theorem us2 {us:List Value} (h:us.length=2):∃u v,us=[u,v]:=by
 match us,h with
 | [u,v],_=>exact⟨u,v,rfl⟩
abbrev Ze3 (x0 x1:ByteArray) (r:List ByteArray):Y:=(21,[.lit (.string x0),.lit (.string x1)],.tr (r.map encS),[.undef,.undef])
theorem Ki [Anchor] [ExtOk] {x0 x1:ByteArray} {r:List ByteArray} (h:Xd x0 x1=some r):Fine Tryd.prog Mo (Ze3 x0 x1 r):=by
 unfold Xd at h
 split at h
 case isFalse=>cases h
 rename_i h0
 injection h with h;subst h
 obtain⟨m,hm⟩:=ExtOk.maxLen
 have hlen:(Lib.splitB x1 0 (Lib.countB x0 x1) x0).length=Lib.countB x0 x1+1:=Lib.splitB_all x1 h0.2 0 _ x0 rfl
 refine Zn7 (e:=9) (xs:=[.lit (.string x0),.lit (.string x1)]) ⟨_,Tryd.func21,by kernel_rfl⟩ (by kernel_rfl) (by have:=Lib.countB_le x1 h0.2 x0.size x0 (Nat.le_refl _);rw[hlen];unfold maxLen;omega) fun w us ok hA hok hl he=>?_
 obtain⟨u,v,rfl⟩:=us2 hl
 obtain rfl:=Zbi (he 0 u _ rfl rfl (fun _=>none))
 obtain rfl:=Zbi (he 1 v _ rfl rfl (fun _=>none))
 rw[hlen]
 exact Any.strings_Split {Tryd.laysM146 with} Tryd.laysM146.i9 x0 x1 m w h0.1 (Zc7 hA hm) h0.2
theorem Zn0 (n:Int) (h0:-9223372036854775808≤n) (h1:n≤9223372036854775807) (w:World) (htab:Lib.TabIs Tryd.prog w "internal/strconv.uint64pow10" .u64 Lib.pow10Tab):
  Calls Tryd.prog 29 #[.int .i64 n] w fun e w'=>e=.returned (.string ⟨(Lib.itoa n).toArray⟩)∧∃k os,w'=grow (w.drewN k) os:=by
 have c:=Tryd.strconv_Itoa n h0 h1 w htab
 go_enter Tryd.func29,Tryd.ntmps29
 go_wp2_with (go_at_call 49;go_fit c;rintro e w' ⟨rfl,k,os,rfl⟩)
 go_ret
 exact⟨rfl,_,_,rfl⟩
def numV (s:ByteArray) (d v:Int):Int×Bool:=if Lib.itoa v=s.data.toList∧((Lib.trimPrefix s.data.toList [45]).length:Int)≤d then (v,true) else (0,false)
theorem Zkt (s:ByteArray) (d:Int) (w:World) (hlim:s.size≤281474976710656) (h:Lib.atoiAll s.data.toList=Lib.NumEnd.syntax) (ev:Value) (hv:w.cell? ⟨3,0,none⟩=some ev) (hev:ev=.nilIface∨∃te pe,ev=.iface te pe):
  Calls Tryd.prog 46 #[.string s,.int .i64 d] w fun e w'=>e=.returned (.tuple #[.int .i64 0,.bool false])∧Below w.heap.size w w':=by
 have c:=Tryd.strconv_Atoi_syntax s hlim h ev w hv hev
 go_enter Tryd.func46,Tryd.ntmps46
 go_wp2_with (go_at_call 63;go_fit c;rintro e w1 ⟨N,rfl,hN,hc,hb⟩)
 go_ret2
 exact⟨rfl,hb⟩
theorem Zhw (s:ByteArray) (d:Int) (w:World) (hlim:s.size≤281474976710656) (h:Lib.atoiAll s.data.toList=.range) (ev:Value) (hv:w.cell? ⟨4,0,none⟩=some ev) (hev:ev=.nilIface∨∃te pe,ev=.iface te pe):
  Calls Tryd.prog 46 #[.string s,.int .i64 d] w fun e w'=>e=.returned (.tuple #[.int .i64 0,.bool false])∧Below w.heap.size w w':=by
 have c:=Tryd.strconv_Atoi_range s hlim h ev w hv hev
 go_enter Tryd.func46,Tryd.ntmps46
 go_wp2_with (go_at_call 63;go_fit c;rintro e w1 ⟨N,rfl,hN,hc,hb⟩)
 go_ret2
 exact⟨rfl,hb⟩
theorem Zmq (s:ByteArray) (d:Int) (w:World) (v:Int) (hmax:s.size≤281474976710656) (h:Lib.atoiAll s.data.toList=.ok v) (h0:-9223372036854775808≤v) (h1:v≤9223372036854775807) (htab:∀w',Below w.heap.size w w'→Lib.TabIs Tryd.prog w' "internal/strconv.uint64pow10" .u64 Lib.pow10Tab):
  Calls Tryd.prog 46 #[.string s,.int .i64 d] w fun e w'=>e=.returned (.tuple #[.int .i64 (numV s d v).1,.bool (numV s d v).2])∧Below w.heap.size w w':=by
 have c:=Tryd.strconv_Atoi_ok s (by omega) v h w
 go_enter Tryd.func46,Tryd.ntmps46
 go_wp2_with (go_at_call 63;go_fit c;rintro e w1 ⟨rfl,hw⟩)
 have hb1:RowKit.Below w.heap.size w w1:=by
  rcases hw with rfl|⟨t,rfl⟩
  ·exact Below.refl _ _
  ·exact Lib.bytesWorld_below _ _ _
 have cD:=Zn0 v h0 h1 w1 (htab w1 hb1)
 clear hw
 go_wp2_with (first|(go_at_call 29;go_fit cD;rintro e w2 ⟨rfl,k,os,rfl⟩)|(go_at_call 64;refine (Tryd.strings_TrimPrefix s ⟨#[45]⟩ _).mono ?_;rintro e w3 ⟨rfl,rfl⟩))
 all_goals go_ret2
 all_goals (
  have hg:RowKit.Below w.heap.size w (grow (w1.drewN k) os):=by
   refine⟨hb1.os,hb1.tape,hb1.output,?_,fun j hj=>?_⟩
   ·show w.heap.size≤(w1.heap++os).size
    have:=hb1.size
    rw[Array.size_append];omega
   ·show (w1.heap++os)[j]?=w.heap[j]?
    have:=hb1.size
    rw[Array.getElem?_append_left (by omega)]
    exact hb1.block j hj
  refine⟨?_,hg⟩)
 ·rename_i e1 e2
  have:numV s d v=(0,false):=by unfold numV;rw[if_neg (by omega)]
  rw[this];rfl
 ·rename_i e1 e2
  have:numV s d v=(v,true):=by unfold numV;rw[if_pos ⟨by rw[e1,Lib.toList_data],e2⟩]
  rw[this];rfl
 ·rename_i e1
  have:numV s d v=(0,false):=by unfold numV;rw[if_neg (fun h=>e1 (by rw[Lib.toList_data];exact h.1))]
  rw[this];rfl
abbrev Ze8 (x0:ByteArray) (x1:Int) (r:Int×Bool):Y:=(46,[.lit (.string x0),.lit (.int .i64 x1)],.tup [.lit (.int .i64 r.1),.lit (.bool r.2)],[.undef,.undef])
theorem Zot {P:Program} {u v:Value} (hu:Yr u=true) (hv:Yr v=true) (w':World) (ok top:Nat→Prop):ResR P w' ok top (.tuple #[u,v]) (.tup [.lit u,.lit v]) []:=
 ⟨#[u,v],rfl,.cons (f1:=[]) (f2:=[]) (show Giv P w' ok top u (.lit u) [] from .lit hu) (.cons (f1:=[]) (f2:=[]) (show Giv P w' ok top v (.lit v) [] from .lit hv) .nil)⟩
theorem Ze5 {l:List UInt8} {v:Int} (h:Lib.atoiAll l=.ok v):-9223372036854775808≤v∧v≤9223372036854775807:=by
 unfold Lib.atoiAll at h
 split at h
 ·cases h
 ·simp only at h
  split at h
  ·cases h
  ·cases h
  ·rename_i u hu
   split at h
   ·cases h
   ·rename_i h1
    split at h
    ·cases h
    ·rename_i h2
     injection h with h
     split at h
     ·rename_i h3
      have:u≤9223372036854775808:=Nat.le_of_not_lt fun hh=>h2 ⟨h3,hh⟩
      omega
     ·rename_i h3
      have:u < 9223372036854775808:=Nat.lt_of_not_le fun hh=>h1 ⟨h3,hh⟩
      omega
theorem Zel [Anchor] [ExtOk] {x0:ByteArray} {x1:Int} {r:Int×Bool} (h:Wj x0 x1=some r):Fine Tryd.prog Mo (Ze8 x0 x1 r):=by
 have key:∀(q:Int×Bool),(∀(w:World),Anch w (fun _=>False)→Calls Tryd.prog 46 #[.string x0,.int .i64 x1] w fun e w'=>e=.returned (.tuple #[.int .i64 q.1,.bool q.2])∧RowKit.Below w.heap.size w w')→Fine Tryd.prog Mo (Ze8 x0 x1 q):=fun q hq=>by
  refine Zfp (xs:=[.lit (.string x0),.lit (.int .i64 x1)]) (v:=.tuple #[.int .i64 q.1,.bool q.2]) ⟨_,Tryd.func46,by kernel_rfl⟩ (by kernel_rfl) (Zot rfl rfl) fun w us ok hA hok hl he=>?_
  obtain⟨u,v,rfl⟩:=us2 hl
  obtain rfl:=Zbi (he 0 u _ rfl rfl (fun _=>none))
  obtain rfl:=Zbi (he 1 v _ rfl rfl (fun _=>none))
  exact hq w hA
 unfold Wj at h
 split at h
 case isFalse=>cases h
 rename_i h0
 match hq:Lib.atoiAll x0.data.toList with
 | .ok v=>
  rw[hq] at h
  have hr:r=numV x0 x1 v:=by
   unfold numV
   simp only at h
   split at h<;>rename_i hc<;>injection h with h
   ·rw[if_pos hc,←h]
   ·rw[if_neg hc,←h]
  rw[hr]
  refine key _ fun w hA=>Zmq x0 x1 w v h0 hq (Ze5 hq).1 (Ze5 hq).2 fun w' hb=>Zhv (T:=fun _=>False) ⟨Nat.le_trans hA.1 hb.size,fun k hk=>by rw[hb.block k (Nat.lt_of_lt_of_le hk hA.1)];exact hA.2.1 k hk,fun g hg=>hg.elim⟩ ExtOk.tab
 | Lib.NumEnd.syntax=>
  rw[hq] at h
  injection h with h
  obtain⟨ev,he,hev⟩:=ExtOk.errS
  rw[←h]
  exact key _ fun w hA=>Zkt x0 x1 w h0 hq ev (Zc7 hA he) hev
 | .range=>
  rw[hq] at h
  injection h with h
  obtain⟨ev,he,hev⟩:=ExtOk.errR
  rw[←h]
  exact key _ fun w hA=>Zhw x0 x1 w h0 hq ev (Zc7 hA he) hev
abbrev Zf7 (x0:Int) (r:ByteArray):Y:=(49,[.lit (.int .i64 x0)],.lit (.string r),[.undef])
theorem Zfw [Anchor] [ExtOk] {x0:Int} {r:ByteArray} (h:Ql x0=some r):Fine Tryd.prog Mo (Zf7 x0 r):=by
 unfold Ql at h
 split at h
 case isFalse=>cases h
 rename_i h0
 injection h with h;subst h
 refine Zfp (xs:=[.lit (.int .i64 x0)]) ⟨_,Tryd.func49,by kernel_rfl⟩ (by kernel_rfl) (Zkf rfl) fun w us ok hA hok hl he=>?_
 obtain⟨u,rfl⟩:=us1 hl
 obtain rfl:=Zbi (he 0 u _ rfl rfl (fun _=>none))
 refine (Tryd.strconv_Itoa x0 h0.1 h0.2 w (Zhv hA ExtOk.tab)).mono fun e w' ⟨he,k,os,hw⟩=>⟨he,?_⟩
 subst hw
 refine⟨rfl,rfl,rfl,?_,fun j hj=>?_⟩
 ·show w.heap.size≤(w.heap++os).size
  rw[Array.size_append];omega
 ·show (w.heap++os)[j]?=w.heap[j]?
  rw[Array.getElem?_append_left hj]
abbrev Zfy (x0:List ByteArray) (x1:ByteArray) (r:ByteArray):Y:=(30,[.tr (x0.map encS),.lit (.string x1)],.lit (.string r),[.undef,.undef])
theorem Zbn [Anchor] [ExtOk] {x0:List ByteArray} {x1:ByteArray} {r:ByteArray} (h:Xn x0 x1=some r):Fine Tryd.prog Mo (Zfy x0 x1 r):=by
 unfold Xn at h
 split at h
 case isFalse=>cases h
 rename_i h0
 injection h with h;subst h
 refine Zfp (xs:=[.tr (x0.map encS),.lit (.string x1)]) ⟨_,Tryd.func30,by kernel_rfl⟩ (by kernel_rfl) (Zkf rfl) fun w us ok hA hok hl he=>?_
 obtain⟨u,v,rfl⟩:=us2 hl
 obtain rfl:=Zbi (he 1 v _ rfl rfl (fun _=>none))
 rcases Zpd (he 0 u _ rfl rfl (fun _=>none)) with⟨A,c,rfl,rfl⟩|⟨g,o,c,rfl,hg,hc,hcells⟩
 ·refine (Tryd.strings_Join_none A c x1 w).mono fun e w' ⟨he,hw⟩=>⟨he,?_⟩
  subst hw;exact RowKit.Below.refl _ _
 ·exact Tryd.strings_Join g o c x0 x1 w hcells (hok g hg) h0.1 hc h0.2
end Go.Proofs.YtlcfolgfmlgncaaDoor.Ev
