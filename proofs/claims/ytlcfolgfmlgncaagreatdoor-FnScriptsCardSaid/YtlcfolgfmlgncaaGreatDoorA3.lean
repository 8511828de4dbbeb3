/- A part of the proof of FnScripts: see the text YtlcfolgfmlgncaaGreatDoorLawFnScripts for what is proved and its conditions. Conditions here: those in each line. -/
import Derived.Test.YtlcfolgfmlgncaaGreatDoorA2
import Derived.Deep.DeepFit
import Derived.KernelRfl
import Derived.Lib.AtoiAll
import Derived.Lib.ItoaNum
import Derived.Lib.Join
import Derived.Lib.Split
import Derived.Lib.Strings
import Derived.Shelf.LaysC
import Derived.Shelf.LaysM
import Derived.Shelf.Strconv.AtoiAll
import Derived.Shelf.Strconv.Itoa3
import Derived.Shelf.Strings.OnBuilder
import Derived.Shelf.Strings.Prefix
import Derived.Shelf.Strings.SplitShaped
import Derived.Test.YtlcfolgfmlgncaaGreatDoorProg
import Derived.WalkKit
import GoSem.ClaimData
namespace Go.Proofs.YtlcfolgfmlgncaaGreatDoor.Ev
open Go Go.RowKit KM
set_option linter.unusedVariables false
set_option linter.unusedSimpArgs false
set_option linter.unusedSectionVars false
variable [Anchor]
section
variable {P:Program} {M:Hints}
def Zlc (ts:List (Option TypeId)) (x:V) (s:St):KM (V×St):=
 match x with
 | .agg cs=>bnd (Zb6 ts cs s) fun y=>ret (.agg y.1,y.2)
 | .ptr id 0 0=>bnd (Zer s ts id) fun y=>ret (.obx y.1,y.2)
 | x=>Zdw s (ts.headD none) x
theorem Zs7 {s:St} {ts:List (Option TypeId)} {x:V}:KS (Zlc ts x s) (s.liftOne ts x):=by
 unfold Zlc
 split
 ·exact Yi Zd0
 ·exact Yi Zge
 ·rename_i _ h1 h2
  have:s.liftOne ts x=s.giveCell (ts.headD none) x:=by
   unfold St.liftOne
   split<;>simp_all
  rw[this];exact Ze2
def Zlb (P:Program):List TypeId→List V→(s:St)→KM (List V×St)
 | _,[],s=>ret ([],s)
 | ts,x::r,s=>bnd (Zlc (Zgq P (ts.headD 0)) x s) fun y=>bnd (Zlb P ts.tail r y.2) fun z=>ret (y.1::z.1,z.2)
theorem Zrx:∀{xs:List V} {s:St} {ts:List TypeId},KS (Zlb P ts xs s) (s.liftAll P ts xs):=by
 intro xs
 induction xs with
 | nil=>intro s ts;exact Yp
 | cons x xs ih=>intro s ts;exact Ku Zs7 fun y=>Yi ih
def J8 (p:Nat):(k:Nat)→List V→(s:St)→KM (List V×St)
 | _,[],s=>ret ([],s)
 | k,x::r,s=>match x with
  | .own e rows=>bnd (Zg5 s (0,64*p+k) 0 rows.length) fun er=>if er.1=e then bnd (J8 p (k+1) r (s.kill (0,64*p+k))) fun z=>ret (.own er.1 er.2::z.1,z.2) else fail
  | _=>bnd (J8 p (k+1) r s) fun z=>ret (.undef::z.1,z.2)
theorem Zij {p:Nat}:∀{xs:List V} {k:Nat} {s:St},KS (J8 p k xs s) (s.outCells p k xs):=by
 intro xs
 induction xs with
 | nil=>intro k s;exact Yp
 | cons x xs ih=>
  intro k s
  cases x with
  | own e rows=>
   simp only[J8,St.outCells]
   refine Za Zfl (fun er he=>?_)
   rw[he,Option.bind_some]
   refine Yg (fun hx=>?_) (fun _=>Zb)
   rw[if_pos hx]
   exact Yi ih
  | _=>
   simp only[J8,St.outCells]
   exact Yi ih
def outK (p:Nat) (ts:List (Option TypeId)) (m:Mode) (x:V) (s:St):KM (V×St):=
 match m with
 | .rd|.mv=>ret (.undef,s)
 | .io=>match x with
  | .agg cs=>bnd (Zer s ts (0,64*p+63)) fun y=>if y.1.length=cs.length then ret (.agg y.1,y.2) else fail
  | _=>fail
 | .iov=>match x with
  | .agg cs=>bnd (J8 p 0 cs s) fun y=>ret (.agg y.1,y.2)
  | x=>bnd (J8 p 0 [x] s) fun y=>bnd (opt y.1.head?) fun v=>ret (v,y.2)
theorem Zyo {s:St} {p:Nat} {ts:List (Option TypeId)} {m:Mode} {x:V}:KS (outK p ts m x s) (s.out p ts m x):=by
 cases m
 ·exact Yp
 ·cases x with
  | agg cs=>
   simp only[outK,St.out]
   refine Za Zge (fun y hy=>?_)
   rw[hy]
   simp only[Option.bind_some]
   refine Yg (fun hx=>?_) (fun _=>Zb)
   rw[if_pos hx]
   exact Zg rfl
  | _=>exact Zb
 ·exact Yp
 ·cases x with
  | agg cs=>exact Yi Zij
  | _=>simp only[outK,St.out];exact Ku Zij fun y=>Yi Zdf
def Zup (P:Program):(p:Nat)→List TypeId→List Mode→List V→(s:St)→KM (List V)
 | _,_,_,[],s=>ret []
 | p,ts,ms,x::r,s=>bnd (outK p (Zgq P (ts.headD 0)) (ms.headD .rd) x s) fun y=>bnd (Zup P (p+1) ts.tail ms.tail r y.2) fun z=>ret (y.1::z)
theorem Zxf:∀{xs:List V} {s:St} {p:Nat} {ts:List TypeId} {ms:List Mode},KS (Zup P p ts ms xs s) (s.outs P p ts ms xs):=by
 intro xs
 induction xs with
 | nil=>intro s p ts ms;exact Yp
 | cons x xs ih=>intro s p ts ms;exact Ku Zyo fun y=>Yi ih
def retK (P:Program) (M:Hints) (f:FuncId) (fn:Func) (xs:List V) (s:St):KM (V×List V):=
 bnd (opt (resV P s fn.results.toList)) fun vs=>bnd (Zlb P fn.resultTypes.toList vs s) fun z=>bnd (Zup P 0 fn.params.toList (M.modes f) xs z.2) fun os=>ret (Zjx z.1,os)
theorem Ztc {f:FuncId} {fn:Func} {xs:List V} {s:St}:KS (retK P M f fn xs s) ((resV P s fn.results.toList).bind fun vs=>(s.liftAll P fn.resultTypes.toList vs).bind fun z=>(z.2.outs P 0 fn.params.toList (M.modes f) xs).map fun os=>(Zjx z.1,os)):=
 Ku Zdf fun vs=>Ku Zrx fun z=>Yi Zxf
def Zt6 (P:Program) (M:Hints) (s:St) (k:Nat) (g:FuncId) (args:List V):KM (V×St):=
 if args.length≤8 then bnd (Zp6 P (((P.funcs[g]?).map (·.params.toList)).getD []) (M.modes g) args s) fun y=>bnd (Zm4 y.2 (M.modes g) y.1) fun xs=>bnd hear fun o=>match o with
  | .res r os=>bnd (obl (Fine P M (g,xs,r,os))) fun _=>if ((Zhg r||os.any Jf)&&!Zac (M.modes g) args)=true then fail else
   bnd (Zqk s.ep (M.modes g) (16*k+8) args os y.2) fun s'=>opt (s'.takeRes s.ep (16*k) r)
  | _=>fail
 else fail
theorem Zxl (hP:FuncsOk P) {s:St} {k:Nat} {g:FuncId} {args:List V}:KP (Zt6 P M s k g args) (fun y=>∃C,Qz P M C∧Za6 P M C s k g args=some y):=by
 unfold Zt6
 refine Yg (fun h8=>?_) (fun _=>Zb)
 refine Za Zwj (fun y hy=>Za Zvw (fun xs hx=>Za Ys (fun o _=>?_)))
 split
 ·rename_i r os
  refine Za Zl (fun _ hf=>Yg (fun _=>Zb) (fun ht=>Za Zwa (fun s' hs=>Ww.mono fun z hz=>⟨one (g,xs,r,os),one_ok hP hf,?_⟩)))
  unfold Za6
  rw[if_pos h8,hy,Option.bind_some,hx,Option.bind_some]
  have h1:one (g,xs,r,os) g xs=some (r,os):=by unfold one;rw[if_pos ⟨rfl,rfl⟩]
  rw[h1,Option.bind_some]
  simp only
  rw[if_neg ht,hs,Option.bind_some,hz]
 ·exact Zb
def Zpu (s:St) (all:Bool) (x:V) (m:List (List V)) (lb:Bool):KM St:=
 match x with
 | .sl id off len=>if id.1=s.ep∨all=true then (if lb=true then bnd (Zg5 s id off len) fun er=>bnd (obl (er.2=m)) fun _=>ret (s.kill id) else match s.heap id with
   | some b=>if b.cl=false then bnd (Zcg s (.sl id off len)) fun rows=>bnd (obl (rows=m)) fun _=>bnd (obl (W4 m=lb)) fun _=>ret s else fail
   | none=>fail)
  else bnd (Zcg s x) fun rows=>bnd (obl (rows=m)) fun _=>bnd (obl (W4 m=lb)) fun _=>ret s
 | x=>bnd (Zcg s x) fun rows=>bnd (obl (rows=m)) fun _=>bnd (obl (W4 m=lb)) fun _=>ret s
theorem Zvh {s:St} {all:Bool} {x:V} {m:List (List V)} {lb:Bool}:KP (Zpu s all x m lb) (fun s1=>s.moved all x=some (m,lb,s1)):=by
 unfold Zpu
 split
 ·rename_i id off len
  simp only[St.moved]
  refine Yg (fun hx=>Yg (fun hl=>?_) (fun _=>?_)) (fun hn=>?_)
  ·refine Za Zfl (fun er he=>Za Zl (fun _ hm=>Zg ?_))
   rw[if_pos hx,he,hl]
   simp only[hm]
  ·split
   ·rename_i b hb
    refine Yg (fun hc=>?_) (fun _=>Zb)
    refine Za Kl (fun rows hr=>Za Zl (fun _ hm=>Za Zl (fun _ hl=>Zg ?_)))
    have hw:s.whole id off len=none:=by
     unfold St.whole
     rw[hb,Option.bind_some,if_neg (fun h=>by rw[hc] at h;cases h.2.2.1)]
    rw[if_pos hx,hw,hr]
    simp only[Option.map_some,hm,hl]
   ·exact Zb
  ·refine Za Kl (fun rows hr=>Za Zl (fun _ hm=>Za Zl (fun _ hl=>Zg ?_)))
   rw[if_neg hn,hr]
   simp only[Option.map_some,hm,hl]
 ·rename_i _ hne
  refine Za Kl (fun rows hr=>Za Zl (fun _ hm=>Za Zl (fun _ hl=>Zg ?_)))
  have:s.moved all x=(s.rowsOf x).map fun rows=>(rows,W4 rows,s):=by
   unfold St.moved
   split<;>simp_all
  rw[this,hr]
  simp only[Option.map_some,hm,hl]
def appK (P:Program) (all:Bool) (s:St) (id:Id) (t:TypeId) (b x:V):KM (V×St):=
 bnd (opt (Yq P t)) fun e=>bnd hear fun o=>match o with
 | .app m lb R n=>bnd (Zpu s all x m lb) fun s1=>if Zc P e≠0∧Zby P e=true then bnd (obl (J6 (Zc P e) m=true)) fun _=>
  match b with
  | .lit (.slice none 0 0)=>bnd (obl (m.length*P.bytesOf e≤140737488355328∧m.length≤9223372036854775807)) fun _=>bnd (obl (m=R)) fun _=>bnd (obl (n=R.length)) fun _=>ret (.sl id 0 n,s1.setB id ⟨false,true,lb,e,R⟩)
  | .sl i 0 len=>match s1.heap i with
   | some k=>if k.box=false∧k.own=true∧k.el=e then bnd (obl (len=k.rows.length)) fun _=>bnd (obl ((len+m.length)*P.bytesOf e≤140737488355328∧len+m.length≤9223372036854775807)) fun _=>
     bnd (obl (k.rows++m=R)) fun _=>bnd (obl (n=R.length)) fun _=>ret (.sl id 0 n,(s1.kill i).setB id ⟨false,true,k.cl&&lb,e,R⟩) else fail
   | none=>fail
  | _=>fail
  else fail
 | _=>fail
theorem Zyq {all:Bool} {s:St} {id:Id} {t:TypeId} {b x:V}:KS (appK P all s id t b x) (Zah P all s id t b x):=by
 unfold appK Zah
 refine Ku Zdf fun e=>Za Ys (fun o _=>?_)
 split
 ·rename_i m lb R n
  refine Za Zvh (fun s1 hm=>Yg (fun hz=>Za Zl (fun _ ha=>?_)) (fun _=>Zb))
  rw[hm,Option.bind_some,if_pos ⟨ha,hz.1,hz.2⟩]
  split
  ·refine Za Zl (fun _ h1=>Za Zl (fun _ h2=>Za Zl (fun _ h3=>Zg ?_)))
   rw[if_pos h1,h3,h2]
   rfl
  ·rename_i i len
   simp only
   split
   ·rename_i k hk
    refine Yg (fun hx=>?_) (fun _=>Zb)
    refine Za Zl (fun _ h0=>Za Zl (fun _ h1=>Za Zl (fun _ h2=>Za Zl (fun _ h3=>Zg ?_))))
    rw[hk,Option.bind_some,if_pos ⟨hx.1,hx.2.1,by omega,hx.2.2,h1⟩,h3,←h2,List.drop_zero,List.length_append,h0]
   ·exact Zb
  ·exact Zb
 ·exact Zb
def Zpn (c:Bool):KM Bool:=bnd hear fun o=>match o with
 | .t e=>bnd (obl (c=e)) fun _=>ret e
 | .k=>ret c
 | _=>fail
theorem Zqr {c:Bool}:KP (Zpn c) (fun e=>c=e):=by
 unfold Zpn
 refine Za Ys (fun o _=>?_)
 split
 ·exact Za Zl (fun _ h=>Zg h)
 ·exact Zg rfl
 ·exact Zb
def Zem (p:Prop) [Decidable p]:KM Unit:=bnd hear fun o=>match o with
 | .k=>if p then ret () else fail
 | .obl=>obl p
 | _=>fail
theorem Zdt {p:Prop} [Decidable p]:KP (Zem p) (fun _=>p):=by
 unfold Zem
 refine Za Ys (fun o _=>?_)
 split
 ·exact Yg (fun h=>Zg h) (fun _=>Zb)
 ·exact Zl
 ·exact Zb
def Zuv (op:BinOp) (k k':IntKind) (a b:Int):KM V:=
 match op with
 | .shl=>bnd (Zem (0≤b)) fun _=>ret (.lit (.int k (k.wrap (a*2^min b.toNat k.bits))))
 | .shr=>bnd (Zem (0≤b)) fun _=>ret (.lit (.int k (a.fdiv (2^min b.toNat k.bits))))
 | .quo=>if k=k' then bnd (Zem (b≠0)) fun _=>ret (.lit (.int k (k.wrap (a.tdiv b)))) else fail
 | .rem=>if k=k' then bnd (Zem (b≠0)) fun _=>ret (.lit (.int k (a.tmod b))) else fail
 | op=>opt (binI op k k' a b)
theorem Zxh {op:BinOp} {k k':IntKind} {a b:Int}:KS (Zuv op k k' a b) (binI op k k' a b):=by
 unfold Zuv
 split
 ·refine Za Zdt (fun _ h=>Zg ?_)
  simp only[binI];rw[if_neg (by omega)]
 ·refine Za Zdt (fun _ h=>Zg ?_)
  simp only[binI];rw[if_neg (by omega)]
 ·refine Yg (fun hk=>Za Zdt (fun _ h=>Zg ?_)) (fun _=>Zb)
  simp only[binI];rw[if_pos hk,if_neg h]
 ·refine Yg (fun hk=>Za Zdt (fun _ h=>Zg ?_)) (fun _=>Zb)
  simp only[binI];rw[if_pos hk,if_neg h]
 ·exact Zdf
def Zui (op:BinOp) (a b:ByteArray):KM V:=
 match op with
 | .add=>bnd (Zem (¬((a.size+b.size:Nat):Int) > IntKind.i64.max)) fun _=>ret (.lit (.string (a++b)))
 | op=>opt (binS op a b)
theorem Zxj {op:BinOp} {a b:ByteArray}:KS (Zui op a b) (binS op a b):=by
 unfold Zui
 split
 ·refine Za Zdt (fun _ h=>Zg ?_)
  simp only[binS];rw[if_neg h]
 ·exact Zdf
def opK (P:Program) (M:Hints) (f:Operand→V) (s:St) (k:Nat) (o:Oper):KM (V×St):=
 match o.op with
 | .binOp op t x y yt=>match f x,f y with
  | .lit (.int k1 a),.lit (.int k2 b)=>bnd (Zuv op k1 k2 a b) fun v=>ret (v,s)
  | .lit (.string a),.lit (.string b)=>bnd (Zui op a b) fun v=>ret (v,s)
  | .lit (.bool a),.lit (.bool b)=>match op,P.underlying t with
   | .eql,some .bool=>ret (.lit (.bool (a == b)),s)
   | .neq,some .bool=>ret (.lit (.bool (a != b)),s)
   | _,_=>fail
  | .agg xs,.agg ys=>if (Wc xs).isSome=true∧(Wc ys).isSome=true∧Zhb P t xs=true then bnd (opt (Qf xs ys)) fun b=>match op with
   | .eql=>ret (.lit (.bool b),s)
   | .neq=>ret (.lit (.bool (!b)),s)
   | _=>fail
   else fail
  | a,.lit (.slice none 0 0)=>match a with
   | .sl ..|.tr _|.vw _=>if (Yq P t).isSome=true then bnd (Zcg s a) fun rows=>bnd (obl (rows≠[])) fun _=>match op with
    | .eql=>ret (.lit (.bool false),s)
    | .neq=>ret (.lit (.bool true),s)
    | _=>fail
    else fail
   | _=>opt (Zp P M Zx f s k o)
  | _,_=>opt (Zp P M Zx f s k o)
 | .buildSlice t n parts=>bnd (opt (Yq P t)) fun e=>bnd (opt (if n*Zc P e=0 then some [] else Q8 P e)) fun z=>
  if Zc P e=0∨n*Zc P e > 1048576∨Zby P e=false then fail else
  bnd (opt (Zb4 P (fun i=>some (i*Zc P e,Zc P e)) (List.replicate n z).flatten (parts.toList.map fun p=>(p.1,f p.2)))) fun cs=>
   bnd (Zik (Zcd (Zc P e) n cs) s) fun y=>ret (.sl (s.ep,1024*k) 0 n,y.2.2.setB (s.ep,1024*k) ⟨false,true,y.2.1,e,y.1⟩)
 | .pick c a b=>match f c with
  | .lit (.bool t)=>bnd (Zpn t) fun e=>if e then ret (f a,s) else ret (f b,s)
  | _=>fail
 | .indexAddr t x ix=>bnd (opt (Yq P t)) fun e=>if Zc P e=0 then fail else bnd hear fun q=>match q with
  | .row n r=>if r.length=Zc P e then bnd (obl (Yh (f ix)=some n)) fun _=>match f x with
   | .sl i off len=>bnd (obl (n < len)) fun _=>match s.heap i with
    | some b=>bnd (obl (b.rows[offN off n]?=some r)) fun _=>ret (.ptr i (offN off n) 0,s)
    | none=>fail
   | .tr rows=>bnd (obl (rows[n]?=some r)) fun _=>ret (.rp true r 0,s)
   | .vw rows=>bnd (obl (rows[n]?=some r)) fun _=>ret (.rp false r 0,s)
   | _=>fail
   else fail
  | _=>fail
 | .load t a=>match f a with
  | .ptr i j n=>match s.heap i with
   | some b=>match b.box with
    | true=>opt (Zp P M Zx f s k o)
    | false=>bnd hear fun q=>match q with
     | .cell row=>bnd (obl (b.rows[j]?=some row)) fun _=>if n+Zc P t≤row.length then bnd (opt (Jm P t ((row.drop n).take (Zc P t)))) fun v=>ret (v,s) else fail
     | _=>fail
   | none=>fail
  | _=>opt (Zp P M Zx f s k o)
 | .store t a x=>match f a with
  | .ptr i j n=>match s.heap i with
   | some b=>match b.box with
    | true=>opt (Zp P M Zx f s k o)
    | false=>bnd hear fun q=>match q with
     | .put row R=>bnd (obl (b.rows[j]?=some row)) fun _=>bnd (opt (Zbz (f x))) fun cs=>if b.own=true∧cs.length=Zc P t∧n+Zc P t≤row.length∧Zc P t≠0 then
       bnd (Zd8 cs s) fun y=>match y.2.2.heap i with
        | some b=>bnd (obl (b.rows.set j (Xg row n y.1)=R)) fun _=>ret (.undef,y.2.2.setB i ⟨b.box,b.own,b.cl&&y.2.1,b.el,R⟩)
        | none=>fail
       else fail
     | _=>fail
   | none=>fail
  | _=>fail
 | .slice t x lo hi none=>match f x with
  | .sl id off len=>bnd hear fun q=>match q with
   | .num l h n R=>bnd (opt (Yq P t)) fun e=>bnd (Zcg s (f x)) fun rows=>bnd (obl (match lo with|some z=>Yh (f z)=some l|none=>l=0)) fun _=>bnd (obl (match hi with|some z=>Yh (f z)=some h|none=>rows.length=h)) fun _=>
    bnd (obl (l≤h∧h≤rows.length)) fun _=>bnd (obl (J6 (Zc P e) rows=true)) fun _=>bnd (obl (n=h - l)) fun _=>if Zc P e≠0 then ret (.sl id (offN off l) n,s) else fail
   | _=>fail
  | .tr _|.vw _=>bnd hear fun q=>match q with
   | .num l h n R=>bnd (opt (Yq P t)) fun e=>bnd (Zcg s (f x)) fun rows=>bnd (obl (match lo with|some z=>Yh (f z)=some l|none=>l=0)) fun _=>bnd (obl (match hi with|some z=>Yh (f z)=some h|none=>rows.length=h)) fun _=>
    bnd (obl (l≤h∧h≤rows.length)) fun _=>bnd (obl (J6 (Zc P e) rows=true)) fun _=>bnd (obl ((rows.drop l).take (h - l)=R)) fun _=>if Zc P e≠0 then ret ((match f x with|.tr _=>.tr R|_=>.vw R),s) else fail
   | _=>fail
  | .lit (.string b)=>match P.underlying t with
   | some .string=>bnd hear fun q=>match q with
    | .val (.lit (.string c))=>bnd (obl (ssl b (lo.map f) (hi.map f)=some c)) fun _=>ret (.lit (.string c),s)
    | _=>fail
   | _=>fail
  | _=>opt (Zp P M Zx f s k o)
 | .index t x ix=>match f x with
  | .lit (.string b)=>match P.underlying t with
   | some .string=>bnd hear fun q=>match q with
    | .val (.lit (.int _ m))=>bnd (obl (sidx b (f ix)=some m)) fun _=>ret (.lit (.int .u8 m),s)
    | _=>fail
   | _=>fail
  | _=>opt (Zp P M Zx f s k o)
 | .convert src dst x=>match f x with
  | .sl ..|.tr _|.vw _=>match P.underlying src,P.underlying dst with
   | some (.slice e),some .string=>match P.underlying e with
    | some (.int .u8)=>bnd (Zcg s (f x)) fun rows=>bnd hear fun q=>match q with
     | .val (.lit (.string c))=>bnd (obl (strV rows=some c)) fun _=>ret (.lit (.string c),s)
     | _=>fail
    | _=>fail
   | _,_=>fail
  | _=>opt (Zp P M Zx f s k o)
 | .makeSlice t l c=>bnd hear fun q=>match q with
  | .mk n R=>bnd (opt (Yq P t)) fun e=>bnd (opt (Q8 P e)) fun z=>bnd (obl (Yh (f l)=some n)) fun _=>bnd (obl (Yh (f c)=some n)) fun _=>bnd (obl (n*P.bytesOf e≤70368744177664∧n≤9223372036854775807)) fun _=>
   bnd (obl (List.replicate n (z.map Wa)=R)) fun _=>if z.length=Zc P e∧Zc P e≠0 then ret (.sl (s.ep,1024*k) 0 R.length,s.setB (s.ep,1024*k) ⟨false,true,true,e,R⟩) else fail
  | _=>fail
 | .call c=>match c.callee with
  | .value g=>match f g with
   | .fn g caps=>Zt6 P M s k g (c.args.toList.map f++caps)
   | _=>fail
  | .builtin .append=>match c.args.toList,c.argTypes.toList with
   | [b,x],[t,t']=>if t=t' then appK P (M.mv o.pos) s (s.ep,1024*k) t (f b) (f x) else fail
   | _,_=>fail
  | .builtin .len=>match c.args.toList,c.argTypes.toList with
   | [x],[t]=>match f x with
    | .sl _ _ n=>bnd hear fun q=>match q with
     | .num m _ _ _=>bnd (obl (n=m)) fun _=>if (Yq P t).isSome=true then ret (.lit (.int .i64 m),s) else fail
     | _=>fail
    | .tr rows|.vw rows=>bnd hear fun q=>match q with
     | .num m _ _ _=>bnd (obl (rows.length=m)) fun _=>if (Yq P t).isSome=true then ret (.lit (.int .i64 m),s) else fail
     | _=>fail
    | _=>opt (Zp P M Zx f s k o)
   | _,_=>fail
  | .builtin .clear=>match c.args.toList,c.argTypes.toList with
   | [x],[t]=>bnd (opt (Yq P t)) fun e=>bnd (opt (Q8 P e)) fun z=>match f x with
    | .sl i off n=>match s.heap i with
     | some b=>bnd hear fun q=>match q with
      | .app R _ _ _=>if b.own=true∧b.box=false∧b.el=e∧z.length=Zc P e∧Zc P e≠0 then bnd (obl (off+n≤b.rows.length)) fun _=>
        bnd (obl (b.rows.take off++List.replicate n (z.map Wa)++b.rows.drop (off+n)=R)) fun _=>ret (.tup [],s.setB i ⟨b.box,b.own,b.cl,b.el,R⟩) else fail
      | _=>fail
     | none=>fail
    | _=>fail
   | _,_=>fail
  | _=>opt (Zp P M Zx f s k o)
 | _=>opt (Zp P M Zx f s k o)
end
section
variable {P:Program} {M:Hints}
def OpOk (P:Program) (M:Hints) (f:Operand→V) (s:St) (k:Nat) (o:Oper) (y:V×St):Prop:=∃C,Qz P M C∧Zp P M C f s k o=some y
theorem Q1 (hP:FuncsOk P) {f:Operand→V} {s:St} {k:Nat} {o:Oper}:KP (opt (Zp P M Zx f s k o)) (OpOk P M f s k o):=Ww.mono fun y h=>⟨Zx,Z3 hP,h⟩
theorem Zvj (hP:FuncsOk P) {f:Operand→V} {s:St} {k:Nat} {d:Option Tmp} {ty t yt:TypeId} {pos:String} {af:Array Edge} {g:Option (Nat×Bool)} {op:BinOp} {x y:Operand}:KP (opK P M f s k ⟨d,.binOp op t x y yt,ty,pos,af,g⟩) (OpOk P M f s k ⟨d,.binOp op t x y yt,ty,pos,af,g⟩):=by
 have base:∀{v:V},binX P op t x y (f x) (f y)=some v→(∃a b,f x=.lit a∧f y=.lit b)→Zp P M Zx f s k ⟨d,.binOp op t x y yt,ty,pos,af,g⟩=some (v,s):=fun {v} h ⟨a,b,h1,h2⟩=>by
  have e:Yd P f ⟨d,.binOp op t x y yt,ty,pos,af,g⟩=some v:=by rw[Zv9];exact h
  simp only[Zp,h1,h2,e,Option.map_some]
 have base2:∀{v:V},binX P op t x y (f x) (f y)=some v→(∃a b,f x=.agg a∧f y=.agg b)→Zp P M Zx f s k ⟨d,.binOp op t x y yt,ty,pos,af,g⟩=some (v,s):=fun {v} h ⟨a,b,h1,h2⟩=>by
  have e:Yd P f ⟨d,.binOp op t x y yt,ty,pos,af,g⟩=some v:=by rw[Zv9];exact h
  simp only[Zp,h1,h2,e,Option.map_some]
 simp only[opK]
 split
 ·rename_i k1 a k2 b h1 h2
  refine Za Zxh (fun v hv=>Zg ⟨Zx,Z3 hP,base ?_ ⟨_,_,h1,h2⟩⟩)
  rw[h1,h2,Zwu];exact hv
 ·rename_i a b h1 h2
  refine Za Zxj (fun v hv=>Zg ⟨Zx,Z3 hP,base ?_ ⟨_,_,h1,h2⟩⟩)
  rw[h1,h2,Zw1];exact hv
 ·rename_i a b h1 h2
  split
  ·rename_i h3
   refine Zg ⟨Zx,Z3 hP,base ?_ ⟨_,_,h1,h2⟩⟩
   rw[h1,h2,Zx7 h3]
  ·rename_i h3
   refine Zg ⟨Zx,Z3 hP,base ?_ ⟨_,_,h1,h2⟩⟩
   rw[h1,h2,Zxn h3]
  ·exact Zb
 ·rename_i xs ys h1 h2
  refine Yg (fun hc=>Za Ww (fun b hb=>?_)) (fun _=>Zb)
  split
  ·exact Zg ⟨Zx,Z3 hP,base2 (by rw[h1,h2,Zv3 hc.1 hc.2.1 hc.2.2 hb]) ⟨_,_,h1,h2⟩⟩
  ·exact Zg ⟨Zx,Z3 hP,base2 (by rw[h1,h2,Zwp hc.1 hc.2.1 hc.2.2 hb]) ⟨_,_,h1,h2⟩⟩
  ·exact Zb
 ·rename_i hy
  split
  all_goals first
   | exact Q1 hP
   | (
     rename_i hx
     refine Yg (fun he=>Za Kl (fun rows hr=>Za Zl (fun _ hn=>?_))) (fun _=>Zb)
     obtain⟨r,l,rfl⟩:=List.exists_cons_of_ne_nil hn
     have hf:¬(Yq P t).isSome=false:=by rw[he];decide
     split
     ·exact Zg ⟨Zx,Z3 hP,by simp only[Zp,hx,hy];rw[if_neg hf];rw[hx] at hr;rw[hr]⟩
     ·exact Zg ⟨Zx,Z3 hP,by simp only[Zp,hx,hy];rw[if_neg hf];rw[hx] at hr;rw[hr]⟩
     ·exact Zb)
 ·exact Q1 hP
theorem Znu (hP:FuncsOk P) {f:Operand→V} {s:St} {k:Nat} {d:Option Tmp} {ty t:TypeId} {pos:String} {af:Array Edge} {g:Option (Nat×Bool)} {n:Nat} {parts:Array (Nat×Operand)}:KP (opK P M f s k ⟨d,.buildSlice t n parts,ty,pos,af,g⟩) (OpOk P M f s k ⟨d,.buildSlice t n parts,ty,pos,af,g⟩):=by
 simp only[opK]
 refine Za Ww (fun e he=>Za Ww (fun z hz=>Yg (fun _=>Zb) (fun hc=>Za Ww (fun cs hcs=>Za Zq1 (fun y hy=>Zg ⟨Zx,Z3 hP,?_⟩)))))
 simp only[Zp,he,Option.bind_some,hz]
 rw[if_neg hc,hcs,Option.bind_some,hy]
 rfl
theorem Zyb (hP:FuncsOk P) {f:Operand→V} {s:St} {k:Nat} {d:Option Tmp} {ty:TypeId} {pos:String} {af:Array Edge} {g:Option (Nat×Bool)} {c a b:Operand}:KP (opK P M f s k ⟨d,.pick c a b,ty,pos,af,g⟩) (OpOk P M f s k ⟨d,.pick c a b,ty,pos,af,g⟩):=by
 simp only[opK]
 split
 ·rename_i t hc
  refine Za Zqr (fun e he=>?_)
  subst he
  cases t with
  | true=>exact Zg ⟨Zx,Z3 hP,by simp only[Zp,hc,if_true]⟩
  | false=>exact Zg ⟨Zx,Z3 hP,by simp only[Zp,hc,Bool.false_eq_true,if_false]⟩
 ·exact Zb
theorem Zo8 (hP:FuncsOk P) {f:Operand→V} {s:St} {k:Nat} {d:Option Tmp} {ty t:TypeId} {pos:String} {af:Array Edge} {g:Option (Nat×Bool)} {x ix:Operand}:KP (opK P M f s k ⟨d,.indexAddr t x ix,ty,pos,af,g⟩) (OpOk P M f s k ⟨d,.indexAddr t x ix,ty,pos,af,g⟩):=by
 simp only[opK]
 refine Za Ww (fun e he=>Yg (fun _=>Zb) (fun hz=>Za Ys (fun o _=>?_)))
 split
 ·rename_i n r
  refine Yg (fun hr=>Za Zl (fun _ hn=>?_)) (fun _=>Zb)
  split
  ·rename_i i off len hx
   refine Za Zl (fun _ hlt=>?_)
   split
   ·rename_i b hb
    refine Za Zl (fun _ hrow=>Zg ⟨Zx,Z3 hP,?_⟩)
    rw[Ztl] at hrow ⊢
    simp only[Zp,he,Option.bind_some,hz,if_false,hn,hx,hlt,if_true,hb,hrow,hr]
   ·exact Zb
  ·rename_i rows hx
   refine Za Zl (fun _ hrow=>Zg ⟨Zx,Z3 hP,?_⟩)
   simp only[Zp,he,Option.bind_some,hz,if_false,hn,hx,if_true,hrow,hr]
  ·rename_i rows hx
   refine Za Zl (fun _ hrow=>Zg ⟨Zx,Z3 hP,?_⟩)
   simp only[Zp,he,Option.bind_some,hz,if_false,hn,hx,if_true,hrow,hr]
  ·exact Zb
 ·exact Zb
theorem Zya (hP:FuncsOk P) {f:Operand→V} {s:St} {k:Nat} {d:Option Tmp} {ty t:TypeId} {pos:String} {af:Array Edge} {g:Option (Nat×Bool)} {a:Operand}:KP (opK P M f s k ⟨d,.load t a,ty,pos,af,g⟩) (OpOk P M f s k ⟨d,.load t a,ty,pos,af,g⟩):=by
 simp only[opK]
 split
 ·rename_i i j n ha
  split
  ·rename_i b hb
   split
   ·exact Q1 hP
   ·refine Za Ys (fun o _=>?_)
    split
    ·rename_i row
     refine Za Zl (fun _ hrow=>Yg (fun hl=>Za Ww (fun v hv=>Zg ⟨Zx,Z3 hP,?_⟩)) (fun _=>Zb))
     simp only[Zp,ha,hb,Option.bind_some,hrow,hl,if_true,hv,Option.map_some]
    ·exact Zb
  ·exact Zb
 ·exact Q1 hP
theorem Zvr (hP:FuncsOk P) {f:Operand→V} {s:St} {k:Nat} {d:Option Tmp} {ty t:TypeId} {pos:String} {af:Array Edge} {g:Option (Nat×Bool)} {a x:Operand}:KP (opK P M f s k ⟨d,.store t a x,ty,pos,af,g⟩) (OpOk P M f s k ⟨d,.store t a x,ty,pos,af,g⟩):=by
 simp only[opK]
 split
 ·rename_i i j n ha
  split
  ·rename_i b hb
   split
   ·exact Q1 hP
   ·rename_i hbx
    refine Za Ys (fun o _=>?_)
    split
    ·rename_i row R
     refine Za Zl (fun _ hrow=>Za Ww (fun cs hcs=>Yg (fun hc=>Za Zqv (fun y hy=>?_)) (fun _=>Zb)))
     split
     ·rename_i b2 hb2
      refine Za Zl (fun _ hR=>Zg ⟨Zx,Z3 hP,?_⟩)
      have hc':b.own=true∧cs.length=Zc P t∧n+Zc P t≤row.length∧Zc P t≠0:=hc
      simp only[Zp,ha,hb,Option.bind_some,hrow,hcs]
      rw[if_pos hc',hbx]
      simp only[Bool.false_eq_true,if_false,hy,Option.bind_some,hb2,hR]
     ·exact Zb
    ·exact Zb
  ·exact Zb
 ·exact Zb
def Zqy (x:V) (l h:Nat):Option V:=match x with
 | .sl id off _=>some (.sl id (off+l) (h - l))
 | .tr rows=>some (.tr ((rows.drop l).take (h - l)))
 | .vw rows=>some (.vw ((rows.drop l).take (h - l)))
 | _=>none
theorem Zhd {s:St} {t e:TypeId} {x:V} {rows:List (List V)} {lo hi:Option Operand} {f:Operand→V} {l h:Nat} (he:Yq P t=some e) (hr:s.rowsOf x=some rows) (hl:match lo with|some z=>Yh (f z)=some l|none=>l=0) (hh:match hi with|some z=>Yh (f z)=some h|none=>rows.length=h)
  (h1:l≤h∧h≤rows.length) (h2:J6 (Zc P e) rows=true) (h3:Zc P e≠0):Zbs P s t x (lo.map f) (hi.map f)=Zqy x l h:=by
 have key:∀(a b:Option Nat),a=some l→b=some h→(a.bind fun l=>b.bind fun h=>if l≤h∧h≤rows.length∧J6 (Zc P e) rows=true∧Zc P e≠0 then Zqy x l h else none)=Zqy x l h:=by
  rintro _ _ rfl rfl
  simp only[Option.bind_some]
  rw[if_pos ⟨h1.1,h1.2,h2,h3⟩]
 unfold Zbs
 rw[he,Option.bind_some,hr,Option.bind_some]
 refine key _ _ ?_ ?_
 ·cases lo with
  | none=>simp only at hl;rw[hl];rfl
  | some z=>exact hl
 ·cases hi with
  | none=>simp only at hh;rw[←hh];rfl
  | some z=>exact hh
theorem Zva (hP:FuncsOk P) {f:Operand→V} {s:St} {k:Nat} {d:Option Tmp} {ty t:TypeId} {pos:String} {af:Array Edge} {g:Option (Nat×Bool)} {x:Operand} {lo hi mx:Option Operand}:KP (opK P M f s k ⟨d,.slice t x lo hi mx,ty,pos,af,g⟩) (OpOk P M f s k ⟨d,.slice t x lo hi mx,ty,pos,af,g⟩):=by
 cases mx with
 | some m=>exact Q1 hP
 | none=>
  simp only[opK]
  split
  ·rename_i id off len hx
   refine Za Ys (fun o _=>?_)
   split
   ·rename_i l h n R
    refine Za Ww (fun e he=>Za Kl (fun rows hr=>Za Zl (fun _ hl=>Za Zl (fun _ hh=>Za Zl (fun _ h1=>Za Zl (fun _ h2=>Za Zl (fun _ h4=>Yg (fun h3=>Zg ⟨Zx,Z3 hP,?_⟩) (fun _=>Zb))))))))
    simp only[Zp,Zhd he hr hl hh h1 h2 h3]
    rw[hx,h4,Ztl]
    rfl
   ·exact Zb
  ·rename_i rws hx
   refine Za Ys (fun o _=>?_)
   split
   ·rename_i l h n R
    refine Za Ww (fun e he=>Za Kl (fun rows hr=>Za Zl (fun _ hl=>Za Zl (fun _ hh=>Za Zl (fun _ h1=>Za Zl (fun _ h2=>Za Zl (fun _ h4=>Yg (fun h3=>Zg ⟨Zx,Z3 hP,?_⟩) (fun _=>Zb))))))))
    simp only[Zp,Zhd he hr hl hh h1 h2 h3]
    rw[hx] at hr ⊢
    have:rws=rows:=by simpa [St.rowsOf] using hr
    rw[←h4,←this]
    rfl
   ·exact Zb
  ·rename_i rws hx
   refine Za Ys (fun o _=>?_)
   split
   ·rename_i l h n R
    refine Za Ww (fun e he=>Za Kl (fun rows hr=>Za Zl (fun _ hl=>Za Zl (fun _ hh=>Za Zl (fun _ h1=>Za Zl (fun _ h2=>Za Zl (fun _ h4=>Yg (fun h3=>Zg ⟨Zx,Z3 hP,?_⟩) (fun _=>Zb))))))))
    simp only[Zp,Zhd he hr hl hh h1 h2 h3]
    rw[hx] at hr ⊢
    have:rws=rows:=by simpa [St.rowsOf] using hr
    rw[←h4,←this]
    rfl
   ·exact Zb
  ·rename_i b hx
   split
   ·rename_i ht
    refine Za Ys (fun q _=>?_)
    split
    ·rename_i c
     refine Za Zl (fun _ hc=>Zg ⟨Zx,Z3 hP,?_⟩)
     simp only[Zp,hx,Zu1 ht hx hc,Option.map_some]
    ·exact Zb
   ·exact Zb
  ·exact Q1 hP
theorem Zu9 (hP:FuncsOk P) {f:Operand→V} {s:St} {k:Nat} {d:Option Tmp} {ty t:TypeId} {pos:String} {af:Array Edge} {g:Option (Nat×Bool)} {x ix:Operand}:KP (opK P M f s k ⟨d,.index t x ix,ty,pos,af,g⟩) (OpOk P M f s k ⟨d,.index t x ix,ty,pos,af,g⟩):=by
 simp only[opK]
 split
 ·rename_i b hx
  split
  ·rename_i ht
   refine Za Ys (fun q _=>?_)
   split
   ·rename_i k' m
    refine Za Zl (fun _ hm=>Zg ⟨Zx,Z3 hP,?_⟩)
    simp only[Zp,Zxq ht hx hm,Option.map_some]
   ·exact Zb
  ·exact Zb
 ·exact Q1 hP
theorem Zsj (hP:FuncsOk P) {f:Operand→V} {s:St} {k:Nat} {d:Option Tmp} {ty src dst:TypeId} {pos:String} {af:Array Edge} {g:Option (Nat×Bool)} {x:Operand}:KP (opK P M f s k ⟨d,.convert src dst x,ty,pos,af,g⟩) (OpOk P M f s k ⟨d,.convert src dst x,ty,pos,af,g⟩):=by
 simp only[opK]
 split
 all_goals first
  | exact Q1 hP
  | (
    rename_i hx
    split
    ·rename_i e h1 h2
     split
     ·rename_i h3
      refine Za Kl (fun rows hr=>Za Ys (fun q _=>?_))
      split
      ·rename_i c
       refine Za Zl (fun _ hc=>Zg ⟨Zx,Z3 hP,?_⟩)
       unfold strV at hc
       obtain⟨bs,hb,hc⟩:=Option.map_eq_some_iff.1 hc
       rw[hx] at hr
       simp only[Zp,hx,h1,h2,h3,hr,hb,Option.bind_some,Option.map_some,hc]
      ·exact Zb
     ·exact Zb
    ·exact Zb)
theorem Zpg (hP:FuncsOk P) {f:Operand→V} {s:St} {k:Nat} {d:Option Tmp} {ty t:TypeId} {pos:String} {af:Array Edge} {g:Option (Nat×Bool)} {l c:Operand}:KP (opK P M f s k ⟨d,.makeSlice t l c,ty,pos,af,g⟩) (OpOk P M f s k ⟨d,.makeSlice t l c,ty,pos,af,g⟩):=by
 simp only[opK]
 refine Za Ys (fun o _=>?_)
 split
 ·rename_i n R
  refine Za Ww (fun e he=>Za Ww (fun z hz=>Za Zl (fun _ hl=>Za Zl (fun _ hc=>Za Zl (fun _ h1=>Za Zl (fun _ hR=>Yg (fun h2=>Zg ⟨Zx,Z3 hP,?_⟩) (fun _=>Zb)))))))
  simp only[Zp,he,hz,Option.bind_some,hl,hc]
  rw[if_pos ⟨by trivial,h1.1,h1.2,h2.1,h2.2⟩,hR,←hR,List.length_replicate]
 ·exact Zb
theorem Zx9 (hP:FuncsOk P) {f:Operand→V} {s:St} {k:Nat} {d:Option Tmp} {ty:TypeId} {pos:String} {af:Array Edge} {g:Option (Nat×Bool)} {c:Call}:KP (opK P M f s k ⟨d,.call c,ty,pos,af,g⟩) (OpOk P M f s k ⟨d,.call c,ty,pos,af,g⟩):=by
 simp only[opK]
 split
 ·rename_i x hc
  split
  ·rename_i h caps hx
   refine (Zxl hP).mono fun y ⟨C,h1,h2⟩=>⟨C,h1,?_⟩
   simp only[Zp,hc,hx,h2]
  ·exact Zb
 ·rename_i hc
  split
  ·rename_i b x t t' ha ht
   refine Yg (fun he=>Zyq.kp.mono fun y hy=>⟨Zx,Z3 hP,?_⟩) (fun _=>Zb)
   simp only[Zp,hc,ha,ht,he,if_true]
   rw[←he];exact hy
  ·exact Zb
 ·rename_i hc
  split
  ·rename_i x t ha ht
   split
   ·rename_i i off n hx
    refine Za Ys (fun o _=>?_)
    split
    ·refine Za Zl (fun _ hn=>Yg (fun he=>Zg ⟨Zx,Z3 hP,?_⟩) (fun _=>Zb))
     simp only[Zp,hc,ha,ht,hx,he,if_true,hn]
    ·exact Zb
   ·rename_i rows hx
    refine Za Ys (fun o _=>?_)
    split
    ·refine Za Zl (fun _ hn=>Yg (fun he=>Zg ⟨Zx,Z3 hP,?_⟩) (fun _=>Zb))
     simp only[Zp,hc,ha,ht,hx,he,if_true,hn]
    ·exact Zb
   ·rename_i rows hx
    refine Za Ys (fun o _=>?_)
    split
    ·refine Za Zl (fun _ hn=>Yg (fun he=>Zg ⟨Zx,Z3 hP,?_⟩) (fun _=>Zb))
     simp only[Zp,hc,ha,ht,hx,he,if_true,hn]
    ·exact Zb
   ·exact Q1 hP
  ·exact Zb
 ·rename_i hc
  split
  ·rename_i x t ha ht
   refine Za Ww (fun e he=>Za Ww (fun z hz=>?_))
   split
   ·rename_i i off n hx
    split
    ·rename_i b hb
     refine Za Ys (fun o _=>?_)
     split
     ·refine Yg (fun h=>Za Zl (fun _ h1=>Za Zl (fun _ h2=>Zg ⟨Zx,Z3 hP,?_⟩))) (fun _=>Zb)
      simp only[Zp,hc,ha,ht,hx,he,hz,hb,Option.bind_some]
      rw[if_pos ⟨h.1,h.2.1,h1,h.2.2.1,h.2.2.2.1,h.2.2.2.2⟩,h2]
     ·exact Zb
    ·exact Zb
   ·exact Zb
  ·exact Zb
 ·exact Q1 hP
theorem Zvm (hP:FuncsOk P) {f:Operand→V} {s:St} {k:Nat} {o:Oper}:KP (opK P M f s k o) (OpOk P M f s k o):=by
 obtain⟨d,op,ty,pos,af,g⟩:=o
 cases op with
 | binOp op t x y yt=>exact Zvj hP
 | pick c a b=>exact Zyb hP
 | buildSlice t n parts=>exact Znu hP
 | indexAddr t x ix=>exact Zo8 hP
 | load t a=>exact Zya hP
 | store t a x=>exact Zvr hP
 | slice t x lo hi mx=>exact Zva hP
 | makeSlice t l c=>exact Zpg hP
 | index t x ix=>exact Zu9 hP
 | convert src dst x=>exact Zsj hP
 | call c=>exact Zx9 hP
 | _=>simp only[opK];exact Q1 hP
def Zma (s:St) (ops:Array Oper) (o:Oper):KM (Bool×St):=
 match o.guard with
 | none=>ret (true,s)
 | some (j,b)=>match (ops[j]?).bind (·.dst) with
  | some d=>match s.env d with
   | .lit (.bool c)=>bnd hear fun o=>match o with
    | .t e=>bnd (obl (c=e)) fun _=>ret (e == b,⟨upd s.env d (.lit (.bool e)),s.heap,s.ep⟩)
    | .k=>ret (c == b,s)
    | _=>fail
   | .tup []=>ret (false,s)
   | _=>fail
  | none=>fail
theorem Zov {s:St} {ops:Array Oper} {o:Oper}:KP (Zma s ops o) (fun y=>wanted s ops o=some y.1∧y.2=s):=by
 unfold Zma wanted
 cases o.guard with
 | none=>exact Zg ⟨rfl,rfl⟩
 | some p=>
  obtain⟨j,b⟩:=p
  simp only
  cases hd:(ops[j]?).bind (·.dst) with
  | none=>exact Zb
  | some d=>
   simp only[Option.map_some]
   cases he:s.env d with
   | lit v=>cases v with
    | bool c=>
     refine Za Ys (fun q _=>?_)
     cases q with
     | t e=>
      refine Za Zl (fun _ hc=>Zg ⟨by subst hc;rfl,?_⟩)
      have:upd s.env d (.lit (.bool e))=s.env:=by
       funext t
       unfold upd
       split
       ·rename_i h;rw[h,he,hc]
       ·rfl
      rw[this]
     | k=>exact Zg ⟨rfl,rfl⟩
     | _=>exact Zb
    | _=>exact Zb
   | tup l=>cases l with
    | nil=>exact Zg ⟨rfl,rfl⟩
    | cons x l=>exact Zb
   | _=>exact Zb
def opsK (P:Program) (M:Hints) (ops:Array Oper):(k:Nat)→List Oper→(s:St)→KM St
 | _,[],s=>ret s
 | k,o::rest,s=>bnd (Zma s ops o) fun g=>if g.1 then bnd (opK P M g.2.opV g.2 k o) fun y=>opsK P M ops (k+1) rest (y.2.put o.dst y.1) else opsK P M ops (k+1) rest (g.2.put o.dst (.tup []))
theorem Zrp {C C':Nat→Yo} {ops:Array Oper}:∀(l:List Oper) {k:Nat} {s:St},(∀j,k≤j→C j=C' j)→Km P M C ops s k l=Km P M C' ops s k l:=by
 intro l
 induction l with
 | nil=>intros;rfl
 | cons o l ih=>
  intro k s h
  simp only[Km,h k (Nat.le_refl _)]
  simp only[fun s=>ih (k:=k+1) (s:=s) (fun j hj=>h j (by omega))]
theorem Zrh {C C':Nat→Yo} {ops:Array Oper}:∀(l:List Oper) {k:Nat} {s:St} {recs:List Rec},(∀j,k≤j→C j=C' j)→W0 P M C ops s recs k l=W0 P M C' ops s recs k l:=by
 intro l
 induction l with
 | nil=>intros;rfl
 | cons o l ih=>
  intro k s recs h
  simp only[W0,h k (Nat.le_refl _)]
  simp only[fun s recs=>ih (k:=k+1) (s:=s) (recs:=recs) (fun j hj=>h j (by omega))]
def setC (C:Nat→Yo) (k:Nat) (D:Yo):Nat→Yo:=fun j=>if j=k then D else C j
theorem Zyl (hP:FuncsOk P) {ops:Array Oper}:∀(l:List Oper) {k:Nat} {s:St},KP (opsK P M ops k l s) (fun s'=>∃C:Nat→Yo,(∀j,Qz P M (C j))∧Km P M C ops s k l=some s'):=by
 intro l
 induction l with
 | nil=>intro k s;exact Zg ⟨fun _=>Zx,fun _=>Z3 hP,rfl⟩
 | cons o l ih=>
  intro k s
  simp only[opsK,Km]
  refine Za Zov (fun g hg=>?_)
  obtain⟨g,s0⟩:=g
  obtain⟨hg,hs0⟩:=hg
  simp only at hg hs0
  subst hs0
  cases g with
  | true=>
   simp only[if_true]
   refine Za (Zvm hP) (fun y hy=>ih.mono fun s' ⟨C,h1,h2⟩=>?_)
   obtain⟨D,d1,d2⟩:=hy
   refine⟨setC C k D,fun j=>?_,?_⟩
   ·unfold setC;split
    ·exact d1
    ·exact h1 j
   ·rw[hg]
    simp only[Option.bind_some,if_true,setC]
    unfold evOp
    rw[d2,Option.bind_some,←h2]
    exact Zrp l (fun j hj=>by simp only[setC];rw[if_neg (by omega)])
  | false=>
   simp only[Bool.false_eq_true,if_false]
   refine ih.mono fun s' ⟨C,h1,h2⟩=>⟨C,h1,?_⟩
   rw[hg]
   exact h2
def Zmq (P:Program) (M:Hints) (ops:Array Oper):(recs:List Rec)→(k:Nat)→List Oper→(s:St)→KM St
 | _,_,[],s=>ret s
 | recs,k,o::rest,s=>bnd (Zma s ops o) fun g=>if g.1 then (if Zas ops g.2.ep recs (Zc6 recs o) k o (touch g.2 o) (Zaf M g.2.opV o)=true then
   bnd (opK P M g.2.opV (g.2.only (touch g.2 o)) k o) fun y=>Zmq P M ops (recs++[⟨Zc6 recs o,touch g.2 o,Zaf M g.2.opV o⟩]) (k+1) rest ((g.2.merge k (touch g.2 o) (Zaf M g.2.opV o) y.2).put o.dst y.1) else fail)
  else if Zas ops g.2.ep recs (Zc6 recs o) k o [] false=true then Zmq P M ops (recs++[⟨Zc6 recs o,[],false⟩]) (k+1) rest (g.2.put o.dst (.tup [])) else fail
theorem Zx3 (hP:FuncsOk P) {ops:Array Oper}:∀(l:List Oper) {k:Nat} {s:St} {recs:List Rec},KP (Zmq P M ops recs k l s) (fun s'=>∃C:Nat→Yo,(∀j,Qz P M (C j))∧W0 P M C ops s recs k l=some s'):=by
 intro l
 induction l with
 | nil=>intro k s recs;exact Zg ⟨fun _=>Zx,fun _=>Z3 hP,rfl⟩
 | cons o l ih=>
  intro k s recs
  simp only[Zmq,W0]
  refine Za Zov (fun g hg=>?_)
  obtain⟨g,s0⟩:=g
  obtain⟨hg,hs0⟩:=hg
  simp only at hg hs0
  subst hs0
  cases g with
  | true=>
   simp only[if_true]
   refine Yg (fun ha=>Za (Zvm hP) (fun y hy=>ih.mono fun s' ⟨C,h1,h2⟩=>?_)) (fun _=>Zb)
   obtain⟨D,d1,d2⟩:=hy
   refine⟨setC C k D,fun j=>?_,?_⟩
   ·unfold setC;split
    ·exact d1
    ·exact h1 j
   ·rw[hg]
    simp only[Option.bind_some,if_true,setC,ha]
    rw[d2,Option.bind_some,←h2]
    exact Zrh l (fun j hj=>by simp only[setC];rw[if_neg (by omega)])
  | false=>
   simp only[Bool.false_eq_true,if_false]
   refine Yg (fun ha=>ih.mono fun s' ⟨C,h1,h2⟩=>⟨C,h1,?_⟩) (fun _=>Zb)
   rw[hg]
   simp only[Option.bind_some,Bool.false_eq_true,if_false,ha,if_true]
   exact h2
end
inductive It where
 | c (x:Code)
 | blk (i:Nat)
def SX (P:Program) (R:Ex→St→Prop):List It→Ex→St→Prop
 | [],e,s=>R e s
 | .c x::k,.normal,s=>Cx P x s (fun e s=>SX P R k e s)
 | .c x::k,.ret,s=>SX P R k .ret s
 | .c x::k,.exit j,s=>SX P R k (.exit j) s
 | .blk i::k,.exit j,s=>if j=i then SX P R k .normal s else SX P R k (.exit j) s
 | .blk i::k,.normal,s=>SX P R k .normal s
 | .blk i::k,.ret,s=>SX P R k .ret s
structure Res where
 stk:List It
 ex:Ex
 st:St
def mach (P:Program) (M:Hints):(n:Nat)→List It→Ex→(s:St)→KM Res
 | 0,stk,ex,s=>ret ⟨stk,ex,s⟩
 | n+1,stk,ex,s=>match stk with
  | []=>ret ⟨[],ex,s⟩
  | .blk i::k=>match ex with
   | .exit j=>if j=i then mach P M n k .normal s else mach P M n k (.exit j) s
   | .normal=>mach P M n k .normal s
   | .ret=>mach P M n k .ret s
  | .c x::k=>match ex with
   | .ret=>mach P M n k .ret s
   | .exit j=>mach P M n k (.exit j) s
   | .normal=>match x with
    | .skip=>mach P M n k .normal s
    | .ret=>mach P M n k .ret s
    | .exit i=>mach P M n k (.exit i) s
    | .seq a b=>mach P M n (.c a::.c b::k) .normal s
    | .cond c a b=>match s.opV c with
     | .lit (.bool t)=>bnd (Zpn t) fun e=>if e then mach P M n (.c a::k) .normal s else mach P M n (.c b::k) .normal s
     | _=>fail
    | .block i c=>mach P M n (.c c::.blk i::k) .normal s
    | .loop c=>mach P M n (.c c::.c (.loop c)::k) .normal s
    | .region _ ops d=>match d with
     | false=>bnd (opsK P M ops 0 ops.toList ⟨s.env,s.heap,s.ep+1⟩) fun s'=>mach P M n k .normal s'
     | true=>if Region.noSelect ops=true then bnd (Zmq P M ops [] 0 ops.toList ⟨s.env,s.heap,s.ep+1⟩) fun s'=>mach P M n k .normal s' else fail
    | _=>fail
section
variable {P:Program} {M:Hints} {R:Ex→St→Prop}
def partOf:List It→Option (Operand×Tmp×Tmp×TypeId×Operand×List It)
 | .c (.region _ ops false)::k=>match ops.toList with
  | [⟨some d0,.move x0,_,_,_,none⟩,⟨some d1,.binOp .eql t (.tmp d) y _,_,_,_,none⟩]=>if d=d0 then some (x0,d0,d1,t,y,k) else none
  | _=>none
 | _=>none
theorem Zzd (hP:FuncsOk P):∀(n:Nat) {stk:List It} {ex:Ex} {s:St},KP (mach P M n stk ex s) (fun r=>SX P R r.stk r.ex r.st→SX P R stk ex s):=by
 intro n
 induction n with
 | zero=>intro stk ex s;exact Zg id
 | succ n ih=>
  intro stk ex s
  simp only[mach]
  split
  ·exact Zg id
  ·rename_i i k
   split
   ·rename_i j
    refine Yg (fun hj=>ih.mono fun r hr h=>?_) (fun hj=>ih.mono fun r hr h=>?_)
    ·simp only[SX];rw[if_pos hj];exact hr h
    ·simp only[SX];rw[if_neg hj];exact hr h
   ·exact ih.mono fun r hr h=>hr h
   ·exact ih.mono fun r hr h=>hr h
  ·rename_i x k
   split
   ·exact ih.mono fun r hr h=>hr h
   ·exact ih.mono fun r hr h=>hr h
   ·split
    ·exact ih.mono fun r hr h=>Zyj (hr h)
    ·exact ih.mono fun r hr h=>Cx_ret (hr h)
    ·exact ih.mono fun r hr h=>Zze (hr h)
    ·refine ih.mono fun r hr h=>Cx_seq (Zm7 (hr h) fun e s h=>?_)
     cases e<;>exact h
    ·rename_i c a b
     split
     ·rename_i t hc
      refine Za Zqr (fun e he=>?_)
      subst he
      cases t with
      | true=>exact ih.mono fun r hr h=>Ztb hc (hr h)
      | false=>exact ih.mono fun r hr h=>Ztb hc (hr h)
     ·exact Zb
    ·rename_i i c
     refine ih.mono fun r hr h=>Zyc (Zm7 (hr h) fun e s h=>?_)
     cases e<;>exact h
    ·rename_i c
     refine ih.mono fun r hr h=>Zy0 (Zm7 (hr h) fun e s h=>?_)
     cases e<;>exact h
    ·rename_i i ops d
     split
     ·refine Za (Zyl hP _) (fun s' hs=>ih.mono fun r hr h=>?_)
      obtain⟨C,h1,h2⟩:=hs
      exact Cx_ops hP C h1 h2 (hr h)
     ·refine Yg (fun hn=>Za (Zx3 hP _) (fun s' hs=>ih.mono fun r hr h=>?_)) (fun _=>Zb)
      obtain⟨C,h1,h2⟩:=hs
      exact Zyu hP C h1 hn h2 (hr h)
    ·exact Zb
theorem Zpw (hP:FuncsOk P) (n:Nat) {stk:List It} {ex:Ex} {s:St}:KP (mach P M n stk ex s) (fun r=>∀R,SX P R r.stk r.ex r.st→SX P R stk ex s):=fun q a obs q' e ho R=>Zzd hP n q a obs q' e ho
def endK (P:Program) (M:Hints) (f:FuncId) (fn:Func) (xs:List V) (r:Res):KM (V×List V):=match r.stk with
 | []=>match r.ex with
  | .exit _=>fail
  | .normal=>retK P M f fn xs r.st
  | .ret=>retK P M f fn xs r.st
 | _=>fail
def runK (P:Program) (M:Hints) (f:FuncId) (fn:Func) (xs:List V) (n:Nat) (stk:List It) (s:St):KM (V×List V):=
 bnd (mach P M n stk .normal s) (endK P M f fn xs)
theorem Zy5 (hP:FuncsOk P) {f:FuncId} {fn:Func} {xs:List V} {n:Nat} {stk:List It} {s:St}:KP (runK P M f fn xs n stk s) (fun y=>SX P (RetC P M f fn xs y) stk .normal s):=by
 refine Za (Zpw hP n) (fun r hr=>?_)
 obtain⟨st,ex,s1⟩:=r
 unfold endK
 cases st with
 | cons x l=>exact Zb
 | nil=>cases ex with
  | exit i=>exact Zb
  | normal=>exact Ztc.kp.mono fun y hy=>hr _ ⟨trivial,hy⟩
  | ret=>exact Ztc.kp.mono fun y hy=>hr _ ⟨trivial,hy⟩
def told {α:Type} (x:Option (α×List Prop×List O)):Option (Prop×α):=match x with|some (a,obs,[])=>some (All obs,a)|_=>none
theorem Zte {α:Type} {x:KM α} {q:List O} {Q:α→Prop} {p:Prop} {a:α} (h:KP x Q) (e:told (x q)=some (p,a)) (hp:p):Q a:=by
 unfold told at e
 split at e
 ·rename_i b obs hx
  injection e with e
  injection e with e1 e2
  subst e2
  exact h q _ _ _ hx (by rw[e1];exact hp)
 ·cases e
theorem Zym (hP:FuncsOk P) {f:FuncId} {fn:Func} {xs:List V} {y:V×List V} {stk:List It} {s:St} {p:Prop} (n:Nat) (q:List O) (hp:p) (e:told (runK P M f fn xs n stk s q)=some (p,y)):SX P (RetC P M f fn xs y) stk .normal s:=
 Zte (x:=runK P M f fn xs n stk s) (Q:=fun y=>SX P (RetC P M f fn xs y) stk .normal s) (Zy5 hP) e hp
def ren1 (f:List (Id×Id)):V→V
 | .ptr id i off=>match renI f id with|some id'=>.ptr id' i off|none=>.undef
 | .sl id off len=>match renI f id with|some id'=>.sl id' off len|none=>(match off,len with|0,0=>.lit (.slice none 0 0)|_,_=>.undef)
 | .lit v=>.lit v
 | .tr rows=>.tr rows
 | .vw rows=>.vw rows
 | .rp sh row off=>.rp sh row off
 | _=>.undef
def renV (f:List (Id×Id)):V→V
 | .agg xs=>.agg (xs.map (ren1 f))
 | .tup xs=>.tup (xs.map (ren1 f))
 | .fn g xs=>.fn g (xs.map (ren1 f))
 | x=>ren1 f x
theorem Zn0 {f:List (Id×Id)} {x:V} (h:ren1 f x≠.undef∨x=.undef):VR1 f x (ren1 f x):=by
 cases x with
 | undef=>trivial
 | ptr id i off=>
  simp only[ren1] at h ⊢
  split
  ·rename_i id' hr;exact⟨hr,rfl,rfl⟩
  ·rename_i hr;rw[hr] at h;simp at h
 | sl id off len=>
  simp only[ren1] at h ⊢
  split
  ·rename_i id' hr;exact⟨hr,rfl,rfl⟩
  ·rename_i hr
   rw[hr] at h
   simp only at h
   split
   ·exact⟨hr,rfl,rfl⟩
   ·rename_i hne
    exfalso
    split at h
    ·rename_i h1 h2;exact hne rfl rfl
    ·simp at h
 | lit v=>rfl
 | tr rows=>rfl
 | vw rows=>rfl
 | rp sh row off=>rfl
 | agg _=>simp[ren1] at h
 | tup _=>simp[ren1] at h
 | fn _ _=>simp[ren1] at h
 | own _ _=>simp[ren1] at h
 | obx _=>simp[ren1] at h
def okV:V→Bool|.undef=>false|_=>true
theorem okV_ne {x:V} (h:okV x=true):x≠.undef:=by rintro rfl;cases h
theorem Zj9 {f:List (Id×Id)}:∀{xs:List V},(xs.map (ren1 f)).all okV=true→VRs f xs (xs.map (ren1 f)):=by
 intro xs
 induction xs with
 | nil=>intro _;trivial
 | cons x xs ih=>
  intro h
  simp only[List.map_cons,List.all_cons,Bool.and_eq_true] at h
  exact⟨Zn0 (.inl (okV_ne h.1)),ih h.2⟩
def okVs:V→Bool
 | .agg xs|.tup xs|.fn _ xs=>xs.all okV
 | x=>okV x
theorem Zzb {f:List (Id×Id)} {x:V} (h:okVs (renV f x)=true):VR f x (renV f x):=by
 cases x with
 | agg xs=>exact Zj9 h
 | tup xs=>exact Zj9 h
 | fn g xs=>exact⟨rfl,Zj9 h⟩
 | undef=>trivial
 | lit v=>rfl
 | tr rows=>rfl
 | vw rows=>rfl
 | rp sh row off=>rfl
 | own e rows=>cases h
 | obx cs=>cases h
 | ptr id i off=>exact Zn0 (x:=.ptr id i off) (.inl fun e=>by have h2:okVs (ren1 f (.ptr id i off))=true:=h;rw[e] at h2;cases h2)
 | sl id off len=>exact Zn0 (x:=.sl id off len) (.inl fun e=>by have h2:okVs (ren1 f (.sl id off len))=true:=h;rw[e] at h2;cases h2)
def renB (f:List (Id×Id)) (p:Id×Blk):Option Blk:=match renI f p.1 with
 | none=>none
 | some _=>some ⟨p.2.box,p.2.own,p.2.cl,(if p.2.box then 0 else p.2.el),if p.2.box then p.2.rows.map (fun r=>r.map (ren1 f)) else p.2.rows⟩
def wasB (f:List (Id×Id)) (S:St) (p:Id×Blk):Option Blk:=match renI f p.1 with
 | none=>none
 | some id'=>(S.heap id').map fun c=>⟨c.box,c.own,c.cl,(if c.box then 0 else c.el),c.rows⟩
def newB (f:List (Id×Id)) (p:Id×Blk):Bool:=match renI f p.1 with
 | none=>!p.2.box&&p.2.own&&(match p.2.rows with|[]=>true|_=>false)
 | some _=>if p.2.box then (match p.2.rows with|[r]=>(r.map (ren1 f)).all okV|_=>false) else true
theorem Zyp {f:List (Id×Id)} {S:St} {p:Id×Blk} (h:wasB f S p=renB f p) (hn:newB f p=true):BR f S p.1 p.2:=by
 obtain⟨id,b⟩:=p
 unfold BR
 unfold wasB renB at h
 unfold newB at hn
 simp only at h hn ⊢
 split
 ·rename_i hr
  rw[hr] at hn
  simp only[Bool.and_eq_true,Bool.not_eq_true'] at hn
  refine⟨hn.1.1,hn.1.2,?_⟩
  cases hb:b.rows with
  | nil=>rfl
  | cons x l=>rw[hb] at hn;simp at hn
 ·rename_i id' hr
  rw[hr] at h hn
  simp only at h hn
  obtain⟨c,h1,h2⟩:=Option.map_eq_some_iff.1 h
  injection h2 with e1 e2 e3 e4 e5
  refine⟨c,h1,e1,e2,e3,?_⟩
  cases hbx:b.box with
  | true=>
   rw[hbx] at hn e1 e5
   simp only[if_true] at hn e5 ⊢
   cases hb:b.rows with
   | nil=>rw[hb] at hn;cases hn
   | cons r l=>cases l with
    | cons r2 l=>rw[hb] at hn;cases hn
    | nil=>
     rw[hb] at hn e5
     exact⟨r,_,rfl,e5,Zj9 hn⟩
  | false=>
   rw[hbx] at e1 e4 e5
   rw[e1] at e4
   simp only[Bool.false_eq_true,if_false] at e4 e5 ⊢
   exact⟨e4,e5⟩
def wasL (f:List (Id×Id)) (l:List (Nat×V)) (h:List (Id×Blk)) (S:St):List V×List (Option Blk):=(l.map fun p=>S.env p.1,h.map fun p=>wasB f S p)
def renL (f:List (Id×Id)) (l:List (Nat×V)) (h:List (Id×Blk)):List V×List (Option Blk):=(l.map fun p=>renV f p.2,h.map fun p=>renB f p)
def cutB (f:List (Id×Id)) (l:List (Nat×V)) (h:List (Id×Blk)) (ep:Nat):Bool:=wkB f l h ep&&(l.all fun p=>okVs (renV f p.2))&&h.all fun p=>newB f p
theorem Zlx {α β:Type} {g1 g2:α→β} {l:List α} (h:l.map g1=l.map g2):∀x∈l,g1 x=g2 x:=by
 induction l with
 | nil=>intro x hx;simp at hx
 | cons y l ih=>
  simp only[List.map_cons,List.cons.injEq] at h
  intro x hx
  rcases List.mem_cons.1 hx with rfl|hx
  ·exact h.1
  ·exact ih h.2 x hx
theorem Zyy {f:List (Id×Id)} {l:List (Nat×V)} {h:List (Id×Blk)} {ep:Nat} {S:St} (e:wasL f l h S=renL f l h) (hb:cutB f l h ep=true):Weak f S l h ep:=by
 simp only[wasL,renL,Prod.mk.injEq] at e
 simp only[cutB,Bool.and_eq_true,List.all_eq_true] at hb
 refine⟨fun p hp=>?_,fun p hp=>Zyp (Zlx e.2 p hp) (hb.2 p hp),hb.1.1⟩
 rw[Zlx e.1 p hp]
 exact Zzb (hb.1.2 p hp)
def len1:V→KM V
 | .sl id off len=>bnd hear fun o=>match o with
  | .num n _ _ _=>bnd (obl (len=n)) fun _=>ret (.sl id off n)
  | _=>fail
 | x=>ret x
theorem Zth {x:V}:KP (len1 x) (fun y=>y=x):=by
 unfold len1
 split
 ·refine Za Ys (fun o _=>?_)
  split
  ·exact Za Zl (fun _ h=>Zg (by rw[h]))
  ·exact Zb
 ·exact Zg rfl
def lens:List V→KM (List V)
 | []=>ret []
 | x::xs=>bnd (len1 x) fun y=>bnd (lens xs) fun ys=>ret (y::ys)
theorem Znd:∀{xs:List V},KP (lens xs) (fun ys=>ys=xs):=by
 intro xs
 induction xs with
 | nil=>exact Zg rfl
 | cons x xs ih=>exact Za Zth (fun y hy=>Za ih (fun ys hys=>Zg (by rw[hy,hys])))
def lenV:V→KM V
 | .agg xs=>bnd (lens xs) fun ys=>ret (.agg ys)
 | .fn g xs=>bnd (lens xs) fun ys=>ret (.fn g ys)
 | x=>len1 x
theorem Zyf {x:V}:KP (lenV x) (fun y=>y=x):=by
 unfold lenV
 split
 ·exact Za Znd (fun y hy=>Zg (by rw[hy]))
 ·exact Za Znd (fun y hy=>Zg (by rw[hy]))
 ·exact Zth
def Zum (S:St):List (Nat×V)→KM (List V)
 | []=>ret []
 | p::l=>bnd (lenV (S.env p.1)) fun y=>bnd (Zum S l) fun ys=>ret (y::ys)
theorem Zys {S:St}:∀{l:List (Nat×V)},KP (Zum S l) (fun ys=>ys=l.map fun p=>S.env p.1):=by
 intro l
 induction l with
 | nil=>exact Zg rfl
 | cons p l ih=>exact Za Zyf (fun y hy=>Za ih (fun ys hys=>Zg (by rw[hy,hys];rfl)))
def lenB:Option Blk→KM (Option Blk)
 | some ⟨true,own,cl,el,[row]⟩=>bnd (lens row) fun r=>ret (some ⟨true,own,cl,el,[r]⟩)
 | x=>ret x
theorem Zy6 {x:Option Blk}:KP (lenB x) (fun y=>y=x):=by
 unfold lenB
 split
 ·exact Za Znd (fun r hr=>Zg (by rw[hr]))
 ·exact Zg rfl
def lenH (f:List (Id×Id)) (S:St):List (Id×Blk)→KM (List (Option Blk))
 | []=>ret []
 | p::l=>bnd (lenB (wasB f S p)) fun y=>bnd (lenH f S l) fun ys=>ret (y::ys)
theorem Zyh {f:List (Id×Id)} {S:St}:∀{l:List (Id×Blk)},KP (lenH f S l) (fun ys=>ys=l.map fun p=>wasB f S p):=by
 intro l
 induction l with
 | nil=>exact Zg rfl
 | cons p l ih=>exact Za Zy6 (fun y hy=>Za ih (fun ys hys=>Zg (by rw[hy,hys];rfl)))
def Zu7 (f:List (Id×Id)) (l:List (Nat×V)) (h:List (Id×Blk)) (r:Res):KM (List It×List V×List (Option Blk)):=match r.ex with
 | .normal=>bnd (Zum r.st l) fun vs=>bnd (lenH f r.st h) fun bs=>ret (r.stk,vs,bs)
 | _=>fail
def cutK (P:Program) (M:Hints) (f:List (Id×Id)) (l:List (Nat×V)) (h:List (Id×Blk)) (n:Nat) (stk:List It) (s:St):KM (List It×List V×List (Option Blk)):=
 bnd (mach P M n stk .normal s) (Zu7 f l h)
def isC:List It→Bool
 | .c _::_=>true
 | _=>false
theorem Zzg (hP:FuncsOk P) {stk k2:List It} {s:St} {p:Prop} {l:List (Nat×V)} {h:List (Id×Blk)} {ep:Nat} (f:List (Id×Id)) (n:Nat) (q:List O) (hp:p) (hn:SX P R k2 .normal (mkS l h ep))
  (e:told (cutK P M f l h n stk s q)=some (p,(k2,renL f l h))) (hb:(isC k2&&cutB f l h ep)=true):SX P R stk .normal s:=by
 simp only[Bool.and_eq_true] at hb
 refine Zte (x:=cutK P M f l h n stk s) (Q:=fun y=>y=(k2,renL f l h)→SX P R stk .normal s) ?_ e hp rfl
 refine Za (Zpw hP n) (fun r hr=>?_)
 obtain⟨st,ex,s1⟩:=r
 unfold Zu7
 cases ex with
 | normal=>
  refine Za Zys (fun vs hvs=>Za Zyh (fun bs hbs=>Zg fun hy=>hr _ ?_))
  simp only[Prod.mk.injEq] at hy
  simp only
  rw[hy.1]
  have hy2:wasL f l h s1=renL f l h:=by
   rw[←hy.2,hvs,hbs];rfl
  cases k2 with
  | nil=>cases hb.1
  | cons x k=>cases x with
   | blk i=>cases hb.1
   | c x=>exact Zza f (Zyy hy2 hb.2) hn
 | ret=>exact Zb
 | exit i=>exact Zb
end
end Go.Proofs.YtlcfolgfmlgncaaGreatDoor.Ev
namespace Go.Proofs.YtlcfolgfmlgncaaGreatDoor.Ev
open Go
set_option linter.unusedVariables false
section
variable {α:Type}
def idx (xs:List α) (i:Int):Option α:=if 0≤i then xs[i.toNat]? else none
def appI (sz:Nat) (xs ys:List α):Option (List α):=if (xs.length+ys.length)*sz≤140737488355328∧xs.length+ys.length≤9223372036854775807 then some (xs++ys) else none
def Z7 (xs:List α) (l h:Int):Option (List α):=if 0≤l∧l≤h∧h.toNat≤xs.length then some ((xs.drop l.toNat).take (h.toNat - l.toNat)) else none
def setO (xs:List α) (i:Int) (a:α):Option (List α):=some (xs.set i.toNat a)
def lenE {β:Type} (xs:List α) (ys:List β):Option Unit:=if xs.length=ys.length then some () else none
end
def strL (l:List UInt8):ByteArray:=⟨l.toArray⟩
def FU:Nat:=18446744073709551616
def w64 (n:Int):Int:=IntKind.i64.wrap n
def w8 (n:Int):Int:=IntKind.u8.wrap n
def addW (a b:Int):Int:=IntKind.i64.wrap (a+b)
def subW (a b:Int):Int:=IntKind.i64.wrap (a - b)
def mulW (a b:Int):Int:=IntKind.i64.wrap (a*b)
def quoW (a b:Int):Int:=IntKind.i64.wrap (a.tdiv b)
def remW (a b:Int):Int:=a.tmod b
def andW (a b:Int):Int:=IntKind.i64.wrap ((BitVec.ofInt IntKind.i64.bits a &&& BitVec.ofInt IntKind.i64.bits b).toNat)
def xorW (a b:Int):Int:=IntKind.i64.wrap ((BitVec.ofInt IntKind.i64.bits a ^^^ BitVec.ofInt IntKind.i64.bits b).toNat)
def shlW (a b:Int):Int:=IntKind.i64.wrap (a*2^min b.toNat IntKind.i64.bits)
def shrW (a b:Int):Int:=a.fdiv (2^min b.toNat IntKind.i64.bits)
def negW (a:Int):Int:=IntKind.i64.wrap (0 - a)
def minI (x y:Int):Int:=if y < x then y else x
def nzI (b:Int):Option Unit:=if b=0 then none else some ()
def nnI (b:Int):Option Unit:=if 0≤b then some () else none
def atS (b:ByteArray) (i:Int):Option Int:=if 0≤i then (b[i.toNat]?).map fun c=>(c.toNat:Int) else none
def subS (b:ByteArray) (l h:Int):Option ByteArray:=if 0≤l∧l≤h∧h.toNat≤b.size then some (b.extract l.toNat h.toNat) else none
def strB (xs:List Int):ByteArray:=⟨(xs.map fun n=>UInt8.ofNat n.toNat).toArray⟩
def catI (a b:ByteArray):Option Unit:=if ((a.size+b.size:Nat):Int) > IntKind.i64.max then none else some ()
theorem Zwl {n:Int} (h1:-9223372036854775808≤n) (h2:n < 9223372036854775808):w64 n=n:=by
 simp[w64,IntKind.wrap,IntKind.bits,IntKind.signed];omega
end Go.Proofs.YtlcfolgfmlgncaaGreatDoor.Ev
namespace Go.Proofs.YtlcfolgfmlgncaaGreatDoor.Ev
open Go Go.RowKit KM
set_option linter.unusedVariables false
set_option linter.unusedSimpArgs false
set_option linter.unusedSectionVars false
variable [Anchor]
abbrev il (n:Int):V:=.lit (.int .i64 n)
abbrev bl (b:Bool):V:=.lit (.bool b)
section
variable {P:Program} {M:Hints}
def entS (M:Hints) (f:FuncId) (xs:List V):St:=(St.enters ⟨fun _=>.undef,fun _=>none,0⟩ 0 (M.modes f) xs).getD ⟨fun _=>.undef,fun _=>none,0⟩
theorem Zw8 (hP:FuncsOk P) {f:FuncId} {fn:Func} {c:Code} {xs:List V} {r:V} {os:List V} (hfn:P.funcs[f]?=some fn) (hc:fn.body=some c) (hs:(St.enters ⟨fun _=>.undef,fun _=>none,0⟩ 0 (M.modes f) xs).isSome=true)
  (h:SX P (RetC P M f fn xs (r,os)) [.c c] .normal (entS M f xs)):Fine P M (f,xs,r,os):=by
 obtain⟨s1,h1⟩:=Option.isSome_iff_exists.1 hs
 refine Zy3 hP hfn hc h1 ?_
 have:entS M f xs=s1:=by unfold entS;rw[h1];rfl
 rw[←this]
 exact h
end
theorem Zx1 {α β:Type} {x:Option α} {f:α→Option β} {b:β} (h:x.bind f=some b):∃a,x=some a∧f a=some b:=Option.bind_eq_some_iff.1 h
theorem Zxp {β:Type} {t:Bool} {x y:Option β} {b:β} (h:(if t=true then x else y)=some b):(t=true∧x=some b)∨(t=false∧y=some b):=by
 cases t with
 | true=>exact .inl ⟨rfl,h⟩
 | false=>exact .inr ⟨rfl,h⟩
section
variable {α:Type}
theorem ixn {xs:List α} {i:Int} {a:α} (h:idx xs i=some a):Yh (il i)=some i.toNat:=by
 unfold idx at h
 split at h
 ·rename_i h0;simp[Yh,h0]
 ·cases h
theorem ixr (e:α→List V) {xs:List α} {i:Int} {a:α} (h:idx xs i=some a):(xs.map e)[i.toNat]?=some (e a):=by
 unfold idx at h
 split at h
 ·rw[List.getElem?_map,h];rfl
 ·cases h
theorem ixl (e:α→List V) {xs:List α} {i:Int} {a:α} (h:idx xs i=some a):i.toNat < (xs.map e).length:=(List.getElem?_eq_some_iff.1 (ixr e h)).1
theorem lenr (e:α→List V) (xs:List α):(xs.map e).length=xs.length:=List.length_map ..
theorem alr (n:Nat) {e:α→List V} (he:∀a,(e a).length=n) (xs:List α):J6 n (xs.map e)=true:=by
 unfold J6
 rw[List.all_eq_true]
 intro r hr
 obtain⟨a,_,rfl⟩:=List.mem_map.1 hr
 simp[he]
theorem apm (e:α→List V) {sz:Nat} {xs ys zs:List α} (h:appI sz xs ys=some zs):xs.map e++ys.map e=zs.map e:=by
 unfold appI at h
 split at h
 ·injection h with h;rw[←h,List.map_append]
 ·cases h
theorem apl (e:α→List V) {sz:Nat} {xs ys zs:List α} (h:appI sz xs ys=some zs):((xs.map e).length+(ys.map e).length)*sz≤140737488355328∧(xs.map e).length+(ys.map e).length≤9223372036854775807:=by
 unfold appI at h
 split at h
 ·rename_i hh;simpa using hh
 ·cases h
theorem sln {xs ys:List α} {l h:Int} (e:Z7 xs l h=some ys):Yh (il l)=some l.toNat∧Yh (il h)=some h.toNat:=by
 unfold Z7 at e
 split at e
 ·rename_i h0
  refine⟨by simp[Yh,h0.1],?_⟩
  have:0≤h:=by omega
  simp[Yh,this]
 ·cases e
theorem sll (en:α→List V) {xs ys:List α} {l h:Int} (e:Z7 xs l h=some ys):l.toNat≤h.toNat∧h.toNat≤(xs.map en).length:=by
 unfold Z7 at e
 split at e
 ·rename_i h0
  rw[List.length_map]
  omega
 ·cases e
theorem slr (en:α→List V) {xs ys:List α} {l h:Int} (e:Z7 xs l h=some ys):((xs.map en).drop l.toNat).take (h.toNat - l.toNat)=ys.map en:=by
 unfold Z7 at e
 split at e
 ·injection e with e;rw[←e,List.map_take,List.map_drop]
 ·cases e
end
def encI (n:Int):List V:=[.lit (.int .i64 n)]
def encU (n:Int):List V:=[.lit (.int .u8 n)]
def encS (b:ByteArray):List V:=[.lit (.string b)]
theorem J5 (n:Int):(encI n).length=1:=rfl
theorem Zxx (n:Int):(encU n).length=1:=rfl
theorem Xe (n:ByteArray):(encS n).length=1:=rfl
abbrev iu (n:Int):V:=.lit (.int .u8 n)
abbrev ss (b:ByteArray):V:=.lit (.string b)
theorem six {b:ByteArray} {i m:Int} (h:atS b i=some m):sidx b (il i)=some m:=by
 unfold atS at h
 unfold sidx
 split at h
 ·rename_i h0
  show (if 0≤i then some i.toNat else none).bind _=_
  rw[if_pos h0]
  exact h
 ·cases h
theorem ssx {b c:ByteArray} {l h:Int} (e:subS b l h=some c):ssl b (some (il l)) (some (il h))=some c:=by
 unfold subS at e
 split at e
 ·rename_i h0
  unfold ssl
  show ((if 0≤h then some h.toNat else none).bind fun h=>(if 0≤l then some l.toNat else none).bind fun l=>_)=_
  rw[if_pos (by omega),if_pos h0.1]
  simp only[Option.bind_some]
  rw[if_pos (by omega)]
  exact e
 ·cases e
theorem ssxl {b c:ByteArray} {h:Int} (e:subS b 0 h=some c):ssl b none (some (il h))=some c:=by
 have:=ssx e
 unfold ssl at this ⊢
 exact this
theorem ssxh {b c:ByteArray} {l:Int} (e:subS b l (b.size:Int)=some c):ssl b (some (il l)) none=some c:=by
 have:=ssx e
 unfold ssl at this ⊢
 exact this
theorem stx (xs:List Int):strV (xs.map fun n=>[V.lit (.int .u8 n)])=some (strB xs):=by
 have:Zdg (xs.map fun n=>[V.lit (.int .u8 n)])=some (xs.map fun n=>UInt8.ofNat n.toNat):=by
  induction xs with
  | nil=>rfl
  | cons x xs ih=>
   unfold Zdg at ih ⊢
   simp only[List.map_cons,Zeh]
   rw[ih]
   rfl
 unfold strV
 rw[this]
 rfl
section
variable {α:Type}
theorem seto (e:α→List V) {xs ys:List α} {i:Int} {a:α} (h:setO xs i a=some ys):(xs.map e).set i.toNat (e a)=ys.map e:=by
 unfold setO at h
 injection h with h
 rw[←h,List.map_set]
theorem setl (e:α→List V) {xs ys:List α} {i:Int} {a:α} (h:setO xs i a=some ys):(xs.map e).length=(ys.map e).length:=by
 rw[←seto e h,List.length_set]
theorem lz (e:α→List V) {xs:List α} (h:decide (xs.length=0)=true):(xs.map e).length=0:=by
 rw[List.length_map];exact of_decide_eq_true h
theorem lnz (e:α→List V) {xs:List α} (h:decide (xs.length=0)=false):(xs.map e).length≠0:=by
 rw[List.length_map];exact of_decide_eq_false h
theorem ixc (e:α→List V) {xs ys:List α} {i:Int} {a:α} (h:idx ys i=some a) (hl:(xs.map e).length=(ys.map e).length):i.toNat < (xs.map e).length:=hl▸ixl e h
theorem lenq (e:α→List V) {xs ys:List α} {u:Unit} (h:lenE xs ys=some u):(xs.map e).length=(ys.map e).length:=by
 unfold lenE at h
 split at h
 ·rename_i hh;simpa using hh
 ·cases h
end
section
variable {α:Type}
end
def ks:Nat→List O→List O
 | 0,l=>l
 | n+1,l=>.k::ks n l
def Scr (q:List O) (p:Prop):Prop:=p
theorem ee:Scr [] True:=trivial
section
variable {q:List O} {p:Prop} {α:Type}
theorem kk (n:Nat) (k:Scr q p):Scr (ks n q) p:=k
theorem gg {c b:Bool} (h:c=b) (k:Scr q p):Scr (.t b::q) (c=b∧p):=⟨h,k⟩
theorem rr {P:Program} {M:Hints} {y:FuncId×List V×V×List V} (h:Fine P M y) (k:Scr q p):Scr (.res y.2.2.1 y.2.2.2::q) (Fine P M y∧p):=⟨h,k⟩
theorem xb (e:α→List V) {xs:List α} {i:Int} {a:α} (h:idx xs i=some a) (k:Scr q p):Scr (.row i.toNat (e a)::q) (Yh (il i)=some i.toNat∧(xs.map e)[i.toNat]?=some (e a)∧p):=⟨ixn h,ixr e h,k⟩
theorem xd (e:α→List V) {xs:List α} {i:Int} {a:α} (h:idx xs i=some a) (k:Scr q p):Scr (.row i.toNat (e a)::.cell (e a)::q) (Yh (il i)=some i.toNat∧i.toNat < (xs.map e).length∧(xs.map e)[i.toNat]?=some (e a)∧(xs.map e)[i.toNat]?=some (e a)∧p):=⟨ixn h,ixl e h,ixr e h,ixr e h,k⟩
theorem xp (e:α→List V) {xs ys:List α} {i:Int} {a b:α} (h:idx xs i=some a) (h2:setO xs i b=some ys) (k:Scr q p):Scr (.row i.toNat (e a)::.put (e a) (ys.map e)::q) (Yh (il i)=some i.toNat∧i.toNat < (xs.map e).length∧(xs.map e)[i.toNat]?=some (e a)∧(xs.map e)[i.toNat]?=some (e a)∧(xs.map e).set i.toNat (e b)=ys.map e∧p):=⟨ixn h,ixl e h,ixr e h,ixr e h,seto e h2,k⟩
theorem xq (e:α→List V) {xs:List α} {i:Int} {a:α} (h:idx xs i=some a) (ys:List α) (k:Scr q p):Scr (.row i.toNat (e a)::.put (e a) (ys.map e)::q) (Yh (il i)=some i.toNat∧i.toNat < (xs.map e).length∧(xs.map e)[i.toNat]?=some (e a)∧(xs.map e)[i.toNat]?=some (e a)∧p):=⟨ixn h,ixl e h,ixr e h,ixr e h,k⟩
theorem ln (e:α→List V) (xs:List α) (k:Scr q p):Scr (.num (xs.map e).length 0 0 []::q) ((xs.map e).length=(xs.map e).length∧p):=⟨rfl,k⟩
theorem lr (e:α→List V) (xs:List α) (k:Scr q p):Scr (.num xs.length 0 0 []::q) ((xs.map e).length=xs.length∧p):=⟨lenr e xs,k⟩
theorem tp (x:O) (k:Scr q p):Scr (x::q) p:=k
theorem ta (e:α→List V) (ys zs:List α) (k:Scr q p):Scr (.app (ys.map e) true (zs.map e) (zs.map e).length::q) p:=k
theorem oa (n:Nat) {e:α→List V} (he:∀a,(e a).length=n) (x:α) (k:Scr q p):Scr q (1=([x].map e).length∧[x].map e=[x].map e∧J6 n ([x].map e)=true∧p):=⟨rfl,rfl,alr n he [x],k⟩
theorem ox (e:α→List V) {sz:Nat} {xs ys zs:List α} (h:appI sz xs ys=some zs) (k:Scr q p):Scr q ((xs.map e).length=(xs.map e).length∧(((xs.map e).length+(ys.map e).length)*sz≤140737488355328∧(xs.map e).length+(ys.map e).length≤9223372036854775807)∧xs.map e++ys.map e=zs.map e∧p):=⟨rfl,apl e h,apm e h,k⟩
theorem oe (e:α→List V) (xs:List α) (k:Scr q p):Scr q ((xs.map e).length=(xs.map e).length∧p):=⟨rfl,k⟩
theorem ob {a:Prop} (h:a) (k:Scr q p):Scr q (a∧p):=⟨h,k⟩
end
theorem nz0 {b:Int} {u:Unit} (h:nzI b=some u):b≠0:=by
 unfold nzI at h;split at h
 ·cases h
 ·assumption
theorem nn0 {b:Int} {u:Unit} (h:nnI b=some u):0≤b:=by
 unfold nnI at h;split at h
 ·assumption
 ·cases h
theorem cat0 {a b:ByteArray} {u:Unit} (h:catI a b=some u):¬((a.size+b.size:Nat):Int) > IntKind.i64.max:=by
 unfold catI at h;split at h
 ·cases h
 ·assumption
def Zqz (f:Func):Code:=f.body.getD .skip
def at_:List Nat→Code→List It→List It
 | 0::p,.seq a b,k=>at_ p a (.c b::k)
 | _::p,.seq _ b,k=>at_ p b k
 | 0::p,.cond _ a _,k=>at_ p a k
 | _::p,.cond _ _ b,k=>at_ p b k
 | _::p,.block i c,k=>at_ p c (.blk i::k)
 | _::p,.loop c,k=>at_ p c (.c (.loop c)::k)
 | _,c,k=>.c c::k
end Go.Proofs.YtlcfolgfmlgncaaGreatDoor.Ev
namespace Go.Proofs.YtlcfolgfmlgncaaGreatDoor.Ev
open Go Go.RowKit
set_option linter.unusedVariables false
set_option linter.unusedSimpArgs false
set_option linter.unusedSectionVars false
variable [Anchor]
section
variable {P:Program} {M:Hints} {w:World} {ok top:Nat→Prop}
theorem Znn:∀{us:List Value} {xs:List V},us.length=xs.length→OutsR P w ok top [] us xs (xs.map fun _=>V.undef) []
 | [],[],_=>.nil
 | u::us,x::xs,h=>.cons (f1:=[]) (f2:=[]) rfl (Znn (by simpa using h))
theorem Zni {ms:List Mode} {us:List Value} {xs:List V} {G:List Nat} (h:ArgsR P w ok top ms us xs G):ms=[]→us.length=xs.length∧G=[]∧∀(j:Nat) (u:Value) (x:V),us[j]?=some u→xs[j]?=some x→∀ρ,En w ok ρ u x:=by
 induction h with
 | nil=>intro _;exact⟨rfl,rfl,fun j u x hu=>by simp at hu⟩
 | cons h hs ih=>
  intro hm
  subst hm
  obtain⟨h1,rfl,h2⟩:=ih rfl
  obtain⟨h3,rfl⟩:=h
  refine⟨by simp[h1],rfl,fun j u x hu hx=>?_⟩
  cases j with
  | zero=>simp at hu hx;subst hu;subst hx;exact h3
  | succ j=>exact h2 j u x (by simpa using hu) (by simpa using hx)
theorem Zkb {f:FuncId} {xs:List V} {v:Value} {x:V} (hfn:∃fn,P.funcs[f]?=some fn∧fn.body.isSome=true) (hm:M.modes f=[]) (hv:∀(w':World) (ok top:Nat→Prop),ResR P w' ok top v x [])
  (h:∀(w:World) (us:List Value) (ok:Nat→Prop),Anch w (fun _=>False)→(∀g,ok g→g < w.heap.size)→us.length=xs.length→(∀(j:Nat) (u:Value) (x:V),us[j]?=some u→xs[j]?=some x→∀ρ,En w ok ρ u x)→
   Calls P f us.toArray w (fun e w'=>e=.returned v∧Below w.heap.size w w')):Fine P M (f,xs,x,xs.map fun _=>.undef):=by
 refine⟨hfn,?_⟩
 show J9 P (M.modes f) f xs x _
 rw[hm]
 intro w us G T X ok hT hargs hGn hG hok hX
 obtain⟨hl,rfl,he⟩:=Zni hargs rfl
 have:=h w us.toList ok ⟨hT.1,hT.2.1,fun g hg=>hg.elim⟩ (fun g hg=>(hok g hg).1) hl he
 rw[Array.toArray_toList] at this
 exact this.mono fun e w' ⟨he,hb⟩=>⟨v,he,⟨⟨hb.os,hb.tape,hb.output,hb.size,fun k hk _=>hb.block k hk⟩,ok,T,[],[],hv w' ok T,Znn hl,by simp,fun g hg=>by simp at hg,fun g hg=>.inl hg,fun g hg=>⟨Nat.lt_of_lt_of_le (hok g hg).1 hb.size,(hok g hg).2⟩⟩⟩
theorem Znj {v:Value} (hv:Xq v=true) (w':World) (ok top:Nat→Prop):ResR P w' ok top v (.lit v) []:=show Giv P w' ok top v (.lit v) [] from .lit hv
theorem Zfd:∀l:List ByteArray,(l.map encS).flatten=l.map fun x=>V.lit (.string x)
 | []=>rfl
 | a::l=>by simp only[List.map_cons,List.flatten_cons,Zfd l];rfl
theorem Zwr {f:FuncId} {xs:List V} {e:TypeId} {l:List ByteArray} (hfn:∃fn,P.funcs[f]?=some fn∧fn.body.isSome=true) (hm:M.modes f=[]) (hlen:l.length≤maxLen)
  (h:∀(w:World) (us:List Value) (ok:Nat→Prop),Anch w (fun _=>False)→(∀g,ok g→g < w.heap.size)→us.length=xs.length→(∀(j:Nat) (u:Value) (x:V),us[j]?=some u→xs[j]?=some x→∀ρ,En w ok ρ u x)→
   Calls P f us.toArray w (fun r w'=>r=.returned (.slice (some ⟨w.heap.size,0,none⟩) l.length l.length)∧w'=w.alloc (.cells (l.map Value.string).toArray e))):Fine P M (f,xs,.tr (l.map encS),xs.map fun _=>.undef):=by
 refine⟨hfn,?_⟩
 show J9 P (M.modes f) f xs (.tr (l.map encS)) _
 rw[hm]
 intro w us G T X ok hT hargs hGn hG hok hX
 obtain⟨hl,rfl,he⟩:=Zni hargs rfl
 have:=h w us.toList ok ⟨hT.1,hT.2.1,fun g hg=>hg.elim⟩ (fun g hg=>(hok g hg).1) hl he
 rw[Array.toArray_toList] at this
 refine this.mono fun r w' ⟨hr,hw⟩=>⟨_,hr,?_⟩
 subst hw
 have hs:=Zat w (.cells (l.map Value.string).toArray e)
 have hat:=Zhl w (.cells (l.map Value.string).toArray e)
 have hXs:¬X w.heap.size:=fun hx=>by
  obtain⟨cur,t,hc⟩:=hX _ hx
  have:=(Array.getElem?_eq_some_iff.1 hc).1
  omega
 refine⟨(Left.refl w.heap.size T w).alloc (Nat.le_refl _) _,fun g=>ok g∨g=w.heap.size,fun _=>False,[],[],?_,Znn hl,by simp,fun g hg=>by simp at hg,fun g hg=>hg.elim,fun g hg=>?_⟩
 ·show Giv P _ (fun g=>ok g∨g=w.heap.size) _ _ (.tr (l.map encS)) []
  refine .tr (.tr (u:=fun k=>(l.map Value.string)[k]?.getD (.bool false)) (sz:=1) (by simp) (Nat.le_refl _) hlen (fun r hr=>?_) (.inr rfl) (fun k x hx=>?_) (fun k x hx=>?_))
  ·obtain⟨v,_,rfl⟩:=List.mem_map.1 hr;rfl
  ·rw[Zfd,List.getElem?_map] at hx
   obtain⟨y,hy,rfl⟩:=Option.map_eq_some_iff.1 hx
   have hk:(l.map Value.string)[k]?=some (.string y):=by rw[List.getElem?_map,hy];rfl
   rw[hk]
   unfold World.cell?
   rw[hat]
   simp[hk]
  ·rw[Zfd,List.getElem?_map] at hx
   obtain⟨y,hy,rfl⟩:=Option.map_eq_some_iff.1 hx
   have hk:(l.map Value.string)[k]?=some (.string y):=by rw[List.getElem?_map,hy];rfl
   rw[hk]
   exact .lit rfl
 ·rcases hg with hg|rfl
  ·exact⟨by have:=(hok g hg).1;omega,fun h=>h,(hok g hg).2.2⟩
  ·exact⟨by omega,fun h=>h,hXs⟩
theorem Zdl {ρ:Rho} {u v:Value} (h:En w ok ρ u (.lit v)):u=v:=by cases h;rfl
theorem Zyk {ρ:Rho} {u:Value} {l:List ByteArray} (h:En w ok ρ u (.tr (l.map encS))):
  (∃A c,u=.slice A 0 c∧l=[])∨∃g o c,u=.slice (some ⟨g,o,none⟩) l.length c∧ok g∧l.length≤c∧∀(j:Nat) x,l[j]?=some x→w.cell? ⟨g,o+j,none⟩=some (.string x):=by
 cases h with
 | tr h=>
  have hf:(l.map encS).flatten=l.map fun x=>V.lit (.string x):=Zfd l
  generalize hq:l.map encS=rows at h
  cases h with
  | emp=>exact .inl ⟨_,_,rfl,by simpa using hq⟩
  | @tr g o n c sz rows u hn hc hm hs hg hu hr=>
   subst hq
   rw[hf] at hu hr
   have hn':n=l.length:=by rw[←hn];simp
   subst hn'
   refine .inr ⟨g,o,c,rfl,hg,hc,fun j x hx=>?_⟩
   have h1:(l.map fun x=>V.lit (.string x))[j]?=some (V.lit (.string x)):=by rw[List.getElem?_map,hx];rfl
   rw[hu j _ h1]
   have:=hr j _ h1
   generalize u j=q at this
   cases this;rfl
theorem Zx5 {w:World} {ok ok' top top':Nat→Prop} {ms:List Mode} {us:List Value} {xs os:List V} {fo:List Nat} (h:OutsR P w ok top ms us xs os fo):ms=[]→fo=[]∧OutsR P w ok' top' [] us xs os []:=by
 induction h with
 | nil=>intro _;exact⟨rfl,.nil⟩
 | cons h hs ih=>
  intro hm
  subst hm
  obtain⟨rfl,h2⟩:=ih rfl
  have h1:_=[]:=h
  subst h1
  exact⟨rfl,.cons (f1:=[]) (f2:=[]) rfl h2⟩
theorem Zxi {f:FuncId} {xs:List V} {e:TypeId} {rows:List (List V)} {os:List V} (hm:M.modes f=[]) (h:Fine P M (f,xs,.own e rows,os)):Fine P M (f,xs,.tr rows,os):=by
 refine⟨h.1,?_⟩
 have hc:J9 P (M.modes f) f xs (.own e rows) os:=h.2
 show J9 P (M.modes f) f xs (.tr rows) os
 rw[hm] at hc ⊢
 intro w us G T X ok hT hargs hGn hG hok hX
 have hG0:G=[]:=(Zni hargs rfl).2.1
 refine (hc w us G T X ok hT hargs hGn hG hok hX).mono fun r w' ⟨v,hr,hd⟩=>⟨v,hr,⟨hd.left,?_⟩⟩
 obtain⟨ok',top',fr,fo,h1,h2,h3,h4,h5,h6⟩:=hd.ex
 have h1:Giv P w' ok' top' v (.own e rows) fr:=h1
 obtain⟨rfl,h2'⟩:=Zx5 (ok':=fun g=>ok' g∨g∈fr) (top':=fun g=>top' g∧g ∉ fr) h2 rfl
 subst hG0
 refine⟨fun g=>ok' g∨g∈fr,fun g=>top' g∧g ∉ fr,[],[],?_,h2',by simp,fun g hg=>by simp at hg,fun g hg=>h5 g hg.1,fun g hg=>?_⟩
 ·show Giv P w' _ _ v (.tr rows) []
  cases h1 with
  | own h _=>exact .tr (h.ow.rd fun g hg=>.inr hg)
 ·rcases hg with hg|hg
  ·exact⟨(h6 g hg).1,fun hh=>(h6 g hg).2.1 hh.1,(h6 g hg).2.2⟩
  ·have hk:=h4 g (by simpa using hg)
   refine⟨hk.1,fun hh=>hh.2 hg,fun hx=>?_⟩
   obtain⟨cur,t,hh⟩:=hX g hx
   have:=(Array.getElem?_eq_some_iff.1 hh).1
   rcases hk.2 with hk|hk
   ·simp at hk
   ·omega
end
end Go.Proofs.YtlcfolgfmlgncaaGreatDoor.Ev
namespace Go.Proofs.YtlcfolgfmlgncaaGreatDoor.Ev
open Go Go.Proofs
set_option linter.unusedVariables false
structure GL1Cur where
 b:List Int
 i:Int
 h:Int
 deriving DecidableEq
structure GMConf where
 weight:Int
 prio:Bool
 every:Int
 cap:Int
 deriving DecidableEq
structure GConf where
 masters:List GMConf
 quantum:Int
 maxWait:Int
 maxRetry:Int
 maxSplit:Int
 lockMost:Int
 deriving DecidableEq
structure GReq where
 write:Bool
 addr:Int
 size:Int
 burst:Int
 lock:Bool
 data_:List Int
 deriving DecidableEq
structure GPost where
 at_:Int
 who:Int
 req:GReq
 deriving DecidableEq
structure GScript where
 posts:List GPost
 waits:List Int
 says:List Int
 deriving DecidableEq
abbrev GReq.z0:GReq:=⟨false,0,0,0,false,[]⟩
abbrev GScript.z0:GScript:=⟨[],[],[]⟩
def Zm6 (x0:List Int):Option Bool:=
 some (decide ((x0.length:Int) > 1048576))
def Zbc (x0:List Int) (k_L1:Int→Int→Option GL1Cur) (v0:Int) (v1:Int) (v2:Bool):Option GL1Cur:=
 if v2=true then (
  (idx x0 v1).bind fun a0=>
  k_L1 (andW (addW (addW (mulW v0 131) (w64 a0)) 7) 1073741823) (addW v1 1))
 else (
  some (GL1Cur.mk x0 0 v0))
def Zcr (x0:List Int)  (k:Int→Int→Option GL1Cur) (v0:Int) (v1:Int):Option GL1Cur:=
 if decide (v1 < (x0.length:Int))=true then (
  Zbc x0 k v0 v1 (decide (v1 < 4000)))
 else (
  Zbc x0 k v0 v1 false)
def Q0 (x0:List Int)  : Nat→Int→Int→Option GL1Cur
 | 0,_,_=>none
 | m+1,v0,v1=>Zcr x0  (Q0 x0  m) v0 v1
def Zdh (x0:List Int):Option GL1Cur:=
 Q0 x0 FU (addW 10101 (x0.length:Int)) 0
def Xz (x0:GL1Cur):Option (Int×GL1Cur):=
 if decide (x0.i < (x0.b.length:Int))=true then (
  (idx x0.b x0.i).bind fun a0=>
  some ((andW (addW (andW (xorW (shrW (addW (mulW x0.h 6364136223846793005) 1442695040888963407) 33) (shrW (addW (mulW x0.h 6364136223846793005) 1442695040888963407) 45)) 255) (w64 a0)) 255),(GL1Cur.mk x0.b (addW x0.i 1) (addW (mulW x0.h 6364136223846793005) 1442695040888963407))))
 else (
  some ((andW (xorW (shrW (addW (mulW x0.h 6364136223846793005) 1442695040888963407) 33) (shrW (addW (mulW x0.h 6364136223846793005) 1442695040888963407) 45)) 255),{x0 with h:=(addW (mulW x0.h 6364136223846793005) 1442695040888963407)}))
def Zd (x0:GL1Cur) (x1:Int):Option (Int×GL1Cur):=
 if decide (x1≤0)=true then (
  some (0,x0))
 else (
  if decide (x1≤256)=true then (
   (Xz x0).bind fun r0=>
   (nzI x1).bind fun n0=>
   some ((remW r0.1 x1),r0.2))
  else (
   (Xz x0).bind fun r1=>
   (Xz r1.2).bind fun r2=>
   (Xz r2.2).bind fun r3=>
   (Xz r3.2).bind fun r4=>
   (nzI x1).bind fun n1=>
   some ((remW (addW (addW (addW (mulW r1.1 16777216) (mulW r2.1 65536)) (mulW r3.1 256)) r4.1) x1),r4.2)))
def Kd (x0:GL1Cur) (x1:Int):Option (Bool×GL1Cur):=
 (Zd x0 x1).bind fun r0=>
 some (decide (r0.1=0),r0.2)
def Qv (x0:Int) (x1:Int) (x2:Int):Option Bool:=
 if decide (x0≥x1)=true then (
  some (decide (x0≤x2)))
 else (
  some false)
def Zau (x0:GConf)  (v0:Bool):Option Int:=
 if v0=true then (
  some 0)
 else (
  some (mulW (addW x0.maxRetry 2) (addW x0.maxWait 6)))
def Zb7 (x0:GConf):Option Int:=
 (Qv x0.maxRetry 0 3).bind fun r0=>
 if (!r0)=true then (
  Zau x0 true)
 else (
  (Qv x0.maxWait 0 3).bind fun r1=>
  Zau x0 (!r1))
def Zd7 (x0:GConf):Option Int:=
 (Zb7 x0).bind fun r0=>
 if decide (r0=0)=true then (
  some 0)
 else (
  (Qv x0.lockMost 1 40).bind fun r1=>
  if (!r1)=true then (
   some 0)
  else (
   (Zb7 x0).bind fun r2=>
   some (addW (mulW 2 r2) x0.lockMost)))
def Zb9 (x0:GL1Cur)  (k:GL1Cur→GConf→Int→Option (GConf×GL1Cur)) (vb0:GL1Cur) (vb1:GConf) (v0:Int):Option (GConf×GL1Cur):=
 if decide (v0 > 0)=true then (
  (Zd vb0 3).bind fun r0=>
  (appI 32 vb1.masters [(GMConf.mk (addW 1 r0.1) false 0 0)]).bind fun z0=>
  k r0.2 {vb1 with masters:=z0} (subW v0 1))
 else (
  (Kd vb0 2).bind fun r1=>
  if r1.1=true then (
   (Zd r1.2 (vb1.masters.length:Int)).bind fun r2=>
   (idx vb1.masters r2.1).bind fun a0=>
   (setO vb1.masters r2.1 {a0 with prio:=true}).bind fun y0=>
   (Zd7 {vb1 with masters:=y0}).bind fun r3=>
   (Zd r2.2 30).bind fun r4=>
   (idx y0 r2.1).bind fun a1=>
   (setO y0 r2.1 {a1 with every:=(addW (mulW 2 r3) r4.1)}).bind fun y1=>
   (Zd r4.2 4).bind fun r5=>
   (idx y1 r2.1).bind fun a2=>
   (setO y1 r2.1 {a2 with cap:=(addW 1 r5.1)}).bind fun y2=>
   some ({vb1 with masters:=y2},r5.2))
  else (
   some (vb1,r1.2)))
def Qo (x0:GL1Cur)  : Nat→GL1Cur→GConf→Int→Option (GConf×GL1Cur)
 | 0,_,_,_=>none
 | m+1,vb0,vb1,v0=>Zb9 x0  (Qo x0  m) vb0 vb1 v0
def Zcf (x0:GL1Cur):Option (GConf×GL1Cur):=
 (Zd x0 3).bind fun r6=>
 (Zd r6.2 3).bind fun r7=>
 (Zd r7.2 3).bind fun r8=>
 (Zd r8.2 6).bind fun r9=>
 (Zd r9.2 12).bind fun r10=>
 (Zd r10.2 4).bind fun r11=>
 Qo x0 FU r11.2 (GConf.mk [] (addW 1 r6.1) r7.1 r8.1 (addW 1 r9.1) (addW 1 r10.1)) (addW 1 r11.1)
def Zt (x0:GL1Cur) (x1:List Int):Option (Int×GL1Cur):=
 (Zd x0 (x1.length:Int)).bind fun r0=>
 (idx x1 r0.1).bind fun a0=>
 some (a0,r0.2)
def Zfi (x0:GL1Cur):Option (GConf×GL1Cur):=
 (Zcf x0).bind fun r0=>
 (Zd r0.2 14).bind fun r1=>
 if decide (r1.1=0)=true then (
  (Zt r1.2 [0,5]).bind fun r2=>
  (idx r0.1.masters 0).bind fun a0=>
  (setO r0.1.masters 0 {a0 with weight:=r2.1}).bind fun y0=>
  some ({r0.1 with masters:=y0},r2.2))
 else (
  if decide (r1.1=1)=true then (
   (idx r0.1.masters 0).bind fun a1=>
   (setO r0.1.masters 0 {a1 with prio:=(!a1.prio)}).bind fun y1=>
   some ({r0.1 with masters:=y1},r1.2))
  else (
   if decide (r1.1=2)=true then (
    (Zt r1.2 [0,5,4]).bind fun r3=>
    some ({r0.1 with quantum:=r3.1},r3.2))
   else (
    if decide (r1.1=3)=true then (
     (Zt r1.2 [(-1),4,3]).bind fun r4=>
     some ({r0.1 with maxWait:=r4.1},r4.2))
    else (
     if decide (r1.1=4)=true then (
      (Zt r1.2 [0,13]).bind fun r5=>
      some ({r0.1 with maxSplit:=r5.1},r5.2))
     else (
      if decide (r1.1=5)=true then (
       some ({r0.1 with masters:=[]},r1.2))
      else (
       if decide (r1.1=6)=true then (
        (Zt r1.2 [(-1),4,3]).bind fun r6=>
        some ({r0.1 with maxRetry:=r6.1},r6.2))
       else (
        some (r0.1,r1.2))))))))
def Zch (x0:GL1Cur) (x1:Int)  (k:GL1Cur→(List Int)→Int→Option (List Int×GL1Cur)) (vb0:GL1Cur) (v0:List Int) (v1:Int):Option (List Int×GL1Cur):=
 if decide (v1 > 0)=true then (
  (Zd vb0 x1).bind fun r0=>
  (appI 8 v0 [r0.1]).bind fun z0=>
  k r0.2 z0 (subW v1 1))
 else (
  some (v0,vb0))
def Qm (x0:GL1Cur) (x1:Int)  : Nat→GL1Cur→(List Int)→Int→Option (List Int×GL1Cur)
 | 0,_,_,_=>none
 | m+1,vb0,v0,v1=>Zch x0 x1  (Qm x0 x1  m) vb0 v0 v1
def Jc (x0:GL1Cur) (x1:Int):Option (List Int×GL1Cur):=
 (Zd x0 6).bind fun r1=>
 Qm x0 x1 FU r1.2 [] r1.1
def Xu (x0:Int):Option Int:=
 (Qv x0 0 2).bind fun r0=>
 if (!r0)=true then (
  some 0)
 else (
  (nnI x0).bind fun n0=>
  some (shlW 1 x0))
def Xt (x0:Int):Option Int:=
 (Qv x0 0 3).bind fun r0=>
 if (!r0)=true then (
  some 0)
 else (
  (idx [1,4,4,8] x0).bind fun a0=>
  some a0)
def Zc3 (x0:Int) (x1:Int):Option Bool:=
 (Xu x1).bind fun r0=>
 if decide (r0 > 0)=true then (
  if decide (x0≥0)=true then (
   (Xu x1).bind fun r1=>
   (nzI r1).bind fun n0=>
   some (decide ((remW x0 r1)=0)))
  else (
   some false))
 else (
  some false)
def Jd (x0:Int) (x1:Int) (x2:Int)  (v0:Int) (v1:Bool):Option Int:=
 if v1=true then (
  some (subW (addW x0 v0) (mulW 4 v0)))
 else (
  some (addW x0 v0))
def Qt (x0:Int) (x1:Int) (x2:Int)  (v0:Int) (v2:Bool):Option Int:=
 if v2=true then (
  some (-1))
 else (
  if decide (x2=2)=true then (
   (nzI (mulW 4 v0)).bind fun n0=>
   Jd x0 x1 x2 v0 (decide ((remW (addW x0 v0) (mulW 4 v0))=0)))
  else (
   Jd x0 x1 x2 v0 false))
def J7 (x0:Int) (x1:Int) (x2:Int):Option Int:=
 (Xu x1).bind fun r0=>
 (Zc3 x0 x1).bind fun r1=>
 if (!r1)=true then (
  Qt x0 x1 x2 r0 true)
 else (
  (Qv x0 0 511).bind fun r2=>
  if (!r2)=true then (
   Qt x0 x1 x2 r0 true)
  else (
   (Xt x2).bind fun r3=>
   Qt x0 x1 x2 r0 (decide (r3=0))))
def Wr (x0:Int) (x1:Int) (x2:Int) (k_L1:Int→(List Int)→Option (List Int)) (v0:Int) (v1:List Int) (v2:Bool):Option (List Int):=
 if v2=true then (
  (appI 8 v1 [v0]).bind fun z0=>
  (J7 v0 x1 x2).bind fun r0=>
  k_L1 r0 z0)
 else (
  (Xt x2).bind fun r1=>
  if decide ((v1.length:Int) < r1)=true then (
   some [])
  else (
   some v1))
def X9 (x0:Int) (x1:Int) (x2:Int)  (k:Int→(List Int)→Option (List Int)) (v0:Int) (v1:List Int):Option (List Int):=
 (Xt x2).bind fun r2=>
 if decide ((v1.length:Int) < r2)=true then (
  (J7 v0 x1 x2).bind fun r3=>
  Wr x0 x1 x2 k v0 v1 (decide (r3≥0)))
 else (
  Wr x0 x1 x2 k v0 v1 false)
def Q6 (x0:Int) (x1:Int) (x2:Int)  : Nat→Int→(List Int)→Option (List Int)
 | 0,_,_=>none
 | m+1,v0,v1=>X9 x0 x1 x2  (Q6 x0 x1 x2  m) v0 v1
def Zai (x0:Int) (x1:Int) (x2:Int):Option (List Int):=
 Q6 x0 x1 x2 FU x0 []
def Zbh (x0:Int) (x1:Int) (x2:Int)  (k:(List Int)→Int→Option Bool) (v0:List Int) (v1:Int):Option Bool:=
 if decide (v1 < (v0.length:Int))=true then (
  (idx v0 v1).bind fun a0=>
  (idx v0 0).bind fun a1=>
  if decide ((quoW a0 64)≠(quoW a1 64))=true then (
   some false)
  else (
   k v0 (addW v1 1)))
 else (
  some (decide ((v0.length:Int) > 0)))
def J1 (x0:Int) (x1:Int) (x2:Int)  : Nat→(List Int)→Int→Option Bool
 | 0,_,_=>none
 | m+1,v0,v1=>Zbh x0 x1 x2  (J1 x0 x1 x2  m) v0 v1
def Za0 (x0:Int) (x1:Int) (x2:Int):Option Bool:=
 (Zai x0 x1 x2).bind fun r0=>
 J1 x0 x1 x2 FU r0 0
def Kj (x0:Int):Option Int:=
 (Xu x0).bind fun r0=>
 if decide (r0=0)=true then (
  some 0)
 else (
  (Xu x0).bind fun r1=>
  (nnI (mulW 8 r1)).bind fun n0=>
  some (shlW 1 (mulW 8 r1)))
def Zbg (x0:GL1Cur) (k_L1:GL1Cur→GReq→Int→Option (GReq×GL1Cur)) (vb0:GL1Cur) (vb1:GReq) (v0:Int) (v1:Bool):Option (GReq×GL1Cur):=
 if v1=true then (
  (Kj vb1.size).bind fun r0=>
  (Kj vb1.size).bind fun r1=>
  (Zt vb0 [(minI r0 1000),r1]).bind fun r2=>
  (Zd r2.2 r2.1).bind fun r3=>
  (appI 8 vb1.data_ [r3.1]).bind fun z0=>
  k_L1 r3.2 {vb1 with data_:=z0} (addW v0 1))
 else (
  some (vb1,vb0))
def Zcu (x0:GL1Cur)  (k:GL1Cur→GReq→Int→Option (GReq×GL1Cur)) (vb0:GL1Cur) (vb1:GReq) (v0:Int):Option (GReq×GL1Cur):=
 (Xt vb1.burst).bind fun r4=>
 if decide (v0 < r4)=true then (
  Zbg x0 k vb0 vb1 v0 vb1.write)
 else (
  Zbg x0 k vb0 vb1 v0 false)
def Q2 (x0:GL1Cur)  : Nat→GL1Cur→GReq→Int→Option (GReq×GL1Cur)
 | 0,_,_,_=>none
 | m+1,vb0,vb1,v0=>Zcu x0  (Q2 x0  m) vb0 vb1 v0
def Ji (x0:GL1Cur)  (vb0:GL1Cur) (vb1:GReq):Option (GReq×GL1Cur):=
 Q2 x0 FU vb0 vb1 0
def Zbp (x0:GL1Cur):Option (GReq×GL1Cur):=
 (Kd x0 2).bind fun r5=>
 (Zt r5.2 [2,2,2,0,1]).bind fun r6=>
 (Zt r6.2 [0,0,1,2,3]).bind fun r7=>
 (Kd r7.2 6).bind fun r8=>
 (Xu r6.1).bind fun r9=>
 (Zd r8.2 128).bind fun r10=>
 (Zd r10.2 128).bind fun r11=>
 (Zd r11.2 64).bind fun r12=>
 (Zd r12.2 40).bind fun r13=>
 (Zd r13.2 512).bind fun r14=>
 (Zt r14.2 [r10.1,r11.1,(addW 128 r12.1),(addW 192 r13.1),r14.1]).bind fun r15=>
 (nzI r9).bind fun n0=>
 (Za0 (mulW (quoW r15.1 r9) r9) r6.1 r7.1).bind fun r16=>
 if (!r16)=true then (
  Ji x0 r15.2 (GReq.mk r5.1 (mulW (quoW r15.1 r9) r9) r6.1 0 r8.1 []))
 else (
  Ji x0 r15.2 (GReq.mk r5.1 (mulW (quoW r15.1 r9) r9) r6.1 r7.1 r8.1 []))
def Qu (x0:GL1Cur) (x1:GConf) (k_L1:GL1Cur→GScript→Int→Int→Option (GScript×GL1Cur×GConf)) (vb0:GL1Cur) (vb1:GScript) (v0:Int) (v1:Int) (v2:Bool):Option (GScript×GL1Cur×GConf):=
 if v2=true then (
  (Zt vb0 [0,0,1,2,9]).bind fun r0=>
  (Zd r0.2 (x1.masters.length:Int)).bind fun r1=>
  (Zbp r1.2).bind fun r2=>
  (appI 80 vb1.posts [(GPost.mk (addW v0 r0.1) r1.1 r2.1)]).bind fun z0=>
  k_L1 r2.2 {vb1 with posts:=z0} (addW v0 r0.1) (subW v1 1))
 else (
  some (vb1,vb0,x1))
def Ko (x0:GL1Cur) (x1:GConf)  (k:GL1Cur→GScript→Int→Int→Option (GScript×GL1Cur×GConf)) (vb0:GL1Cur) (vb1:GScript) (v0:Int) (v1:Int):Option (GScript×GL1Cur×GConf):=
 if decide (v1 > 0)=true then (
  Qu x0 x1 k vb0 vb1 v0 v1 (decide ((x1.masters.length:Int) > 0)))
 else (
  Qu x0 x1 k vb0 vb1 v0 v1 false)
def Y0 (x0:GL1Cur) (x1:GConf)  : Nat→GL1Cur→GScript→Int→Int→Option (GScript×GL1Cur×GConf)
 | 0,_,_,_,_=>none
 | m+1,vb0,vb1,v0,v1=>Ko x0 x1  (Y0 x0 x1  m) vb0 vb1 v0 v1
def Qs (x0:GL1Cur) (x1:GConf):Option (GScript×GL1Cur×GConf):=
 (Jc x0 5).bind fun r3=>
 (Jc r3.2 5).bind fun r4=>
 (Zd r4.2 6).bind fun r5=>
 Y0 x0 x1 FU r5.2 (GScript.mk [] r3.1 r4.1) 0 r5.1
def Za1 (x0:GL1Cur):Option (Int×GL1Cur):=
 (Zd x0 6).bind fun r0=>
 some ((subW r0.1 1),r0.2)
def Zbo (x0:GL1Cur):Option (GReq×GL1Cur):=
 (Zbp x0).bind fun r0=>
 (Zd r0.2 12).bind fun r1=>
 if decide (r1.1=0)=true then (
  (Zt r1.2 [(-4),510,512,61]).bind fun r2=>
  some ({r0.1 with addr:=r2.1},r2.2))
 else (
  if decide (r1.1=1)=true then (
   some ({r0.1 with write:=(!r0.1.write)},r1.2))
  else (
   if decide (r1.1=2)=true then (
    (Za1 r1.2).bind fun r3=>
    some ({r0.1 with size:=r3.1},r3.2))
   else (
    if decide (r1.1=3)=true then (
     (Za1 r1.2).bind fun r4=>
     some ({r0.1 with burst:=r4.1},r4.2))
    else (
     if decide (r1.1=4)=true then (
      (appI 8 r0.1.data_ [1]).bind fun z0=>
      some ({r0.1 with data_:=z0},r1.2))
     else (
      some (r0.1,r1.2))))))
def Zbt (x0:GL1Cur) (x1:GConf):Option (GScript×GL1Cur×GConf):=
 (Qs x0 x1).bind fun r0=>
 if decide ((r0.1.posts.length:Int)=0)=true then (
  some (r0.1,r0.2.1,x1))
 else (
  (Zd r0.2.1 (r0.1.posts.length:Int)).bind fun r1=>
  (Zd r1.2 14).bind fun r2=>
  if decide (r2.1=0)=true then (
   (Zt r2.2 [(-1),0,99,4001]).bind fun r3=>
   (idx r0.1.posts r1.1).bind fun a0=>
   (setO r0.1.posts r1.1 {a0 with at_:=r3.1}).bind fun y0=>
   some ({r0.1 with posts:=y0},r3.2,x1))
  else (
   if decide (r2.1=1)=true then (
    (Zd r2.2 6).bind fun r4=>
    (idx r0.1.posts r1.1).bind fun a1=>
    (setO r0.1.posts r1.1 {a1 with who:=(subW r4.1 1)}).bind fun y1=>
    some ({r0.1 with posts:=y1},r4.2,x1))
   else (
    if decide (r2.1=2)=true then (
     (Zbo r2.2).bind fun r5=>
     (idx r0.1.posts r1.1).bind fun a2=>
     (setO r0.1.posts r1.1 {a2 with req:=r5.1}).bind fun y2=>
     some ({r0.1 with posts:=y2},r5.2,x1))
    else (
     some (r0.1,r2.2,x1)))))
def Zay (x0:GL1Cur) (x1:GConf) (k_L1:GL1Cur→GScript→Int→Int→Option (GScript×GL1Cur×GConf)) (vb0:GL1Cur) (vb1:GScript) (v0:Int) (v1:Int) (v2:Bool):Option (GScript×GL1Cur×GConf):=
 if v2=true then (
  (Zt vb0 [0,0,1,2,9]).bind fun r0=>
  (Zd r0.2 (x1.masters.length:Int)).bind fun r1=>
  (Zbp r1.2).bind fun r2=>
  (appI 80 vb1.posts [(GPost.mk (addW v0 r0.1) r1.1 r2.1)]).bind fun z0=>
  k_L1 r2.2 {vb1 with posts:=z0} (addW v0 r0.1) (subW v1 1))
 else (
  some (vb1,vb0,x1))
def Zdq (x0:GL1Cur) (x1:GConf)  (k:GL1Cur→GScript→Int→Int→Option (GScript×GL1Cur×GConf)) (vb0:GL1Cur) (vb1:GScript) (v0:Int) (v1:Int):Option (GScript×GL1Cur×GConf):=
 if decide (v1 > 0)=true then (
  Zay x0 x1 k vb0 vb1 v0 v1 (decide ((x1.masters.length:Int) > 0)))
 else (
  Zay x0 x1 k vb0 vb1 v0 v1 false)
def X2 (x0:GL1Cur) (x1:GConf)  : Nat→GL1Cur→GScript→Int→Int→Option (GScript×GL1Cur×GConf)
 | 0,_,_,_,_=>none
 | m+1,vb0,vb1,v0,v1=>Zdq x0 x1  (X2 x0 x1  m) vb0 vb1 v0 v1
def Za9 (x0:GL1Cur) (x1:GConf):Option (GScript×GL1Cur×GConf):=
 (Jc x0 5).bind fun r3=>
 (Jc r3.2 5).bind fun r4=>
 (Zd r4.2 6).bind fun r5=>
 X2 x0 x1 FU r5.2 (GScript.mk [] r3.1 r4.1) 0 r5.1
def Kt (x0:GL1Cur) (x1:GConf)  (vb0:GL1Cur) (vpers_0_64:List GMConf) (vb1:GScript):Option (GScript×GL1Cur×GConf):=
 if decide ((vb1.posts.length:Int)=0)=true then (
  (lenE x1.masters vpers_0_64).bind fun e0=>
  some (vb1,vb0,{x1 with masters:=vpers_0_64}))
 else (
  (Zd vb0 (vb1.posts.length:Int)).bind fun r0=>
  (Zd r0.2 14).bind fun r1=>
  if decide (r1.1=0)=true then (
   (Zt r1.2 [(-1),0,99,4001]).bind fun r2=>
   (idx vb1.posts r0.1).bind fun a0=>
   (setO vb1.posts r0.1 {a0 with at_:=r2.1}).bind fun y0=>
   (lenE x1.masters vpers_0_64).bind fun e0=>
   some ({vb1 with posts:=y0},r2.2,{x1 with masters:=vpers_0_64}))
  else (
   if decide (r1.1=1)=true then (
    (Zd r1.2 6).bind fun r3=>
    (idx vb1.posts r0.1).bind fun a1=>
    (setO vb1.posts r0.1 {a1 with who:=(subW r3.1 1)}).bind fun y1=>
    (lenE x1.masters vpers_0_64).bind fun e0=>
    some ({vb1 with posts:=y1},r3.2,{x1 with masters:=vpers_0_64}))
   else (
    if decide (r1.1=2)=true then (
     (Zbo r1.2).bind fun r4=>
     (idx vb1.posts r0.1).bind fun a2=>
     (setO vb1.posts r0.1 {a2 with req:=r4.1}).bind fun y2=>
     (lenE x1.masters vpers_0_64).bind fun e0=>
     some ({vb1 with posts:=y2},r4.2,{x1 with masters:=vpers_0_64}))
    else (
     (lenE x1.masters vpers_0_64).bind fun e0=>
     some (vb1,r1.2,{x1 with masters:=vpers_0_64})))))
def Zaq (x0:GL1Cur) (x1:GConf):Option (GScript×GL1Cur×GConf):=
 if decide (x1.masters.length=0)=true then (
  (Qs x0 {x1 with masters:=[]}).bind fun r5=>
  Kt x0 x1 r5.2.1 x1.masters r5.1)
 else (
  (Za9 x0 x1).bind fun r5=>
  (lenE x1.masters r5.2.2.masters).bind fun q0=>
  Kt x0 x1 r5.2.1 r5.2.2.masters r5.1)
def Zb2 (x0:GL1Cur):Option (GConf×GScript×GL1Cur):=
 (Zcf x0).bind fun r0=>
 (Kd r0.2 16).bind fun r1=>
 if r1.1=true then (
  (Zfi r1.2).bind fun r2=>
  if decide (r2.1.masters.length=0)=true then (
   (Zbt r2.2 {r2.1 with masters:=[]}).bind fun r3=>
   some (r2.1,r3.1,r3.2.1))
  else (
   (Zaq r2.2 r2.1).bind fun r3=>
   (lenE r2.1.masters r3.2.2.masters).bind fun q0=>
   some ({r2.1 with masters:=r3.2.2.masters},r3.1,r3.2.1)))
 else (
  if decide (r0.1.masters.length=0)=true then (
   (Zbt r1.2 {r0.1 with masters:=[]}).bind fun r3=>
   some (r0.1,r3.1,r3.2.1))
  else (
   (Zaq r1.2 r0.1).bind fun r3=>
   (lenE r0.1.masters r3.2.2.masters).bind fun q1=>
   some ({r0.1 with masters:=r3.2.2.masters},r3.1,r3.2.1)))
def Q9 (x0:List Int):Option GScript:=
 (Zdh x0).bind fun r0=>
 (Zb2 r0).bind fun r1=>
 some r1.2.1
def Zak (x0:Int):Option ByteArray:=if -9223372036854775808≤x0∧x0≤9223372036854775807 then some ⟨(Lib.itoa x0).toArray⟩ else none
def Zcl (x0:Int):Option ByteArray:=
 (Zak x0).bind fun r0=>
 some r0
def Zba (x0:List Int)  (k:(List ByteArray)→Int→Option (List ByteArray)) (v0:List ByteArray) (v1:Int):Option (List ByteArray):=
 if decide (v1 < (x0.length:Int))=true then (
  (idx x0 v1).bind fun a0=>
  (Zcl a0).bind fun r0=>
  (appI 16 v0 [r0]).bind fun z0=>
  k z0 (addW v1 1))
 else (
  some v0)
def Zci (x0:List Int)  : Nat→(List ByteArray)→Int→Option (List ByteArray)
 | 0,_,_=>none
 | m+1,v0,v1=>Zba x0  (Zci x0  m) v0 v1
def Zcy (x0:List Int):Option (List ByteArray):=
 Zci x0 FU [] 0
def Xa (x0:List ByteArray) (x1:ByteArray):Option ByteArray:=if x0.length≤140737488355328∧(Lib.join (x0.map (·.data.toList)) x1.data.toList).length≤140737488355328 then some ⟨(Lib.join (x0.map (·.data.toList)) x1.data.toList).toArray⟩ else none
def Zab (x0:ByteArray) (x1:List Int):Option ByteArray:=
 if decide ((x1.length:Int)=0)=true then (
  some ByteArray.empty)
 else (
  (catI x0 (strL [32])).bind fun n0=>
  (Zcy x1).bind fun r0=>
  (Xa r0 (strL [32])).bind fun r1=>
  (catI (x0++(strL [32])) r1).bind fun n1=>
  (catI ((x0++(strL [32]))++r1) (strL [10])).bind fun n2=>
  some (((x0++(strL [32]))++r1)++(strL [10])))
def Jb (x0:Int) (x1:Int) (x2:Int):Option Bool:=
 if decide (x1≤x0)=true then (
  some (decide (x0≤x2)))
 else (
  some false)
def Jo (x0:Int):Option Int:=
 (Jb x0 0 3).bind fun r0=>
 if (!r0)=true then (
  some 0)
 else (
  (idx [1,4,4,8] x0).bind fun a0=>
  some a0)
def Qh (x0:Int):Option Int:=
 (Jb x0 0 2).bind fun r0=>
 if (!r0)=true then (
  some 0)
 else (
  (nnI x0).bind fun n0=>
  some (shlW 1 x0))
def Zc8 (x0:Int) (x1:Int):Option Bool:=
 (Jb x1 0 2).bind fun r0=>
 if r0=true then (
  if decide (x0≥0)=true then (
   (Qh x1).bind fun r1=>
   (nzI r1).bind fun n0=>
   some (decide ((remW x0 r1)=0)))
  else (
   some false))
 else (
  some false)
def Qr (x0:Int) (x1:Int) (x2:Int)  (v0:Bool):Option Int:=
 if v0=true then (
  some (-1))
 else (
  (Qh x1).bind fun r0=>
  (Qh x1).bind fun r1=>
  if decide (x2=2)=true then (
   (nzI (mulW 4 r1)).bind fun n0=>
   if decide ((remW (addW x0 r0) (mulW 4 r1))=0)=true then (
    some (subW (addW x0 r0) (mulW 4 r1)))
   else (
    some (addW x0 r0)))
  else (
   some (addW x0 r0)))
def Zb3 (x0:Int) (x1:Int) (x2:Int):Option Int:=
 (Zc8 x0 x1).bind fun r2=>
 if (!r2)=true then (
  Qr x0 x1 x2 true)
 else (
  if decide (x0≥512)=true then (
   Qr x0 x1 x2 true)
  else (
   (Jo x2).bind fun r3=>
   Qr x0 x1 x2 (decide (r3=0))))
def X8 (x0:Int) (x1:Int) (x2:Int)  (k:Int→(List Int)→Int→Int→Option (List Int)) (v0:Int) (v1:List Int) (v2:Int) (v3:Int):Option (List Int):=
 if decide (v3 < v2)=true then (
  (Zb3 v0 x1 x2).bind fun r0=>
  if decide (r0 < 0)=true then (
   some [])
  else (
   (appI 8 v1 [v0]).bind fun z0=>
   k r0 z0 v2 (addW v3 1)))
 else (
  some v1)
def Ke (x0:Int) (x1:Int) (x2:Int)  : Nat→Int→(List Int)→Int→Int→Option (List Int)
 | 0,_,_,_,_=>none
 | m+1,v0,v1,v2,v3=>X8 x0 x1 x2  (Ke x0 x1 x2  m) v0 v1 v2 v3
def Zap (x0:Int) (x1:Int) (x2:Int):Option (List Int):=
 (Jo x2).bind fun r1=>
 Ke x0 x1 x2 FU x0 [] r1 0
def Zbm (x0:Int) (x1:Int) (x2:Int)  (k:(List Int)→Int→Int→Option Bool) (v0:List Int) (v1:Int) (v2:Int):Option Bool:=
 if decide (v2 < v1)=true then (
  (idx v0 v2).bind fun a0=>
  (idx v0 0).bind fun a1=>
  if decide ((quoW a0 64)≠(quoW a1 64))=true then (
   some false)
  else (
   k v0 v1 (addW v2 1)))
 else (
  some (decide ((v0.length:Int) > 0)))
def J0 (x0:Int) (x1:Int) (x2:Int)  : Nat→(List Int)→Int→Int→Option Bool
 | 0,_,_,_=>none
 | m+1,v0,v1,v2=>Zbm x0 x1 x2  (J0 x0 x1 x2  m) v0 v1 v2
def Zdc (x0:Int) (x1:Int) (x2:Int):Option Bool:=
 (Zap x0 x1 x2).bind fun r0=>
 J0 x0 x1 x2 FU r0 (r0.length:Int) 0
def Zde (x0:Int):Option Int:=
 (Qh x0).bind fun r0=>
 if decide (r0=0)=true then (
  some 0)
 else (
  (Qh x0).bind fun r1=>
  (nnI (mulW 8 r1)).bind fun n0=>
  some (shlW 1 (mulW 8 r1)))
def Zf1 (x0:Int) (x1:Int):Option Bool:=
 (Zde x1).bind fun r0=>
 (Jb x0 0 (subW r0 1)).bind fun r1=>
 some r1
def Zc1 (x0:Int) (x1:GReq):Option Bool:=
 (Zf1 x0 x1.size).bind fun r0=>
 some (!r0)
def Kr (x0:List Int) (x1c0:GReq)  (k:Int→Option Int) (v0:Int):Option Int:=
 if decide (v0 < (x0.length:Int))=true then (
  (idx x0 v0).bind fun a0=>
  (Zc1 a0 x1c0).bind fun r0=>
  if r0=true then (
   some v0)
  else (
   k (addW v0 1)))
 else (
  some (-1))
def Yu (x0:List Int) (x1c0:GReq)  : Nat→Int→Option Int
 | 0,_=>none
 | m+1,v0=>Kr x0 x1c0  (Yu x0 x1c0  m) v0
def Y6 (x0:List Int) (x1c0:GReq):Option Int:=
 Yu x0 x1c0 FU 0
def Yc (x0:List Int) (x1c0:GReq):Option Bool:=
 (Y6 x0 x1c0).bind fun r0=>
 some (decide (r0≥0))
def Za8 (x0:GReq)  (v0:Int):Option Bool:=
 (Zdc x0.addr x0.size x0.burst).bind fun r0=>
 if r0=true then (
  if decide ((x0.data_.length:Int)=v0)=true then (
   (Yc x0.data_ x0).bind fun r1=>
   some (!r1))
  else (
   some false))
 else (
  some false)
def Zbu (x0:GReq):Option Bool:=
 if x0.write=true then (
  (Jo x0.burst).bind fun r2=>
  Za8 x0 r2)
 else (
  Za8 x0 0)
def Zbe (x0:Bool):Option ByteArray:=
 if x0=true then (
  some (strL [119,114,105,116,101]))
 else (
  some (strL [114,101,97,100]))
def Qy  : Option (List ByteArray):=
 some [(strL [98,121,116,101]),(strL [104,97,108,102]),(strL [119,111,114,100])]
def Qn  : Option (List ByteArray):=
 some [(strL [111,110,101]),(strL [102,111,117,114]),(strL [119,114,97,112]),(strL [101,105,103,104,116])]
def Jl (x0:GReq):Option ByteArray:=
 (Zbu x0).bind fun r0=>
 if (!r0)=true then (
  some ByteArray.empty)
 else (
  (Zbe x0.write).bind fun r1=>
  (Qy).bind fun r2=>
  (idx r2 x0.size).bind fun a0=>
  (Qn).bind fun r3=>
  (idx r3 x0.burst).bind fun a1=>
  (Zcl x0.addr).bind fun r4=>
  if x0.lock=true then (
   (appI 16 [r1,a0,a1,r4] [(strL [108,111,99,107])]).bind fun z0=>
   (Zcy x0.data_).bind fun r5=>
   (appI 16 z0 r5).bind fun z1=>
   (Xa z1 (strL [32])).bind fun r6=>
   some r6)
  else (
   (Zcy x0.data_).bind fun r5=>
   (appI 16 [r1,a0,a1,r4] r5).bind fun z1=>
   (Xa z1 (strL [32])).bind fun r6=>
   some r6))
def Jt (x0:GScript)  (k:ByteArray→Int→Option ByteArray) (v0:ByteArray) (v1:Int):Option ByteArray:=
 if decide (v1 < (x0.posts.length:Int))=true then (
  (idx x0.posts v1).bind fun a0=>
  (Jl a0.req).bind fun r0=>
  if (r0.toList == ByteArray.empty.toList)=true then (
   some ByteArray.empty)
  else (
   (Zcl a0.at_).bind fun r1=>
   (catI (strL [112,111,115,116,32]) r1).bind fun n0=>
   (catI ((strL [112,111,115,116,32])++r1) (strL [32])).bind fun n1=>
   (Zcl a0.who).bind fun r2=>
   (catI (((strL [112,111,115,116,32])++r1)++(strL [32])) r2).bind fun n2=>
   (catI ((((strL [112,111,115,116,32])++r1)++(strL [32]))++r2) (strL [32])).bind fun n3=>
   (catI (((((strL [112,111,115,116,32])++r1)++(strL [32]))++r2)++(strL [32])) r0).bind fun n4=>
   (catI ((((((strL [112,111,115,116,32])++r1)++(strL [32]))++r2)++(strL [32]))++r0) (strL [10])).bind fun n5=>
   (catI v0 (((((((strL [112,111,115,116,32])++r1)++(strL [32]))++r2)++(strL [32]))++r0)++(strL [10]))).bind fun n6=>
   k (v0++(((((((strL [112,111,115,116,32])++r1)++(strL [32]))++r2)++(strL [32]))++r0)++(strL [10]))) (addW v1 1)))
 else (
  some v0)
def Wu (x0:GScript)  : Nat→ByteArray→Int→Option ByteArray
 | 0,_,_=>none
 | m+1,v0,v1=>Jt x0  (Wu x0  m) v0 v1
def Qp (x0:GScript):Option ByteArray:=
 (Zab (strL [119,97,105,116,115]) x0.waits).bind fun r3=>
 (Zab (strL [115,97,121,115]) x0.says).bind fun r4=>
 (catI r3 r4).bind fun n7=>
 Wu x0 FU (r3++r4) 0
def Yz (x0:ByteArray) (x1:ByteArray):Option ByteArray:=if x0.size≤9223372036854775807 then some ⟨(Lib.trimSuffix x0.data.toList x1.data.toList).toArray⟩ else none
def Xx (x0:ByteArray) (x1:ByteArray):Option (List ByteArray):=if x0.size < 4294967281∧1≤x1.size then some (Lib.splitB x1 0 (Lib.countB x0 x1) x0) else none
def Wj (x0:ByteArray) (x1:Int):Option (Int×Bool):=if x0.size≤281474976710656 then (match Lib.atoiAll x0.data.toList with
 | .ok v=>if Lib.itoa v=x0.data.toList∧((Lib.trimPrefix x0.data.toList [45]).length:Int)≤x1 then some (v,true) else some (0,false)
 | _=>some (0,false)) else none
def We (x0:List ByteArray)  (k:(List Int)→Int→Option (List Int×Bool)) (v0:List Int) (v1:Int):Option (List Int×Bool):=
 if decide (v1 < (x0.length:Int))=true then (
  (idx x0 v1).bind fun a0=>
  (Wj a0 18).bind fun r0=>
  if (!r0.2)=true then (
   some ([],false))
  else (
   (appI 8 v0 [r0.1]).bind fun z0=>
   k z0 (addW v1 1)))
 else (
  some (v0,true))
def W2 (x0:List ByteArray)  : Nat→(List Int)→Int→Option (List Int×Bool)
 | 0,_,_=>none
 | m+1,v0,v1=>We x0  (W2 x0  m) v0 v1
def Kk (x0:List ByteArray):Option (List Int×Bool):=
 W2 x0 FU [] 0
def Z0 (x0:List ByteArray) (x1:ByteArray)  (k:Int→Option Int) (v0:Int):Option Int:=
 if decide (v0 < (x0.length:Int))=true then (
  (idx x0 v0).bind fun a0=>
  if (x1.toList == a0.toList)=true then (
   some v0)
  else (
   k (addW v0 1)))
 else (
  some (-1))
def Z2 (x0:List ByteArray) (x1:ByteArray)  : Nat→Int→Option Int
 | 0,_=>none
 | m+1,v0=>Z0 x0 x1  (Z2 x0 x1  m) v0
def Zw (x0:List ByteArray) (x1:ByteArray):Option Int:=
 Z2 x0 x1 FU 0
def Xw (x0:ByteArray)  (vb0:GReq) (v0:List ByteArray) (v1:List ByteArray):Option (GReq×Bool):=
 (idx v0 3).bind fun a0=>
 (Wj a0 18).bind fun r0=>
 (Kk v1).bind fun r1=>
 if (!r0.2)=true then (
  some (GReq.z0,false))
 else (
  if (!r1.2)=true then (
   some (GReq.z0,false))
  else (
   (Zbu {vb0 with addr:=r0.1,data_:=r1.1}).bind fun r2=>
   if (!r2)=true then (
    some (GReq.z0,false))
   else (
    (Jl {vb0 with addr:=r0.1,data_:=r1.1}).bind fun r3=>
    if (!(r3.toList == x0.toList))=true then (
     some (GReq.z0,false))
    else (
     some ({vb0 with addr:=r0.1,data_:=r1.1},true)))))
def Xi (x0:ByteArray)  (vb0:GReq) (v0:List ByteArray) (v1:List ByteArray) (v2:Bool):Option (GReq×Bool):=
 if v2=true then (
  (Z7 v1 1 (v1.length:Int)).bind fun s0=>
  Xw x0 {vb0 with lock:=true} v0 s0)
 else (
  Xw x0 vb0 v0 v1)
def Jr (x0:ByteArray):Option (GReq×Bool):=
 (Xx x0 (strL [32])).bind fun r4=>
 if decide ((r4.length:Int) < 4)=true then (
  some (GReq.z0,false))
 else (
  (idx r4 0).bind fun a1=>
  (Qy).bind fun r5=>
  (idx r4 1).bind fun a2=>
  (Zw r5 a2).bind fun r6=>
  (Qn).bind fun r7=>
  (idx r4 2).bind fun a3=>
  (Zw r7 a3).bind fun r8=>
  (Z7 r4 4 (r4.length:Int)).bind fun s1=>
  if decide ((s1.length:Int) > 0)=true then (
   (idx s1 0).bind fun a4=>
   Xi x0 (GReq.mk (a1.toList == (strL [119,114,105,116,101]).toList) 0 r6 r8 false []) r4 s1 (a4.toList == (strL [108,111,99,107]).toList))
  else (
   Xi x0 (GReq.mk (a1.toList == (strL [119,114,105,116,101]).toList) 0 r6 r8 false []) r4 s1 false))
def Wq (x0:ByteArray) (k_L1:GScript→(List ByteArray)→Int→Int→Option (GScript×Bool)) (vb0:GScript) (vb1:GReq) (v0:List Int) (v1:List ByteArray) (v2:Int) (v3:Int) (v4:Bool):Option (GScript×Bool):=
 if v4=true then (
  some (GScript.z0,false))
 else (
  (idx v0 0).bind fun a0=>
  (idx v0 1).bind fun a1=>
  (appI 80 vb0.posts [(GPost.mk a0 a1 vb1)]).bind fun z0=>
  k_L1 {vb0 with posts:=z0} v1 v2 (addW v3 1))
def Y7 (x0:ByteArray) (k_L1:GScript→(List ByteArray)→Int→Int→Option (GScript×Bool)) (vb0:GScript) (v5:List ByteArray) (v1:List ByteArray) (v2:Int) (v3:Int) (v6:Bool):Option (GScript×Bool):=
 if v6=true then (
  (Z7 v5 1 (v5.length:Int)).bind fun s0=>
  (Kk s0).bind fun r0=>
  if (!r0.2)=true then (
   some (GScript.z0,false))
  else (
   (idx v5 0).bind fun a2=>
   if (a2.toList == (strL [119,97,105,116,115]).toList)=true then (
    k_L1 {vb0 with waits:=r0.1} v1 v2 (addW v3 1))
   else (
    k_L1 {vb0 with says:=r0.1} v1 v2 (addW v3 1))))
 else (
  k_L1 vb0 v1 v2 (addW v3 1))
def Yl (x0:ByteArray) (k_L1:GScript→(List ByteArray)→Int→Int→Option (GScript×Bool)) (vb0:GScript) (v5:List ByteArray) (v1:List ByteArray) (v2:Int) (v3:Int) (v7:Bool):Option (GScript×Bool):=
 if v7=true then (
  (Z7 v5 1 3).bind fun s1=>
  (Kk s1).bind fun r1=>
  (Z7 v5 3 (v5.length:Int)).bind fun s2=>
  (Xa s2 (strL [32])).bind fun r2=>
  (Jr r2).bind fun r3=>
  if (!r1.2)=true then (
   Wq x0 k_L1 vb0 r3.1 r1.1 v1 v2 v3 true)
  else (
   Wq x0 k_L1 vb0 r3.1 r1.1 v1 v2 v3 (!r3.2)))
 else (
  (idx v5 0).bind fun a3=>
  if (a3.toList == (strL [119,97,105,116,115]).toList)=true then (
   Y7 x0 k_L1 vb0 v5 v1 v2 v3 true)
  else (
   Y7 x0 k_L1 vb0 v5 v1 v2 v3 (a3.toList == (strL [115,97,121,115]).toList)))
def Y3 (x0:ByteArray)  (k:GScript→(List ByteArray)→Int→Int→Option (GScript×Bool)) (vb0:GScript) (v1:List ByteArray) (v2:Int) (v3:Int):Option (GScript×Bool):=
 if decide (v3 < v2)=true then (
  (idx v1 v3).bind fun a4=>
  (Xx a4 (strL [32])).bind fun r4=>
  (idx r4 0).bind fun a5=>
  if (a5.toList == (strL [112,111,115,116]).toList)=true then (
   Yl x0 k vb0 r4 v1 v2 v3 (decide ((r4.length:Int) > 3)))
  else (
   Yl x0 k vb0 r4 v1 v2 v3 false))
 else (
  (Qp vb0).bind fun r5=>
  if (!(r5.toList == x0.toList))=true then (
   some (GScript.z0,false))
  else (
   some (vb0,true)))
def Ym (x0:ByteArray)  : Nat→GScript→(List ByteArray)→Int→Int→Option (GScript×Bool)
 | 0,_,_,_,_=>none
 | m+1,vb0,v1,v2,v3=>Y3 x0  (Ym x0  m) vb0 v1 v2 v3
def Xr (x0:ByteArray):Option (GScript×Bool):=
 (Yz x0 (strL [10])).bind fun r6=>
 (Xx r6 (strL [10])).bind fun r7=>
 Ym x0 FU GScript.z0 r7 (r7.length:Int) 0
def Za2 (x0:Int) (k_L1:Int→ByteArray→Option ByteArray) (v0:Int) (v1:ByteArray) (v2:Int):Option ByteArray:=
 (catI (strB [(w8 (addW 48 v2))]) v1).bind fun n0=>
 k_L1 (quoW v0 10) ((strB [(w8 (addW 48 v2))])++v1)
def Zey (x0:Int)  (k:Int→ByteArray→Option ByteArray) (v0:Int) (v1:ByteArray):Option ByteArray:=
 if decide (v0≠0)=true then (
  if decide ((remW v0 10) < 0)=true then (
   Za2 x0 k v0 v1 (negW (remW v0 10)))
  else (
   Za2 x0 k v0 v1 (remW v0 10)))
 else (
  if decide (x0 < 0)=true then (
   (catI (strL [45]) v1).bind fun n1=>
   some ((strL [45])++v1))
  else (
   some v1))
def Jn (x0:Int)  : Nat→Int→ByteArray→Option ByteArray
 | 0,_,_=>none
 | m+1,v0,v1=>Zey x0  (Jn x0  m) v0 v1
def Zbv (x0:Int):Option ByteArray:=
 if decide (x0=0)=true then (
  some (strL [48]))
 else (
  Jn x0 FU x0 ByteArray.empty)
def Je (x0:ByteArray) (x1:List Int)  (k:ByteArray→Int→Option ByteArray) (v0:ByteArray) (v1:Int):Option ByteArray:=
 if decide (v1 < (x1.length:Int))=true then (
  (catI v0 (strL [32])).bind fun n0=>
  (idx x1 v1).bind fun a0=>
  (Zbv a0).bind fun r0=>
  (catI (v0++(strL [32])) r0).bind fun n1=>
  k ((v0++(strL [32]))++r0) (addW v1 1))
 else (
  (catI v0 (strL [10])).bind fun n2=>
  some (v0++(strL [10])))
def Kb (x0:ByteArray) (x1:List Int)  : Nat→ByteArray→Int→Option ByteArray
 | 0,_,_=>none
 | m+1,v0,v1=>Je x0 x1  (Kb x0 x1  m) v0 v1
def Zaz (x0:ByteArray) (x1:List Int):Option ByteArray:=
 if decide ((x1.length:Int)=0)=true then (
  some ByteArray.empty)
 else (
  Kb x0 x1 FU x0 0)
def Zcv (x0:GReq)  (k:Int→Option Bool) (v0:Int):Option Bool:=
 if decide (v0 < (x0.data_.length:Int))=true then (
  (idx x0.data_ v0).bind fun a0=>
  (Kj x0.size).bind fun r0=>
  (Qv a0 0 (subW r0 1)).bind fun r1=>
  if (!r1)=true then (
   some false)
  else (
   k (addW v0 1)))
 else (
  if decide ((x0.data_.length:Int)=0)=true then (
   if (!x0.write)=true then (
    some true)
   else (
    (Xt x0.burst).bind fun r2=>
    if decide ((x0.data_.length:Int)=r2)=true then (
     some x0.write)
    else (
     some false)))
  else (
   (Xt x0.burst).bind fun r2=>
   if decide ((x0.data_.length:Int)=r2)=true then (
    some x0.write)
   else (
    some false)))
def Za7 (x0:GReq)  : Nat→Int→Option Bool
 | 0,_=>none
 | m+1,v0=>Zcv x0  (Za7 x0  m) v0
def Zfz (x0:GReq):Option Bool:=
 (Za0 x0.addr x0.size x0.burst).bind fun r3=>
 if (!r3)=true then (
  some false)
 else (
  Za7 x0 FU 0)
def K4 (x0:GReq)  (k:ByteArray→Int→Option ByteArray) (v0:ByteArray) (v1:Int):Option ByteArray:=
 if decide (v1 < (x0.data_.length:Int))=true then (
  (catI v0 (strL [32])).bind fun n0=>
  (idx x0.data_ v1).bind fun a0=>
  (Zbv a0).bind fun r0=>
  (catI (v0++(strL [32])) r0).bind fun n1=>
  k ((v0++(strL [32]))++r0) (addW v1 1))
 else (
  some v0)
def W1 (x0:GReq)  : Nat→ByteArray→Int→Option ByteArray
 | 0,_,_=>none
 | m+1,v0,v1=>K4 x0  (W1 x0  m) v0 v1
def Jv (x0:GReq)  (v0:ByteArray):Option ByteArray:=
 W1 x0 FU v0 0
def Kg (x0:GReq)  (v0:ByteArray):Option ByteArray:=
 (catI v0 (strL [32])).bind fun n2=>
 (idx [(strL [98,121,116,101]),(strL [104,97,108,102]),(strL [119,111,114,100])] x0.size).bind fun a1=>
 (catI (v0++(strL [32])) a1).bind fun n3=>
 (catI ((v0++(strL [32]))++a1) (strL [32])).bind fun n4=>
 (idx [(strL [111,110,101]),(strL [102,111,117,114]),(strL [119,114,97,112]),(strL [101,105,103,104,116])] x0.burst).bind fun a2=>
 (catI (((v0++(strL [32]))++a1)++(strL [32])) a2).bind fun n5=>
 (catI ((((v0++(strL [32]))++a1)++(strL [32]))++a2) (strL [32])).bind fun n6=>
 (Zbv x0.addr).bind fun r1=>
 (catI (((((v0++(strL [32]))++a1)++(strL [32]))++a2)++(strL [32])) r1).bind fun n7=>
 if x0.lock=true then (
  (catI ((((((v0++(strL [32]))++a1)++(strL [32]))++a2)++(strL [32]))++r1) (strL [32,108,111,99,107])).bind fun n8=>
  Jv x0 (((((((v0++(strL [32]))++a1)++(strL [32]))++a2)++(strL [32]))++r1)++(strL [32,108,111,99,107])))
 else (
  Jv x0 ((((((v0++(strL [32]))++a1)++(strL [32]))++a2)++(strL [32]))++r1))
def Js (x0:GReq):Option ByteArray:=
 (Zfz x0).bind fun r2=>
 if (!r2)=true then (
  some ByteArray.empty)
 else (
  if x0.write=true then (
   Kg x0 (strL [119,114,105,116,101]))
  else (
   Kg x0 (strL [114,101,97,100])))
def Ju (x0:GScript)  (k:ByteArray→Int→Option ByteArray) (v0:ByteArray) (v1:Int):Option ByteArray:=
 if decide (v1 < (x0.posts.length:Int))=true then (
  (idx x0.posts v1).bind fun a0=>
  (Js a0.req).bind fun r0=>
  if (r0.toList == ByteArray.empty.toList)=true then (
   some ByteArray.empty)
  else (
   (catI v0 (strL [112,111,115,116,32])).bind fun n0=>
   (Zbv a0.at_).bind fun r1=>
   (catI (v0++(strL [112,111,115,116,32])) r1).bind fun n1=>
   (catI ((v0++(strL [112,111,115,116,32]))++r1) (strL [32])).bind fun n2=>
   (Zbv a0.who).bind fun r2=>
   (catI (((v0++(strL [112,111,115,116,32]))++r1)++(strL [32])) r2).bind fun n3=>
   (catI ((((v0++(strL [112,111,115,116,32]))++r1)++(strL [32]))++r2) (strL [32])).bind fun n4=>
   (catI (((((v0++(strL [112,111,115,116,32]))++r1)++(strL [32]))++r2)++(strL [32])) r0).bind fun n5=>
   (catI ((((((v0++(strL [112,111,115,116,32]))++r1)++(strL [32]))++r2)++(strL [32]))++r0) (strL [10])).bind fun n6=>
   k (((((((v0++(strL [112,111,115,116,32]))++r1)++(strL [32]))++r2)++(strL [32]))++r0)++(strL [10])) (addW v1 1)))
 else (
  some v0)
def Wv (x0:GScript)  : Nat→ByteArray→Int→Option ByteArray
 | 0,_,_=>none
 | m+1,v0,v1=>Ju x0  (Wv x0  m) v0 v1
def Qj (x0:GScript):Option ByteArray:=
 (Zaz (strL [119,97,105,116,115]) x0.waits).bind fun r3=>
 (Zaz (strL [115,97,121,115]) x0.says).bind fun r4=>
 (catI r3 r4).bind fun n7=>
 Wv x0 FU (r3++r4) 0
def Kp (x0:GL1Cur) (x1:Int) (k_L1:GL1Cur→(List Int)→Int→Int→Option (ByteArray×GL1Cur)) (vb0:GL1Cur) (v0:List Int) (v1:Int) (v2:Int) (v3:Int):Option (ByteArray×GL1Cur):=
 (appI 1 v0 [(w8 v3)]).bind fun z0=>
 k_L1 vb0 z0 v1 (subW v2 1)
def Kz (x0:GL1Cur) (x1:Int) (k_L1:GL1Cur→(List Int)→Int→Int→Option (ByteArray×GL1Cur)) (vb0:GL1Cur) (v0:List Int) (v1:Int) (v2:Int) (v3:Int):Option (ByteArray×GL1Cur):=
 if decide (v1=2)=true then (
  Kp x0 x1 k_L1 vb0 v0 v1 v2 (addW 97 (remW v3 4)))
 else (
  Kp x0 x1 k_L1 vb0 v0 v1 v2 v3)
def Zb0 (x0:GL1Cur) (x1:Int)  (k:GL1Cur→(List Int)→Int→Int→Option (ByteArray×GL1Cur)) (vb0:GL1Cur) (v0:List Int) (v1:Int) (v2:Int):Option (ByteArray×GL1Cur):=
 if decide (v2 > 0)=true then (
  (Xz vb0).bind fun r0=>
  if decide (v1=1)=true then (
   Kz x0 x1 k r0.2 v0 v1 v2 (remW r0.1 2))
  else (
   Kz x0 x1 k r0.2 v0 v1 v2 r0.1))
 else (
  some ((strB v0),vb0))
def Wd (x0:GL1Cur) (x1:Int)  : Nat→GL1Cur→(List Int)→Int→Int→Option (ByteArray×GL1Cur)
 | 0,_,_,_,_=>none
 | m+1,vb0,v0,v1,v2=>Zb0 x0 x1  (Wd x0 x1  m) vb0 v0 v1 v2
def Zeb (x0:GL1Cur) (x1:Int):Option (ByteArray×GL1Cur):=
 (Zd x0 4).bind fun r1=>
 (Zd r1.2 (addW x1 1)).bind fun r2=>
 Wd x0 x1 FU r2.2 [] r1.1 r2.1
def Zcz (x0:GL1Cur) (x1:ByteArray):Option (ByteArray×GL1Cur):=
 if decide ((x1.size:Int)=0)=true then (
  (Zeb x0 3).bind fun r0=>
  some (r0.1,r0.2))
 else (
  (Zd x0 (x1.size:Int)).bind fun r1=>
  (Zd r1.2 4).bind fun r2=>
  if decide (r2.1=0)=true then (
   (subS x1 0 r1.1).bind fun s0=>
   (subS x1 (addW r1.1 1) (x1.size:Int)).bind fun s1=>
   (catI s0 s1).bind fun n0=>
   some ((s0++s1),r2.2))
  else (
   if decide (r2.1=1)=true then (
    (subS x1 0 r1.1).bind fun s2=>
    (Xz r2.2).bind fun r3=>
    (catI s2 (strB [(w8 r3.1)])).bind fun n1=>
    (subS x1 r1.1 (x1.size:Int)).bind fun s3=>
    (catI (s2++(strB [(w8 r3.1)])) s3).bind fun n2=>
    some (((s2++(strB [(w8 r3.1)]))++s3),r3.2))
   else (
    if decide (r2.1=2)=true then (
     (subS x1 0 r1.1).bind fun s4=>
     some (s4,r2.2))
    else (
     (subS x1 0 r1.1).bind fun s5=>
     (atS x1 r1.1).bind fun a0=>
     (Zd r2.2 255).bind fun r4=>
     (catI s5 (strB [(w8 (xorW (w64 a0) (addW 1 r4.1)))])).bind fun n3=>
     (subS x1 (addW r1.1 1) (x1.size:Int)).bind fun s6=>
     (catI (s5++(strB [(w8 (xorW (w64 a0) (addW 1 r4.1)))])) s6).bind fun n4=>
     some (((s5++(strB [(w8 (xorW (w64 a0) (addW 1 r4.1)))]))++s6),r4.2)))))
def Zd4 (x0:GL1Cur) (x1:List ByteArray):Option (ByteArray×GL1Cur):=
 (Zd x0 (x1.length:Int)).bind fun r0=>
 (idx x1 r0.1).bind fun a0=>
 some (a0,r0.2)
def Kf (x0:List Int):Option ByteArray:=
 (Zdh x0).bind fun r0=>
 (Zb2 r0).bind fun r1=>
 (Qj r1.2.1).bind fun r2=>
 (Zd r1.2.2 4).bind fun r3=>
 if decide (r3.1=0)=true then (
  (Zcz r3.2 r2).bind fun r4=>
  some r4.1)
 else (
  if decide (r3.1=1)=true then (
   (Zd4 r3.2 [(strL [10]),(strL [119,97,105,116,115,32,49,10]),(strL [112,111,115,116,32,49,32,48,32,114,101,97,100,32,119,111,114,100,32,111,110,101,32,48,10]),(strL [112,111,115,116,32,49,32,48,32,114,101,97,100,32,119,111,114,100,32,111,110,101,32,50,10]),(strL [115,97,121,115,10]),(strL [112,111,115,116,32,48,49,32,48,32,114,101,97,100,32,119,111,114,100,32,111,110,101,32,48,10])]).bind fun r5=>
   (catI r2 r5.1).bind fun n0=>
   some (r2++r5.1))
  else (
   some r2))
def Zck (x0:ByteArray) (x1:Int)  (k:(List ByteArray)→Int→Int→Option (List ByteArray)) (v0:List ByteArray) (v1:Int) (v2:Int):Option (List ByteArray):=
 if decide (v2 < (x0.size:Int))=true then (
  (atS x0 v2).bind fun a0=>
  if decide (a0=x1)=true then (
   (subS x0 v1 v2).bind fun s0=>
   (appI 16 v0 [s0]).bind fun z0=>
   k z0 (addW v2 1) (addW v2 1))
  else (
   k v0 v1 (addW v2 1)))
 else (
  (subS x0 v1 (x0.size:Int)).bind fun s1=>
  (appI 16 v0 [s1]).bind fun z1=>
  some z1)
def Jg (x0:ByteArray) (x1:Int)  : Nat→(List ByteArray)→Int→Int→Option (List ByteArray)
 | 0,_,_,_=>none
 | m+1,v0,v1,v2=>Zck x0 x1  (Jg x0 x1  m) v0 v1 v2
def X4 (x0:ByteArray) (x1:Int):Option (List ByteArray):=
 Jg x0 x1 FU [] 0 0
def X3 (x0:ByteArray) (k_L1:ByteArray→Int→Int→Int→Option Int) (v0:ByteArray) (v1:Int) (v2:Int) (v3:Int) (v4:Bool):Option Int:=
 if v4=true then (
  some 0)
 else (
  (atS v0 v3).bind fun a0=>
  k_L1 v0 v1 (subW (addW (mulW v2 10) (w64 a0)) 48) (addW v3 1))
def Ky (x0:ByteArray)  (k:ByteArray→Int→Int→Int→Option Int) (v0:ByteArray) (v1:Int) (v2:Int) (v3:Int):Option Int:=
 if decide (v3 < (v0.size:Int))=true then (
  (atS v0 v3).bind fun a1=>
  if decide (a1 < 48)=true then (
   X3 x0 k v0 v1 v2 v3 true)
  else (
   if decide (a1 > 57)=true then (
    X3 x0 k v0 v1 v2 v3 true)
   else (
    X3 x0 k v0 v1 v2 v3 (decide ((v0.size:Int) > 18)))))
 else (
  some (mulW v1 v2))
def X5 (x0:ByteArray)  : Nat→ByteArray→Int→Int→Int→Option Int
 | 0,_,_,_,_=>none
 | m+1,v0,v1,v2,v3=>Ky x0  (X5 x0  m) v0 v1 v2 v3
def W9 (x0:ByteArray)  (v0:ByteArray) (v1:Int):Option Int:=
 X5 x0 FU v0 v1 0 0
def Xn (x0:ByteArray)  (v5:Bool):Option Int:=
 if v5=true then (
  (subS x0 1 (x0.size:Int)).bind fun s0=>
  W9 x0 s0 (-1))
 else (
  W9 x0 x0 1)
def K3 (x0:ByteArray):Option Int:=
 if decide ((x0.size:Int) > 0)=true then (
  (atS x0 0).bind fun a2=>
  Xn x0 (decide (a2=45)))
 else (
  Xn x0 false)
def Wg (x0:List ByteArray)  (k:(List Int)→Int→Option (List Int)) (v0:List Int) (v1:Int):Option (List Int):=
 if decide (v1 < (x0.length:Int))=true then (
  (idx x0 v1).bind fun a0=>
  (K3 a0).bind fun r0=>
  (appI 8 v0 [r0]).bind fun z0=>
  k z0 (addW v1 1))
 else (
  some v0)
def W8 (x0:List ByteArray)  : Nat→(List Int)→Int→Option (List Int)
 | 0,_,_=>none
 | m+1,v0,v1=>Wg x0  (W8 x0  m) v0 v1
def Ki (x0:List ByteArray):Option (List Int):=
 W8 x0 FU [] 0
def W6 (x0:List ByteArray) (x1:ByteArray)  (k:Int→Option Int) (v0:Int):Option Int:=
 if decide (v0 < (x0.length:Int))=true then (
  (idx x0 v0).bind fun a0=>
  if (a0.toList == x1.toList)=true then (
   some v0)
  else (
   k (addW v0 1)))
 else (
  some (-1))
def Qk (x0:List ByteArray) (x1:ByteArray)  : Nat→Int→Option Int
 | 0,_=>none
 | m+1,v0=>W6 x0 x1  (Qk x0 x1  m) v0
def Q7 (x0:List ByteArray) (x1:ByteArray):Option Int:=
 Qk x0 x1 FU 0
def Yy (x0:ByteArray)  (k:GReq→(List ByteArray)→Int→Option (GReq×Bool)) (vb0:GReq) (v0:List ByteArray) (v1:Int):Option (GReq×Bool):=
 if decide (v1 < (v0.length:Int))=true then (
  (idx v0 v1).bind fun a0=>
  (K3 a0).bind fun r0=>
  (appI 8 vb0.data_ [r0]).bind fun z0=>
  k {vb0 with data_:=z0} v0 (addW v1 1))
 else (
  (Js vb0).bind fun r1=>
  if (!(r1.toList == x0.toList))=true then (
   some (GReq.z0,false))
  else (
   some (vb0,true)))
def Yt (x0:ByteArray)  : Nat→GReq→(List ByteArray)→Int→Option (GReq×Bool)
 | 0,_,_,_=>none
 | m+1,vb0,v0,v1=>Yy x0  (Yt x0  m) vb0 v0 v1
def W5 (x0:ByteArray)  (vb0:GReq) (v0:List ByteArray):Option (GReq×Bool):=
 Yt x0 FU vb0 v0 0
def Xh (x0:ByteArray)  (vb0:GReq) (v0:List ByteArray) (v2:Bool):Option (GReq×Bool):=
 if v2=true then (
  (Z7 v0 1 (v0.length:Int)).bind fun s0=>
  W5 x0 {vb0 with lock:=true} s0)
 else (
  W5 x0 vb0 v0)
def Jq (x0:ByteArray):Option (GReq×Bool):=
 (X4 x0 32).bind fun r2=>
 if decide ((r2.length:Int) < 4)=true then (
  some (GReq.z0,false))
 else (
  (idx r2 0).bind fun a1=>
  (idx r2 1).bind fun a2=>
  (Q7 [(strL [98,121,116,101]),(strL [104,97,108,102]),(strL [119,111,114,100])] a2).bind fun r3=>
  (idx r2 2).bind fun a3=>
  (Q7 [(strL [111,110,101]),(strL [102,111,117,114]),(strL [119,114,97,112]),(strL [101,105,103,104,116])] a3).bind fun r4=>
  (idx r2 3).bind fun a4=>
  (K3 a4).bind fun r5=>
  (Z7 r2 4 (r2.length:Int)).bind fun s1=>
  if decide ((s1.length:Int) > 0)=true then (
   (idx s1 0).bind fun a5=>
   Xh x0 (GReq.mk (a1.toList == (strL [119,114,105,116,101]).toList) r5 r3 r4 false []) s1 (a5.toList == (strL [108,111,99,107]).toList))
  else (
   Xh x0 (GReq.mk (a1.toList == (strL [119,114,105,116,101]).toList) r5 r3 r4 false []) s1 false))
def Y4 (x0:ByteArray)  (k:GScript→(List ByteArray)→Int→Option (GScript×Bool)) (vb0:GScript) (v0:List ByteArray) (v1:Int):Option (GScript×Bool):=
 if decide (v1 < (v0.length:Int))=true then (
  (idx v0 v1).bind fun a0=>
  (X4 a0 32).bind fun r0=>
  (idx r0 0).bind fun a1=>
  if (a1.toList == (strL [119,97,105,116,115]).toList)=true then (
   (Z7 r0 1 (r0.length:Int)).bind fun s0=>
   (Ki s0).bind fun r1=>
   k {vb0 with waits:=r1} v0 (addW v1 1))
  else (
   if (a1.toList == (strL [115,97,121,115]).toList)=true then (
    (Z7 r0 1 (r0.length:Int)).bind fun s1=>
    (Ki s1).bind fun r2=>
    k {vb0 with says:=r2} v0 (addW v1 1))
   else (
    if decide ((r0.length:Int) > 3)=true then (
     (Z7 r0 1 3).bind fun s2=>
     (Ki s2).bind fun r3=>
     (idx r0 1).bind fun a2=>
     (idx r0 2).bind fun a3=>
     (subS a0 (minI (a0.size:Int) (addW (addW (addW (a1.size:Int) (a2.size:Int)) (a3.size:Int)) 3)) (a0.size:Int)).bind fun s3=>
     (Jq s3).bind fun r4=>
     (idx r3 0).bind fun a4=>
     (idx r3 1).bind fun a5=>
     (appI 80 vb0.posts [(GPost.mk a4 a5 r4.1)]).bind fun z0=>
     k {vb0 with posts:=z0} v0 (addW v1 1))
    else (
     k vb0 v0 (addW v1 1)))))
 else (
  (Qj vb0).bind fun r5=>
  if (!(r5.toList == x0.toList))=true then (
   some (GScript.z0,false))
  else (
   some (vb0,true)))
def Y8 (x0:ByteArray)  : Nat→GScript→(List ByteArray)→Int→Option (GScript×Bool)
 | 0,_,_,_=>none
 | m+1,vb0,v0,v1=>Y4 x0  (Y8 x0  m) vb0 v0 v1
def Wf (x0:ByteArray):Option (GScript×Bool):=
 (X4 x0 10).bind fun r6=>
 Y8 x0 FU GScript.z0 r6 0
def Jy (x0:List Int) (x1:List Int)  (k:Int→Option Bool) (v0:Int):Option Bool:=
 if decide (v0 < (x0.length:Int))=true then (
  (idx x0 v0).bind fun a0=>
  (idx x1 v0).bind fun a1=>
  if decide (a0≠a1)=true then (
   some false)
  else (
   k (addW v0 1)))
 else (
  some true)
def Zan (x0:List Int) (x1:List Int)  : Nat→Int→Option Bool
 | 0,_=>none
 | m+1,v0=>Jy x0 x1  (Zan x0 x1  m) v0
def Zax (x0:List Int) (x1:List Int):Option Bool:=
 if decide ((x0.length:Int)≠(x1.length:Int))=true then (
  some false)
 else (
  Zan x0 x1 FU 0)
def Zdb (x0:GReq) (x1:GReq):Option Bool:=
 if (x0.write == x1.write)=true then (
  if decide (x0.addr=x1.addr)=true then (
   if decide (x0.size=x1.size)=true then (
    if decide (x0.burst=x1.burst)=true then (
     if (x0.lock == x1.lock)=true then (
      (Zax x0.data_ x1.data_).bind fun r0=>
      some r0)
     else (
      some false))
    else (
     some false))
   else (
    some false))
  else (
   some false))
 else (
  some false)
def Qx (x0:GScript) (x1:GScript)  (k:Int→Option Bool) (v0:Int):Option Bool:=
 if decide (v0 < (x0.posts.length:Int))=true then (
  (idx x0.posts v0).bind fun a0=>
  (idx x1.posts v0).bind fun a1=>
  if decide (a0.at_≠a1.at_)=true then (
   some false)
  else (
   if decide (a0.who≠a1.who)=true then (
    some false)
   else (
    (Zdb a0.req a1.req).bind fun r0=>
    if (!r0)=true then (
     some false)
    else (
     k (addW v0 1)))))
 else (
  some true)
def Q5 (x0:GScript) (x1:GScript)  : Nat→Int→Option Bool
 | 0,_=>none
 | m+1,v0=>Qx x0 x1  (Q5 x0 x1  m) v0
def Ws (x0:GScript) (x1:GScript)  (v1:Bool):Option Bool:=
 if v1=true then (
  some false)
 else (
  Q5 x0 x1 FU 0)
def Zaw (x0:GScript) (x1:GScript):Option Bool:=
 (Zax x0.waits x1.waits).bind fun r1=>
 if (!r1)=true then (
  Ws x0 x1 true)
 else (
  (Zax x0.says x1.says).bind fun r2=>
  if (!r2)=true then (
   Ws x0 x1 true)
  else (
   Ws x0 x1 (decide ((x0.posts.length:Int)≠(x1.posts.length:Int)))))
def Xf (x0:List Int) (x1:List Int)  (k:Int→Option Bool) (v0:Int):Option Bool:=
 if decide (v0 < (x0.length:Int))=true then (
  (idx x0 v0).bind fun a0=>
  (idx x1 v0).bind fun a1=>
  if decide (a0≠a1)=true then (
   some false)
  else (
   k (addW v0 1)))
 else (
  some true)
def Xm (x0:List Int) (x1:List Int)  : Nat→Int→Option Bool
 | 0,_=>none
 | m+1,v0=>Xf x0 x1  (Xm x0 x1  m) v0
def Y1 (x0:List Int) (x1:List Int):Option Bool:=
 if decide ((x0.length:Int)≠(x1.length:Int))=true then (
  some false)
 else (
  Xm x0 x1 FU 0)
def Zgi (x0:GReq) (x1:GReq):Option Bool:=
 if (x0.write == x1.write)=true then (
  if decide (x0.addr=x1.addr)=true then (
   if decide (x0.size=x1.size)=true then (
    if decide (x0.burst=x1.burst)=true then (
     if (x0.lock == x1.lock)=true then (
      (Y1 x0.data_ x1.data_).bind fun r0=>
      some r0)
     else (
      some false))
    else (
     some false))
   else (
    some false))
  else (
   some false))
 else (
  some false)
def K7 (x0:GPost) (x1:GPost):Option Bool:=
 if decide (x0.at_=x1.at_)=true then (
  if decide (x0.who=x1.who)=true then (
   (Zgi x0.req x1.req).bind fun r0=>
   some r0)
  else (
   some false))
 else (
  some false)
def Zo (x0:List GPost) (x1:List GPost)  (k:Int→Option Bool) (v0:Int):Option Bool:=
 if decide (v0 < (x0.length:Int))=true then (
  (idx x0 v0).bind fun a0=>
  (idx x1 v0).bind fun a1=>
  (K7 a0 a1).bind fun r0=>
  if (!r0)=true then (
   some false)
  else (
   k (addW v0 1)))
 else (
  some true)
def Zm (x0:List GPost) (x1:List GPost)  : Nat→Int→Option Bool
 | 0,_=>none
 | m+1,v0=>Zo x0 x1  (Zm x0 x1  m) v0
def Z5 (x0:List GPost) (x1:List GPost):Option Bool:=
 if decide ((x0.length:Int)≠(x1.length:Int))=true then (
  some false)
 else (
  Zm x0 x1 FU 0)
def Zal (x0:GScript) (x1:GScript):Option Bool:=
 (Y1 x0.waits x1.waits).bind fun r0=>
 if r0=true then (
  (Y1 x0.says x1.says).bind fun r1=>
  if r1=true then (
   (Z5 x0.posts x1.posts).bind fun r2=>
   some r2)
  else (
   some false))
 else (
  some false)
def Y2 (x0:List Int)  (vb0:GScript) (v0:ByteArray) (v1:Bool) (v2:Bool) (v3:Bool):Option Bool:=
 if v3=true then (
  some false)
 else (
  if (v1 == v2)=true then (
   if (!v1)=true then (
    some true)
   else (
    (Qp vb0).bind fun r0=>
    some (r0.toList == v0.toList)))
  else (
   some false))
def Zdy (x0:List Int):Option Bool:=
 (Zm6 x0).bind fun r1=>
 if r1=true then (
  some true)
 else (
  (Q9 x0).bind fun r2=>
  (Qp r2).bind fun r3=>
  (Xr r3).bind fun r4=>
  (Kf x0).bind fun r5=>
  (Xr r5).bind fun r6=>
  (Wf r5).bind fun r7=>
  (Qj r2).bind fun r8=>
  if (!(r3.toList == r8.toList))=true then (
   Y2 x0 r6.1 r5 r6.2 r7.2 true)
  else (
   if (!(r3.toList == ByteArray.empty.toList))=true then (
    if (!r4.2)=true then (
     Y2 x0 r6.1 r5 r6.2 r7.2 true)
    else (
     (Zaw r4.1 r2).bind fun r9=>
     if (!r9)=true then (
      Y2 x0 r6.1 r5 r6.2 r7.2 true)
     else (
      (Zal r4.1 r2).bind fun r10=>
      Y2 x0 r6.1 r5 r6.2 r7.2 (!r10))))
   else (
    Y2 x0 r6.1 r5 r6.2 r7.2 false)))
end Go.Proofs.YtlcfolgfmlgncaaGreatDoor.Ev
namespace Go.Proofs.YtlcfolgfmlgncaaGreatDoor.Ev
open Go Go.Proofs Go.RowKit
set_option linter.unusedVariables false
set_option linter.unusedSimpArgs false
def GL1Cur.enc (x:GL1Cur):List V:=[.tr (x.b.map encU),.lit (.int .i64 x.i),.lit (.int .i64 x.h)]
def GMConf.enc (x:GMConf):List V:=[.lit (.int .i64 x.weight),.lit (.bool x.prio),.lit (.int .i64 x.every),.lit (.int .i64 x.cap)]
theorem GMConf.enc_len (x:GMConf):(GMConf.enc x).length=4:=rfl
def GConf.enc (x:GConf):List V:=[.tr (x.masters.map GMConf.enc),.lit (.int .i64 x.quantum),.lit (.int .i64 x.maxWait),.lit (.int .i64 x.maxRetry),.lit (.int .i64 x.maxSplit),.lit (.int .i64 x.lockMost)]
def GReq.enc (x:GReq):List V:=[.lit (.bool x.write),.lit (.int .i64 x.addr),.lit (.int .i64 x.size),.lit (.int .i64 x.burst),.lit (.bool x.lock),.tr (x.data_.map encI)]
def GPost.enc (x:GPost):List V:=[.lit (.int .i64 x.at_),.lit (.int .i64 x.who),.lit (.bool x.req.write),.lit (.int .i64 x.req.addr),.lit (.int .i64 x.req.size),.lit (.int .i64 x.req.burst),.lit (.bool x.req.lock),.tr (x.req.data_.map encI)]
theorem GPost.enc_len (x:GPost):(GPost.enc x).length=8:=rfl
def GScript.enc (x:GScript):List V:=[.tr (x.posts.map GPost.enc),.tr (x.waits.map encI),.tr (x.says.map encI)]
def GScript.ow (x:GScript):List V:=[.own 73 (x.posts.map GPost.enc),.own 3 (x.waits.map encI),.own 3 (x.says.map encI)]
def GScript.rl (x:GScript) (n:Nat):List V:=[.sl (1,n) 0 (x.posts.map GPost.enc).length,.sl (1,n+1) 0 (x.waits.map encI).length,.sl (1,n+2) 0 (x.says.map encI).length]
def GScript.bk (x:GScript) (n:Nat):List (Id×Blk):=[((1,n),⟨false,true,true,73,(x.posts.map GPost.enc)⟩),((1,n+1),⟨false,true,true,3,(x.waits.map encI)⟩),((1,n+2),⟨false,true,true,3,(x.says.map encI)⟩)]
def GScript.ff (n e b:Nat):List (Id×Id):=[((1,n),(e,b)),((1,n+1),(e,b+1)),((1,n+2),(e,b+2))]
def GScript.nm (x:GScript):List O:=[.num (x.posts.map GPost.enc).length 0 0 [],.num (x.waits.map encI).length 0 0 [],.num (x.says.map encI).length 0 0 []]
theorem GScript.so (x:GScript) {q:List O} {p:Prop} (h:Scr q p):Scr q ((x.posts.map GPost.enc).length=(x.posts.map GPost.enc).length∧(x.waits.map encI).length=(x.waits.map encI).length∧(x.says.map encI).length=(x.says.map encI).length∧p):=⟨rfl,rfl,rfl,h⟩
theorem GScript.sc (x:GScript) {q:List O} {p:Prop} (h:Scr q p):Scr (GScript.nm x++q) ((x.posts.map GPost.enc).length=(x.posts.map GPost.enc).length∧(x.waits.map encI).length=(x.waits.map encI).length∧(x.says.map encI).length=(x.says.map encI).length∧p):=⟨rfl,rfl,rfl,h⟩
def ffi (n:Nat):Nat→List (Id×Id)
 | 0=>[]
 | m+1=>((1,n),(1,n))::ffi (n+1) m
abbrev bx (n:Nat) (r:List V):Id×Blk:=((1,n),⟨true,true,true,0,[r]⟩)
abbrev rx (n t:Nat) (R:List (List V)):Id×Blk:=((1,n),⟨false,true,true,t,R⟩)
end Go.Proofs.YtlcfolgfmlgncaaGreatDoor.Ev
namespace Go.Proofs
open Go.Shelf Go.RowKit Go.Sort Go.Lib
def Tryz.lays156_ren:Go.Shelf.Ren:=⟨fun|156=>53|165=>110|166=>111|169=>112|240=>148|241=>149|276=>182|277=>183|n=>n,fun|31=>65|9=>9|3=>3|4=>4|0=>0|20=>20|72=>131|76=>135|70=>129|37=>22|75=>134|127=>160|164=>189|5=>5|80=>137|n=>n,fun|n=>n⟩
theorem Tryz.lays156:Go.Proofs.Lays.n156 Tryz.prog Tryz.lays156_ren:={
 mixed:=by kernel_rfl
 f156:=Tryz.func53.trans (congrArg some (by kernel_rfl))
 f165:=Tryz.func110.trans (congrArg some (by kernel_rfl))
 f166:=Tryz.func111.trans (congrArg some (by kernel_rfl))
 f169:=Tryz.func112.trans (congrArg some (by kernel_rfl))
 f240:=Tryz.func148.trans (congrArg some (by kernel_rfl))
 f241:=Tryz.func149.trans (congrArg some (by kernel_rfl))
 f276:=Tryz.func182.trans (congrArg some (by kernel_rfl))
 f277:=Tryz.func183.trans (congrArg some (by kernel_rfl))
 t0:=Tryz.underlying0
 a0:=Tryz.isAgg0
 z0:=Tryz.sizeOf0
 v0:=Tryz.zeroValue0
 t3:=Tryz.underlying3
 a3:=Tryz.isAgg3
 z3:=Tryz.sizeOf3
 v3:=Tryz.zeroValue3
 t4:=Tryz.underlying4
 a4:=Tryz.isAgg4
 z4:=Tryz.sizeOf4
 v4:=Tryz.zeroValue4
 t9:=Tryz.underlying9
 a9:=Tryz.isAgg9
 z9:=Tryz.sizeOf9
 v9:=Tryz.zeroValue9
 t20:=Tryz.underlying20
 a20:=Tryz.isAgg20
 z20:=Tryz.sizeOf20
 v20:=Tryz.zeroValue20
 t31:=Tryz.underlying65
 a31:=Tryz.isAgg65
 z31:=Tryz.sizeOf65
 v31:=Tryz.zeroValue65
 t37:=Tryz.underlying22
 a37:=Tryz.isAgg22
 z37:=Tryz.sizeOf22
 v37:=Tryz.zeroValue22
 t70:=Tryz.underlying129
 a70:=Tryz.isAgg129
 z70:=Tryz.sizeOf129
 v70:=Tryz.zeroValue129
 t72:=Tryz.underlying131
 a72:=Tryz.isAgg131
 z72:=Tryz.sizeOf131
 v72:=Tryz.zeroValue131
 t75:=Tryz.underlying134
 a75:=Tryz.isAgg134
 z75:=Tryz.sizeOf134
 v75:=Tryz.zeroValue134
 t76:=Tryz.underlying135
 a76:=Tryz.isAgg135
 z76:=Tryz.sizeOf135
 v76:=Tryz.zeroValue135
 t127:=Tryz.underlying160
 a127:=Tryz.isAgg160
 z127:=Tryz.sizeOf160
 v127:=Tryz.zeroValue160
 t164:=Tryz.underlying189
 a164:=Tryz.isAgg189
 z164:=Tryz.sizeOf189
 v164:=Tryz.zeroValue189}
theorem Tryz.Builder_Extra_156:Builder.Extra Tryz.prog Tryz.lays156_ren:={
 sizeBuilder:=by kernel_rfl
 liesBuilder:=by kernel_rfl
 t5:=Tryz.underlying5
 a5:=Tryz.isAgg5
 z5:=Tryz.sizeOf5
 v5:=Tryz.zeroValue5
 infoByte:=by kernel_rfl
 cellsByte:=by kernel_rfl
 sizeByte:=by kernel_rfl
 neB5:=by decide}
theorem Tryz.strings_Join_none (a:Option Addr) (c:Nat) (sep:ByteArray) (w:World):
  Calls Tryz.prog 53 #[.slice a 0 c,.string sep] w fun e w'=>e=.returned (.string ⟨#[]⟩)∧w'=w:=Any.strings_Join_none Tryz.lays156 Tryz.Builder_Extra_156 a c sep w
theorem Tryz.strings_Join (bk o c:Nat) (xs:List ByteArray) (sep:ByteArray) (w:World) (hcells:∀(j:Nat) x,xs[j]?=some x→w.cell? ⟨bk,o+j,none⟩=some (.string x)) (hbk:bk < w.heap.size) (hN:xs.length≤140737488355328) (hcap:xs.length≤c) (hlen:(Lib.join (xs.map (·.data.toList)) sep.data.toList).length≤140737488355328):
  Calls Tryz.prog 53 #[.slice (some ⟨bk,o,none⟩) xs.length c,.string sep] w fun e w'=>e=.returned (.string ⟨(Lib.join (xs.map (·.data.toList)) sep.data.toList).toArray⟩)∧Below w.heap.size w w':=Any.strings_Join Tryz.lays156 Tryz.Builder_Extra_156 bk o c xs sep w hcells hbk hN hcap hlen
def Tryz.laysM171_ren:Go.Shelf.Ren:=⟨fun|171=>118|243=>153|246=>186|283=>218|284=>219|285=>220|286=>221|129=>233|317=>232|318=>234|319=>235|320=>236|337=>239|338=>240|n=>n,fun|3=>3|9=>9|2=>2|4=>4|171=>214|0=>0|53=>215|37=>22|5=>5|173=>218|212=>237|51=>227|20=>20|213=>238|46=>165|232=>245|233=>246|n=>n,fun|17=>5|18=>6|19=>7|n=>n⟩
theorem Tryz.laysM171:Go.Proofs.LaysM.n171 Tryz.prog Tryz.laysM171_ren:={
 mixed:=by kernel_rfl
 f129:=Tryz.func233.trans (congrArg some (by kernel_rfl))
 f171:=Tryz.func118.trans (congrArg some (by kernel_rfl))
 f243:=Tryz.func153.trans (congrArg some (by kernel_rfl))
 f246:=Tryz.func186.trans (congrArg some (by kernel_rfl))
 f283:=Tryz.func218.trans (congrArg some (by kernel_rfl))
 f284:=Tryz.func219.trans (congrArg some (by kernel_rfl))
 f285:=Tryz.func220.trans (congrArg some (by kernel_rfl))
 f286:=Tryz.func221.trans (congrArg some (by kernel_rfl))
 f317:=Tryz.func232.trans (congrArg some (by kernel_rfl))
 f318:=Tryz.func234.trans (congrArg some (by kernel_rfl))
 f319:=Tryz.func235.trans (congrArg some (by kernel_rfl))
 f320:=Tryz.func236.trans (congrArg some (by kernel_rfl))
 f337:=Tryz.func239.trans (congrArg some (by kernel_rfl))
 f338:=Tryz.func240.trans (congrArg some (by kernel_rfl))
 t0:=Tryz.underlying0
 a0:=Tryz.isAgg0
 z0:=Tryz.sizeOf0
 v0:=Tryz.zeroValue0
 t2:=Tryz.underlying2
 a2:=Tryz.isAgg2
 z2:=Tryz.sizeOf2
 v2:=Tryz.zeroValue2
 t3:=Tryz.underlying3
 a3:=Tryz.isAgg3
 z3:=Tryz.sizeOf3
 v3:=Tryz.zeroValue3
 t4:=Tryz.underlying4
 a4:=Tryz.isAgg4
 z4:=Tryz.sizeOf4
 v4:=Tryz.zeroValue4
 t5:=Tryz.underlying5
 a5:=Tryz.isAgg5
 z5:=Tryz.sizeOf5
 v5:=Tryz.zeroValue5
 t9:=Tryz.underlying9
 a9:=Tryz.isAgg9
 z9:=Tryz.sizeOf9
 v9:=Tryz.zeroValue9
 t20:=Tryz.underlying20
 a20:=Tryz.isAgg20
 z20:=Tryz.sizeOf20
 v20:=Tryz.zeroValue20
 t37:=Tryz.underlying22
 a37:=Tryz.isAgg22
 z37:=Tryz.sizeOf22
 v37:=Tryz.zeroValue22
 t46:=Tryz.underlying165
 a46:=Tryz.isAgg165
 z46:=Tryz.sizeOf165
 v46:=Tryz.zeroValue165
 t51:=Tryz.underlying227
 a51:=Tryz.isAgg227
 z51:=Tryz.sizeOf227
 v51:=Tryz.zeroValue227
 t53:=Tryz.underlying215
 a53:=Tryz.isAgg215
 z53:=Tryz.sizeOf215
 v53:=Tryz.zeroValue215
 t171:=Tryz.underlying214
 a171:=Tryz.isAgg214
 z171:=Tryz.sizeOf214
 v171:=Tryz.zeroValue214
 t173:=Tryz.underlying218
 a173:=Tryz.isAgg218
 z173:=Tryz.sizeOf218
 v173:=Tryz.zeroValue218
 t212:=Tryz.underlying237
 a212:=Tryz.isAgg237
 z212:=Tryz.sizeOf237
 v212:=Tryz.zeroValue237
 t213:=Tryz.underlying238
 a213:=Tryz.isAgg238
 z213:=Tryz.sizeOf238
 t232:=Tryz.underlying245
 a232:=Tryz.isAgg245
 z232:=Tryz.sizeOf245
 v232:=Tryz.zeroValue245
 t233:=Tryz.underlying246
 a233:=Tryz.isAgg246
 z233:=Tryz.sizeOf246
 v233:=Tryz.zeroValue246
 g17:=by kernel_rfl
 g18:=by kernel_rfl
 g19:=by kernel_rfl
 i0:=by kernel_rfl
 i2:=by kernel_rfl
 i3:=by kernel_rfl
 i4:=by kernel_rfl
 i5:=by kernel_rfl
 i9:=by kernel_rfl
 i20:=by kernel_rfl
 i37:=by kernel_rfl
 i46:=by kernel_rfl
 i51:=by kernel_rfl
 i53:=by kernel_rfl
 i171:=by kernel_rfl
 i173:=by kernel_rfl
 i212:=by kernel_rfl
 i232:=by kernel_rfl
 i233:=by kernel_rfl
 m17:=by kernel_rfl
 m18:=by kernel_rfl
 m19:=by kernel_rfl}
theorem Tryz.strconv_Itoa (n:Int) (h0:-9223372036854775808≤n) (h1:n≤9223372036854775807) (w:World) (htab:Lib.TabIs Tryz.prog w "internal/strconv.uint64pow10" .u64 Lib.pow10Tab):
  Calls Tryz.prog 118 #[.int .i64 n] w fun e w'=>e=.returned (.string ⟨(Lib.itoa n).toArray⟩)∧∃k os,w'=grow (w.drewN k) os:=Any.strconv_Itoa Tryz.laysM171 n h0 h1 w htab
def Tryz.laysC172_ren:Go.Shelf.Ren:=⟨fun|172=>142|244=>177|245=>178|247=>211|279=>212|280=>213|281=>214|282=>215|287=>229|316=>230|171=>118|205=>231|321=>237|322=>238|243=>153|246=>186|283=>218|284=>219|285=>220|286=>221|129=>233|317=>232|318=>234|319=>235|320=>236|337=>239|338=>240|n=>n,fun|9=>9|3=>3|75=>134|76=>135|4=>4|5=>5|167=>207|37=>22|0=>0|85=>208|2=>2|168=>210|53=>215|175=>230|46=>165|210=>234|127=>160|145=>243|143=>241|21=>21|171=>214|173=>218|212=>237|51=>227|20=>20|213=>238|232=>245|233=>246|80=>137|n=>n,fun|15=>3|16=>4|17=>5|18=>6|19=>7|n=>n⟩
theorem Tryz.laysC172:Go.Proofs.LaysC.n172 Tryz.prog Tryz.laysC172_ren:={
 mixed:=by kernel_rfl
 f129:=Tryz.func233.trans (congrArg some (by kernel_rfl))
 f171:=Tryz.func118.trans (congrArg some (by kernel_rfl))
 f172:=Tryz.func142.trans (congrArg some (by kernel_rfl))
 f205:=Tryz.func231.trans (congrArg some (by kernel_rfl))
 f243:=Tryz.func153.trans (congrArg some (by kernel_rfl))
 f244:=Tryz.func177.trans (congrArg some (by kernel_rfl))
 f245:=Tryz.func178.trans (congrArg some (by kernel_rfl))
 f246:=Tryz.func186.trans (congrArg some (by kernel_rfl))
 f247:=Tryz.func211.trans (congrArg some (by kernel_rfl))
 f279:=Tryz.func212.trans (congrArg some (by kernel_rfl))
 f280:=Tryz.func213.trans (congrArg some (by kernel_rfl))
 f281:=Tryz.func214.trans (congrArg some (by kernel_rfl))
 f282:=Tryz.func215.trans (congrArg some (by kernel_rfl))
 f283:=Tryz.func218.trans (congrArg some (by kernel_rfl))
 f284:=Tryz.func219.trans (congrArg some (by kernel_rfl))
 f285:=Tryz.func220.trans (congrArg some (by kernel_rfl))
 f286:=Tryz.func221.trans (congrArg some (by kernel_rfl))
 f287:=Tryz.func229.trans (congrArg some (by kernel_rfl))
 f316:=Tryz.func230.trans (congrArg some (by kernel_rfl))
 f317:=Tryz.func232.trans (congrArg some (by kernel_rfl))
 f318:=Tryz.func234.trans (congrArg some (by kernel_rfl))
 f319:=Tryz.func235.trans (congrArg some (by kernel_rfl))
 f320:=Tryz.func236.trans (congrArg some (by kernel_rfl))
 f321:=Tryz.func237.trans (congrArg some (by kernel_rfl))
 f322:=Tryz.func238.trans (congrArg some (by kernel_rfl))
 f337:=Tryz.func239.trans (congrArg some (by kernel_rfl))
 f338:=Tryz.func240.trans (congrArg some (by kernel_rfl))
 t0:=Tryz.underlying0
 a0:=Tryz.isAgg0
 z0:=Tryz.sizeOf0
 v0:=Tryz.zeroValue0
 t2:=Tryz.underlying2
 a2:=Tryz.isAgg2
 z2:=Tryz.sizeOf2
 v2:=Tryz.zeroValue2
 t3:=Tryz.underlying3
 a3:=Tryz.isAgg3
 z3:=Tryz.sizeOf3
 v3:=Tryz.zeroValue3
 t4:=Tryz.underlying4
 a4:=Tryz.isAgg4
 z4:=Tryz.sizeOf4
 v4:=Tryz.zeroValue4
 t5:=Tryz.underlying5
 a5:=Tryz.isAgg5
 z5:=Tryz.sizeOf5
 v5:=Tryz.zeroValue5
 t9:=Tryz.underlying9
 a9:=Tryz.isAgg9
 z9:=Tryz.sizeOf9
 v9:=Tryz.zeroValue9
 t20:=Tryz.underlying20
 a20:=Tryz.isAgg20
 z20:=Tryz.sizeOf20
 v20:=Tryz.zeroValue20
 t21:=Tryz.underlying21
 a21:=Tryz.isAgg21
 z21:=Tryz.sizeOf21
 v21:=Tryz.zeroValue21
 t37:=Tryz.underlying22
 a37:=Tryz.isAgg22
 z37:=Tryz.sizeOf22
 v37:=Tryz.zeroValue22
 t46:=Tryz.underlying165
 a46:=Tryz.isAgg165
 z46:=Tryz.sizeOf165
 v46:=Tryz.zeroValue165
 t51:=Tryz.underlying227
 a51:=Tryz.isAgg227
 z51:=Tryz.sizeOf227
 v51:=Tryz.zeroValue227
 t53:=Tryz.underlying215
 a53:=Tryz.isAgg215
 z53:=Tryz.sizeOf215
 v53:=Tryz.zeroValue215
 t75:=Tryz.underlying134
 a75:=Tryz.isAgg134
 z75:=Tryz.sizeOf134
 v75:=Tryz.zeroValue134
 t76:=Tryz.underlying135
 a76:=Tryz.isAgg135
 z76:=Tryz.sizeOf135
 v76:=Tryz.zeroValue135
 t85:=Tryz.underlying208
 a85:=Tryz.isAgg208
 z85:=Tryz.sizeOf208
 v85:=Tryz.zeroValue208
 t127:=Tryz.underlying160
 a127:=Tryz.isAgg160
 z127:=Tryz.sizeOf160
 v127:=Tryz.zeroValue160
 t143:=Tryz.underlying241
 a143:=Tryz.isAgg241
 z143:=Tryz.sizeOf241
 v143:=Tryz.zeroValue241
 t145:=Tryz.underlying243
 a145:=Tryz.isAgg243
 z145:=Tryz.sizeOf243
 v145:=Tryz.zeroValue243
 t167:=Tryz.underlying207
 a167:=Tryz.isAgg207
 z167:=Tryz.sizeOf207
 v167:=Tryz.zeroValue207
 t168:=Tryz.underlying210
 a168:=Tryz.isAgg210
 z168:=Tryz.sizeOf210
 v168:=Tryz.zeroValue210
 t171:=Tryz.underlying214
 a171:=Tryz.isAgg214
 z171:=Tryz.sizeOf214
 v171:=Tryz.zeroValue214
 t173:=Tryz.underlying218
 a173:=Tryz.isAgg218
 z173:=Tryz.sizeOf218
 v173:=Tryz.zeroValue218
 t175:=Tryz.underlying230
 a175:=Tryz.isAgg230
 z175:=Tryz.sizeOf230
 v175:=Tryz.zeroValue230
 t210:=Tryz.underlying234
 a210:=Tryz.isAgg234
 z210:=Tryz.sizeOf234
 v210:=Tryz.zeroValue234
 t212:=Tryz.underlying237
 a212:=Tryz.isAgg237
 z212:=Tryz.sizeOf237
 v212:=Tryz.zeroValue237
 t213:=Tryz.underlying238
 a213:=Tryz.isAgg238
 z213:=Tryz.sizeOf238
 t232:=Tryz.underlying245
 a232:=Tryz.isAgg245
 z232:=Tryz.sizeOf245
 v232:=Tryz.zeroValue245
 t233:=Tryz.underlying246
 a233:=Tryz.isAgg246
 z233:=Tryz.sizeOf246
 v233:=Tryz.zeroValue246
 g15:=by kernel_rfl
 g16:=by kernel_rfl
 g17:=by kernel_rfl
 g18:=by kernel_rfl
 g19:=by kernel_rfl
 t80:=Tryz.underlying137
 a80:=Tryz.isAgg137
 z80:=Tryz.sizeOf137
 v80:=Tryz.zeroValue137
 i0:=by kernel_rfl
 i2:=by kernel_rfl
 i3:=by kernel_rfl
 i4:=by kernel_rfl
 i5:=by kernel_rfl
 i9:=by kernel_rfl
 i20:=by kernel_rfl
 i21:=by kernel_rfl
 i37:=by kernel_rfl
 i46:=by kernel_rfl
 i51:=by kernel_rfl
 i53:=by kernel_rfl
 i75:=by kernel_rfl
 i76:=by kernel_rfl
 i80:=by kernel_rfl
 i85:=by kernel_rfl
 i127:=by kernel_rfl
 i143:=by kernel_rfl
 i145:=by kernel_rfl
 i167:=by kernel_rfl
 i168:=by kernel_rfl
 i171:=by kernel_rfl
 i173:=by kernel_rfl
 i175:=by kernel_rfl
 i210:=by kernel_rfl
 i212:=by kernel_rfl
 i232:=by kernel_rfl
 i233:=by kernel_rfl
 m15:=by kernel_rfl
 m16:=by kernel_rfl
 m17:=by kernel_rfl
 m18:=by kernel_rfl
 m19:=by kernel_rfl
 c0:=by kernel_rfl
 c2:=by kernel_rfl
 c3:=by kernel_rfl
 c4:=by kernel_rfl
 c5:=by kernel_rfl
 c9:=by kernel_rfl
 c20:=by kernel_rfl
 c21:=by kernel_rfl
 c37:=by kernel_rfl
 c46:=by kernel_rfl
 c51:=by kernel_rfl
 c53:=by kernel_rfl
 c75:=by kernel_rfl
 c76:=by kernel_rfl
 c80:=by kernel_rfl
 c85:=by kernel_rfl
 c127:=by kernel_rfl
 c143:=by kernel_rfl
 c145:=by kernel_rfl
 c167:=by kernel_rfl
 c168:=by kernel_rfl
 c171:=by kernel_rfl
 c173:=by kernel_rfl
 c175:=by kernel_rfl
 c210:=by kernel_rfl
 c212:=by kernel_rfl
 c213:=by kernel_rfl
 c232:=by kernel_rfl
 c233:=by kernel_rfl}
theorem Tryz.strconv_Atoi_ok (s:ByteArray) (hmax:s.size≤9223372036854775806) (v:Int) (h:Lib.atoiAll s.data.toList=.ok v) (w:World):
  Calls Tryz.prog 142 #[.string s] w fun e w'=>e=.returned (.tuple #[.int .i64 v,.nilIface])∧(w'=w∨∃t,w'=Lib.bytesWorld w 5 t):=Any.strconv_Atoi_ok Tryz.laysC172 s hmax v h w
theorem Tryz.strconv_Atoi_syntax (s:ByteArray) (hlim:s.size≤281474976710656) (h:Lib.atoiAll s.data.toList=Go.Lib.NumEnd.syntax) (ev:Value) (w:World) (hv:w.cell? ⟨3,0,none⟩=some ev) (hev:ev=.nilIface∨∃te pe,ev=.iface te pe):
  Calls Tryz.prog 142 #[.string s] w fun e w'=>∃N,e=.returned (.tuple #[.int .i64 (0),.iface 210 (.pointer (some ⟨N,0,none⟩))])∧w.heap.size≤N∧w'.heap[N]?=some (.cells #[.string ⟨#[65,116,111,105]⟩,.string s,ev] 234 (0,0))∧Below w.heap.size w w':=Any.strconv_Atoi_syntax Tryz.laysC172 s hlim h ev w hv hev
theorem Tryz.strconv_Atoi_range (s:ByteArray) (hlim:s.size≤281474976710656) (h:Lib.atoiAll s.data.toList=.range) (ev:Value) (w:World) (hv:w.cell? ⟨4,0,none⟩=some ev) (hev:ev=.nilIface∨∃te pe,ev=.iface te pe):
  Calls Tryz.prog 142 #[.string s] w fun e w'=>∃N,e=.returned (.tuple #[.int .i64 (Lib.atoiSat s.data.toList),.iface 210 (.pointer (some ⟨N,0,none⟩))])∧w.heap.size≤N∧w'.heap[N]?=some (.cells #[.string ⟨#[65,116,111,105]⟩,.string s,ev] 234 (0,0))∧Below w.heap.size w w':=Any.strconv_Atoi_range Tryz.laysC172 s hlim h ev w hv hev
def Tryz.lays101_ren:Go.Shelf.Ren:=⟨fun|101=>143|208=>179|206=>216|n=>n,fun|9=>9|4=>4|3=>3|n=>n,fun|n=>n⟩
theorem Tryz.lays101:Go.Proofs.Lays.n101 Tryz.prog Tryz.lays101_ren:={
 mixed:=by kernel_rfl
 f101:=Tryz.func143.trans (congrArg some (by kernel_rfl))
 f206:=Tryz.func216.trans (congrArg some (by kernel_rfl))
 f208:=Tryz.func179.trans (congrArg some (by kernel_rfl))
 t3:=Tryz.underlying3
 a3:=Tryz.isAgg3
 z3:=Tryz.sizeOf3
 v3:=Tryz.zeroValue3
 t4:=Tryz.underlying4
 a4:=Tryz.isAgg4
 z4:=Tryz.sizeOf4
 v4:=Tryz.zeroValue4
 t9:=Tryz.underlying9
 a9:=Tryz.isAgg9
 z9:=Tryz.sizeOf9
 v9:=Tryz.zeroValue9}
theorem Tryz.strings_TrimPrefix (s p:ByteArray) (w:World):
  Calls Tryz.prog 143 #[.string s,.string p] w fun e w'=>e=.returned (.string ⟨(Lib.trimPrefix s.data.toList p.data.toList).toArray⟩)∧w'=w:=Any.strings_TrimPrefix Tryz.lays101 s p w
def Tryz.lays102_ren:Go.Shelf.Ren:=⟨fun|102=>50|209=>104|207=>141|n=>n,fun|9=>9|4=>4|3=>3|n=>n,fun|n=>n⟩
theorem Tryz.lays102:Go.Proofs.Lays.n102 Tryz.prog Tryz.lays102_ren:={
 mixed:=by kernel_rfl
 f102:=Tryz.func50.trans (congrArg some (by kernel_rfl))
 f207:=Tryz.func141.trans (congrArg some (by kernel_rfl))
 f209:=Tryz.func104.trans (congrArg some (by kernel_rfl))
 t3:=Tryz.underlying3
 a3:=Tryz.isAgg3
 z3:=Tryz.sizeOf3
 v3:=Tryz.zeroValue3
 t4:=Tryz.underlying4
 a4:=Tryz.isAgg4
 z4:=Tryz.sizeOf4
 v4:=Tryz.zeroValue4
 t9:=Tryz.underlying9
 a9:=Tryz.isAgg9
 z9:=Tryz.sizeOf9
 v9:=Tryz.zeroValue9}
theorem Tryz.strings_TrimSuffix (s p:ByteArray) (w:World) (hs:s.size≤9223372036854775807):
  Calls Tryz.prog 50 #[.string s,.string p] w fun e w'=>e=.returned (.string ⟨(Lib.trimSuffix s.data.toList p.data.toList).toArray⟩)∧w'=w:=Any.strings_TrimSuffix Tryz.lays102 s p w hs
def Tryz.laysM146_ren:Go.Shelf.Ren:=⟨fun|146=>49|221=>103|268=>138|138=>139|143=>140|195=>173|197=>174|218=>175|219=>176|260=>206|217=>207|225=>208|224=>209|267=>210|266=>227|314=>228|n=>n,fun|9=>9|31=>65|3=>3|4=>4|0=>0|105=>183|21=>21|5=>5|46=>165|119=>223|139=>226|138=>225|146=>228|51=>227|n=>n,fun|1=>0|3=>1|4=>2|n=>n⟩
theorem Tryz.laysM146:Go.Proofs.LaysM.n146 Tryz.prog Tryz.laysM146_ren:={
 mixed:=by kernel_rfl
 f138:=Tryz.func139.trans (congrArg some (by kernel_rfl))
 f143:=Tryz.func140.trans (congrArg some (by kernel_rfl))
 f146:=Tryz.func49.trans (congrArg some (by kernel_rfl))
 f195:=Tryz.func173.trans (congrArg some (by kernel_rfl))
 f197:=Tryz.func174.trans (congrArg some (by kernel_rfl))
 f217:=Tryz.func207.trans (congrArg some (by kernel_rfl))
 f218:=Tryz.func175.trans (congrArg some (by kernel_rfl))
 f219:=Tryz.func176.trans (congrArg some (by kernel_rfl))
 f221:=Tryz.func103.trans (congrArg some (by kernel_rfl))
 f224:=Tryz.func209.trans (congrArg some (by kernel_rfl))
 f225:=Tryz.func208.trans (congrArg some (by kernel_rfl))
 f260:=Tryz.func206.trans (congrArg some (by kernel_rfl))
 f266:=Tryz.func227.trans (congrArg some (by kernel_rfl))
 f267:=Tryz.func210.trans (congrArg some (by kernel_rfl))
 f268:=Tryz.func138.trans (congrArg some (by kernel_rfl))
 f314:=Tryz.func228.trans (congrArg some (by kernel_rfl))
 t0:=Tryz.underlying0
 a0:=Tryz.isAgg0
 z0:=Tryz.sizeOf0
 v0:=Tryz.zeroValue0
 t3:=Tryz.underlying3
 a3:=Tryz.isAgg3
 z3:=Tryz.sizeOf3
 v3:=Tryz.zeroValue3
 t4:=Tryz.underlying4
 a4:=Tryz.isAgg4
 z4:=Tryz.sizeOf4
 v4:=Tryz.zeroValue4
 t5:=Tryz.underlying5
 a5:=Tryz.isAgg5
 z5:=Tryz.sizeOf5
 v5:=Tryz.zeroValue5
 t9:=Tryz.underlying9
 a9:=Tryz.isAgg9
 z9:=Tryz.sizeOf9
 v9:=Tryz.zeroValue9
 t21:=Tryz.underlying21
 a21:=Tryz.isAgg21
 z21:=Tryz.sizeOf21
 v21:=Tryz.zeroValue21
 t31:=Tryz.underlying65
 a31:=Tryz.isAgg65
 z31:=Tryz.sizeOf65
 v31:=Tryz.zeroValue65
 t46:=Tryz.underlying165
 a46:=Tryz.isAgg165
 z46:=Tryz.sizeOf165
 v46:=Tryz.zeroValue165
 t51:=Tryz.underlying227
 a51:=Tryz.isAgg227
 z51:=Tryz.sizeOf227
 v51:=Tryz.zeroValue227
 t105:=Tryz.underlying183
 a105:=Tryz.isAgg183
 z105:=Tryz.sizeOf183
 v105:=Tryz.zeroValue183
 t119:=Tryz.underlying223
 a119:=Tryz.isAgg223
 z119:=Tryz.sizeOf223
 t138:=Tryz.underlying225
 a138:=Tryz.isAgg225
 z138:=Tryz.sizeOf225
 v138:=Tryz.zeroValue225
 t139:=Tryz.underlying226
 a139:=Tryz.isAgg226
 z139:=Tryz.sizeOf226
 v139:=Tryz.zeroValue226
 t146:=Tryz.underlying228
 a146:=Tryz.isAgg228
 z146:=Tryz.sizeOf228
 v146:=Tryz.zeroValue228
 g1:=by kernel_rfl
 g3:=by kernel_rfl
 g4:=by kernel_rfl
 i0:=by kernel_rfl
 i3:=by kernel_rfl
 i4:=by kernel_rfl
 i5:=by kernel_rfl
 i9:=by kernel_rfl
 i21:=by kernel_rfl
 i31:=by kernel_rfl
 i46:=by kernel_rfl
 i51:=by kernel_rfl
 i105:=by kernel_rfl
 i138:=by kernel_rfl
 i139:=by kernel_rfl
 i146:=by kernel_rfl
 m1:=by kernel_rfl
 s1_3:=fun w h=>Go.Proofs.cell_of_shapedOpen_int (zero:=#[.int .i64 0]) (t:=3) h (of_decide_eq_true (by kernel_rfl)) (by kernel_rfl) rfl (by kernel_rfl) (by kernel_rfl) Tryz.underlying3
 m3:=by kernel_rfl
 m4:=by kernel_rfl}
end Go.Proofs
namespace Go.Proofs.YtlcfolgfmlgncaaGreatDoor.Ev
open Go Go.Proofs
set_option linter.unusedVariables false
set_option linter.unusedSimpArgs false
def Mo:Hints:=⟨fun f=>(List.lookup f [(24,[.iov,.rd]),(56,[.iov,.rd]),(57,[.iov,.rd]),(119,[.io]),(64,[.io]),(76,[.io]),(66,[.io,.mv]),(77,[.io,.mv]),(120,[.io]),(65,[.io]),(185,[.io]),(157,[.io]),(152,[.io]),(114,[.io]),(115,[.io]),(156,[.io]),(122,[.io,.iov]),(116,[.io,.iov]),(60,[.io]),(75,[.io]),(32,[.io]),(166,[.mv]),(167,[.mv]),(169,[.mv]),(168,[.mv]),(40,[.mv,.rd])]).getD [],fun _=>false⟩
set_option linter.unusedSectionVars false
variable [Anchor]
abbrev Y:=FuncId×List V×V×List V
abbrev RF (fn:Func) (y:Y):Ex→St→Prop:=RetC Tryz.prog Mo y.1 fn y.2.1 y.2.2
theorem Zts {P:Program} (hm:P.follows .mixedOrders=true) (h:P.funcs.toList.all (fun fn=>(match fn.body with|some c=>Xj fn.ntmps c|none=>true)&&!(fn.name == "runtime.NumGoroutine"))=true):FuncsOk P:=by
 rw[List.all_eq_true] at h
 refine⟨hm,fun f fn c hf hc=>?_,fun f fn hf=>?_⟩
 ·have:=h fn (Array.mem_toList_iff.2 (Array.mem_of_getElem? hf))
  rw[hc] at this
  simp only[Bool.and_eq_true] at this
  exact this.1
 ·have:=h fn (Array.mem_toList_iff.2 (Array.mem_of_getElem? hf))
  simp only[Bool.and_eq_true,Bool.not_eq_true'] at this
  exact this.2
theorem fOk:FuncsOk Tryz.prog:=Zts (by kernel_rfl) (by kernel_rfl)
theorem bnK {α β:Type} {x:Option α} {f:α→Option β} {b:β} {G:Prop} (h:x.bind f=some b) (k:∀a,x=some a→f a=some b→G):G:=by
 obtain⟨a,h1,h2⟩:=Zx1 h;exact k a h1 h2
theorem itK {β:Type} {t:Bool} {x y:Option β} {b:β} {G:Prop} (h:(if t=true then x else y)=some b) (k1:t=true→x=some b→G) (k2:t=false→y=some b→G):G:=by
 rcases Zxp h with⟨h1,h2⟩|⟨h1,h2⟩
 ·exact k1 h1 h2
 ·exact k2 h1 h2
theorem rtK {α:Type} {F:α→Y} {fn:Func} {a r:α} {p:Prop} {stk:List It} {s:St} {q:List O} (h:some a=some r) (hp:Scr q p) (e:told (runK Tryz.prog Mo (F a).1 fn (F a).2.1 100000 stk s q)=some (p,(F a).2.2):=by kernel_rfl):SX Tryz.prog (RF fn (F r)) stk .normal s:=by
 cases h;exact Zym fOk 100000 q hp e
theorem cutX {y:Y} {fn:Func} {stk k2:List It} {s:St} {p:Prop} {l:List (Nat×V)} {h:List (Id×Blk)} {ep:Nat} {q:List O} (f:List (Id×Id)) (n:Nat) (hp:Scr q p) (hn:SX Tryz.prog (RF fn y) k2 .normal (mkS l h ep))
  (e:told (cutK Tryz.prog Mo f l h n stk s q)=some (p,(k2,renL f l h)):=by kernel_rfl) (hb:(isC k2&&cutB f l h ep)=true:=by kernel_rfl):SX Tryz.prog (RF fn y) stk .normal s:=Zzg (M:=Mo) fOk f n q hp hn e hb
theorem Zj {α:Type} {F:α→Y} {fn:Func} {r:α} (hfn:Tryz.prog.funcs[(F r).1]?=some fn) (h:SX Tryz.prog (RF fn (F r)) [.c (Zqz fn)] .normal (entS Mo (F r).1 (F r).2.1)) (hc:fn.body=some (Zqz fn):=by kernel_rfl) (hs:(St.enters ⟨fun _=>.undef,fun _=>none,0⟩ 0 (Mo.modes (F r).1) (F r).2.1).isSome=true:=by kernel_rfl):
  Fine Tryz.prog Mo (F r):=Zw8 fOk hfn hc hs h
abbrev CS (y:Y) (fn:Func) (p:List Nat) (l:List (Nat×V)) (h:List (Id×Blk)):Prop:=SX Tryz.prog (RF fn y) (at_ p (Zqz fn) []) .normal (mkS l h 1)
end Go.Proofs.YtlcfolgfmlgncaaGreatDoor.Ev
namespace Go.Proofs.YtlcfolgfmlgncaaGreatDoor.Ev
open Go Go.Proofs Go.RowKit Go.Sort
set_option linter.unusedVariables false
set_option linter.unusedSimpArgs false
class ExtOk [A:Anchor]:Prop where
 tab:Lib.TabIs Tryz.prog A.w "internal/strconv.uint64pow10" .u64 Lib.pow10Tab
 maxLen:∃m,A.w.cell? ⟨0,0,none⟩=some (.int .i64 m)
 errS:∃ev,A.w.cell? ⟨3,0,none⟩=some ev∧(ev=.nilIface∨∃te pe,ev=.iface te pe)
 errR:∃ev,A.w.cell? ⟨4,0,none⟩=some ev∧(ev=.nilIface∨∃te pe,ev=.iface te pe)
theorem Zpo {P:Program} [A:Anchor] {w:World} {T:Nat→Prop} (hA:Anch w T) {name:String} {cs:Array Value} (h:A.w.var? P name=some cs):w.var? P name=some cs:=by
 unfold World.var? at h ⊢
 obtain⟨g,hg,h⟩:=Option.bind_eq_some_iff.1 h
 rw[hg,Option.bind_some]
 have hlt:g < A.w.heap.size:=by
  rcases Nat.lt_or_ge g A.w.heap.size with h'|h'
  ·exact h'
  ·rw[Array.getElem?_eq_none h'] at h;cases h
 rw[hA.2.1 g hlt];exact h
theorem Zix [A:Anchor] {w:World} {T:Nat→Prop} (hA:Anch w T) {g o:Nat} {v:Value} (h:A.w.cell? ⟨g,o,none⟩=some v):w.cell? ⟨g,o,none⟩=some v:=by
 rw[Zng (hA.2.1 g (Zkc h))];exact h
theorem us1 {us:List Value} (h:us.length=1):∃u,us=[u]:=by
 match us,h with
 | [u],_=>exact⟨u,rfl⟩
theorem us2 {us:List Value} (h:us.length=2):∃u v,us=[u,v]:=by
 match us,h with
 | [u,v],_=>exact⟨u,v,rfl⟩
abbrev Znl (x0:Int) (r:ByteArray):Y:=(118,[.lit (.int .i64 x0)],.lit (.string r),[.undef])
theorem Znh [Anchor] [ExtOk] {x0:Int} {r:ByteArray} (h:Zak x0=some r):Fine Tryz.prog Mo (Znl x0 r):=by
 unfold Zak at h
 split at h
 case isFalse=>cases h
 rename_i h0
 injection h with h;subst h
 refine Zkb (xs:=[.lit (.int .i64 x0)]) ⟨_,Tryz.func118,by kernel_rfl⟩ (by kernel_rfl) (Znj rfl) fun w us ok hA hok hl he=>?_
 obtain⟨u,rfl⟩:=us1 hl
 obtain rfl:=Zdl (he 0 u _ rfl rfl (fun _=>none))
 refine (Tryz.strconv_Itoa x0 h0.1 h0.2 w (Zpo hA ExtOk.tab)).mono fun e w' ⟨he,k,os,hw⟩=>⟨he,?_⟩
 subst hw
 refine⟨rfl,rfl,rfl,?_,fun j hj=>?_⟩
 ·show w.heap.size≤(w.heap++os).size
  rw[Array.size_append];omega
 ·show (w.heap++os)[j]?=w.heap[j]?
  rw[Array.getElem?_append_left hj]
abbrev Znv (x0:List ByteArray) (x1:ByteArray) (r:ByteArray):Y:=(53,[.tr (x0.map encS),.lit (.string x1)],.lit (.string r),[.undef,.undef])
theorem Zaj [Anchor] [ExtOk] {x0:List ByteArray} {x1:ByteArray} {r:ByteArray} (h:Xa x0 x1=some r):Fine Tryz.prog Mo (Znv x0 x1 r):=by
 unfold Xa at h
 split at h
 case isFalse=>cases h
 rename_i h0
 injection h with h;subst h
 refine Zkb (xs:=[.tr (x0.map encS),.lit (.string x1)]) ⟨_,Tryz.func53,by kernel_rfl⟩ (by kernel_rfl) (Znj rfl) fun w us ok hA hok hl he=>?_
 obtain⟨u,v,rfl⟩:=us2 hl
 obtain rfl:=Zdl (he 1 v _ rfl rfl (fun _=>none))
 rcases Zyk (he 0 u _ rfl rfl (fun _=>none)) with⟨A,c,rfl,rfl⟩|⟨g,o,c,rfl,hg,hc,hcells⟩
 ·refine (Tryz.strings_Join_none A c x1 w).mono fun e w' ⟨he,hw⟩=>⟨he,?_⟩
  subst hw;exact RowKit.Below.refl _ _
 ·exact Tryz.strings_Join g o c x0 x1 w hcells (hok g hg) h0.1 hc h0.2
abbrev Zhi (x0 x1:ByteArray) (r:ByteArray):Y:=(50,[.lit (.string x0),.lit (.string x1)],.lit (.string r),[.undef,.undef])
theorem Zh0 [Anchor] [ExtOk] {x0 x1:ByteArray} {r:ByteArray} (h:Yz x0 x1=some r):Fine Tryz.prog Mo (Zhi x0 x1 r):=by
 unfold Yz at h
 split at h
 case isFalse=>cases h
 rename_i h0
 injection h with h;subst h
 refine Zkb (xs:=[.lit (.string x0),.lit (.string x1)]) ⟨_,Tryz.func50,by kernel_rfl⟩ (by kernel_rfl) (Znj rfl) fun w us ok hA hok hl he=>?_
 obtain⟨u,v,rfl⟩:=us2 hl
 obtain rfl:=Zdl (he 0 u _ rfl rfl (fun _=>none))
 obtain rfl:=Zdl (he 1 v _ rfl rfl (fun _=>none))
 refine (Tryz.strings_TrimSuffix x0 x1 w h0).mono fun e w' ⟨he,hw⟩=>⟨he,?_⟩
 subst hw;exact RowKit.Below.refl _ _
abbrev Zl2 (x0 x1:ByteArray) (r:List ByteArray):Y:=(49,[.lit (.string x0),.lit (.string x1)],.tr (r.map encS),[.undef,.undef])
theorem Zca [Anchor] [ExtOk] {x0 x1:ByteArray} {r:List ByteArray} (h:Xx x0 x1=some r):Fine Tryz.prog Mo (Zl2 x0 x1 r):=by
 unfold Xx at h
 split at h
 case isFalse=>cases h
 rename_i h0
 injection h with h;subst h
 obtain⟨m,hm⟩:=ExtOk.maxLen
 have hlen:(Lib.splitB x1 0 (Lib.countB x0 x1) x0).length=Lib.countB x0 x1+1:=Lib.splitB_all x1 h0.2 0 _ x0 rfl
 refine Zwr (e:=9) (xs:=[.lit (.string x0),.lit (.string x1)]) ⟨_,Tryz.func49,by kernel_rfl⟩ (by kernel_rfl) (by have:=Lib.countB_le x1 h0.2 x0.size x0 (Nat.le_refl _);rw[hlen];unfold maxLen;omega) fun w us ok hA hok hl he=>?_
 obtain⟨u,v,rfl⟩:=us2 hl
 obtain rfl:=Zdl (he 0 u _ rfl rfl (fun _=>none))
 obtain rfl:=Zdl (he 1 v _ rfl rfl (fun _=>none))
 rw[hlen]
 exact Any.strings_Split {Tryz.laysM146 with} Tryz.laysM146.i9 x0 x1 m w h0.1 (Zix hA hm) h0.2
theorem Zxu (n:Int) (h0:-9223372036854775808≤n) (h1:n≤9223372036854775807) (w:World) (htab:Lib.TabIs Tryz.prog w "internal/strconv.uint64pow10" .u64 Lib.pow10Tab):
  Calls Tryz.prog 63 #[.int .i64 n] w fun e w'=>e=.returned (.string ⟨(Lib.itoa n).toArray⟩)∧∃k os,w'=grow (w.drewN k) os:=by
 have c:=Tryz.strconv_Itoa n h0 h1 w htab
 go_enter Tryz.func63,Tryz.ntmps63
 go_wp2_with (go_at_call 118;go_fit c;rintro e w' ⟨rfl,k,os,rfl⟩)
 go_ret
 exact⟨rfl,_,_,rfl⟩
def numV (s:ByteArray) (d v:Int):Int×Bool:=if Lib.itoa v=s.data.toList∧((Lib.trimPrefix s.data.toList [45]).length:Int)≤d then (v,true) else (0,false)
theorem Zux (s:ByteArray) (d:Int) (w:World) (hlim:s.size≤281474976710656) (h:Lib.atoiAll s.data.toList=.«syntax») (ev:Value) (hv:w.cell? ⟨3,0,none⟩=some ev) (hev:ev=.nilIface∨∃te pe,ev=.iface te pe):
  Calls Tryz.prog 105 #[.string s,.int .i64 d] w fun e w'=>e=.returned (.tuple #[.int .i64 0,.bool false])∧Below w.heap.size w w':=by
 have c:=Tryz.strconv_Atoi_syntax s hlim h ev w hv hev
 go_enter Tryz.func105,Tryz.ntmps105
 go_wp2_with (go_at_call 142;go_fit c;rintro e w1 ⟨N,rfl,hN,hc,hb⟩)
 go_ret2
 exact⟨rfl,hb⟩
theorem Zp9 (s:ByteArray) (d:Int) (w:World) (hlim:s.size≤281474976710656) (h:Lib.atoiAll s.data.toList=.range) (ev:Value) (hv:w.cell? ⟨4,0,none⟩=some ev) (hev:ev=.nilIface∨∃te pe,ev=.iface te pe):
  Calls Tryz.prog 105 #[.string s,.int .i64 d] w fun e w'=>e=.returned (.tuple #[.int .i64 0,.bool false])∧Below w.heap.size w w':=by
 have c:=Tryz.strconv_Atoi_range s hlim h ev w hv hev
 go_enter Tryz.func105,Tryz.ntmps105
 go_wp2_with (go_at_call 142;go_fit c;rintro e w1 ⟨N,rfl,hN,hc,hb⟩)
 go_ret2
 exact⟨rfl,hb⟩
theorem Zvb (s:ByteArray) (d:Int) (w:World) (v:Int) (hmax:s.size≤281474976710656) (h:Lib.atoiAll s.data.toList=.ok v) (h0:-9223372036854775808≤v) (h1:v≤9223372036854775807) (htab:∀w',Below w.heap.size w w'→Lib.TabIs Tryz.prog w' "internal/strconv.uint64pow10" .u64 Lib.pow10Tab):
  Calls Tryz.prog 105 #[.string s,.int .i64 d] w fun e w'=>e=.returned (.tuple #[.int .i64 (numV s d v).1,.bool (numV s d v).2])∧Below w.heap.size w w':=by
 have c:=Tryz.strconv_Atoi_ok s (by omega) v h w
 go_enter Tryz.func105,Tryz.ntmps105
 go_wp2_with (go_at_call 142;go_fit c;rintro e w1 ⟨rfl,hw⟩)
 have hb1:RowKit.Below w.heap.size w w1:=by
  rcases hw with rfl|⟨t,rfl⟩
  ·exact Below.refl _ _
  ·exact Lib.bytesWorld_below _ _ _
 have cD:=Zxu v h0 h1 w1 (htab w1 hb1)
 clear hw
 go_wp2_with (first|(go_at_call 63;go_fit cD;rintro e w2 ⟨rfl,k,os,rfl⟩)|(go_at_call 143;refine (Tryz.strings_TrimPrefix s ⟨#[45]⟩ _).mono ?_;rintro e w3 ⟨rfl,rfl⟩))
 all_goals go_ret2
 all_goals (
  have hg:RowKit.Below w.heap.size w (grow (w1.drewN k) os):=by
   refine⟨hb1.os,hb1.tape,hb1.output,?_,fun j hj=>?_⟩
   ·show w.heap.size≤(w1.heap++os).size
    have:=hb1.size
    rw[Array.size_append];omega
   ·show (w1.heap++os)[j]?=w.heap[j]?
    have:=hb1.size
    rw[Array.getElem?_append_left (by omega)]
    exact hb1.block j hj
  refine⟨?_,hg⟩)
 ·rename_i e1 e2
  have:numV s d v=(0,false):=by unfold numV;rw[if_neg (by omega)]
  rw[this];rfl
 ·rename_i e1 e2
  have:numV s d v=(v,true):=by unfold numV;rw[if_pos ⟨by rw[e1,Lib.toList_data],e2⟩]
  rw[this];rfl
 ·rename_i e1
  have:numV s d v=(0,false):=by unfold numV;rw[if_neg (fun h=>e1 (by rw[Lib.toList_data];exact h.1))]
  rw[this];rfl
abbrev Zms (x0:ByteArray) (x1:Int) (r:Int×Bool):Y:=(105,[.lit (.string x0),.lit (.int .i64 x1)],.tup [.lit (.int .i64 r.1),.lit (.bool r.2)],[.undef,.undef])
theorem Zy2 {P:Program} {u v:Value} (hu:Xq u=true) (hv:Xq v=true) (w':World) (ok top:Nat→Prop):ResR P w' ok top (.tuple #[u,v]) (.tup [.lit u,.lit v]) []:=
 ⟨#[u,v],rfl,.cons (f1:=[]) (f2:=[]) (show Giv P w' ok top u (.lit u) [] from .lit hu) (.cons (f1:=[]) (f2:=[]) (show Giv P w' ok top v (.lit v) [] from .lit hv) .nil)⟩
theorem Zlw {l:List UInt8} {v:Int} (h:Lib.atoiAll l=.ok v):-9223372036854775808≤v∧v≤9223372036854775807:=by
 unfold Lib.atoiAll at h
 split at h
 ·cases h
 ·simp only at h
  split at h
  ·cases h
  ·cases h
  ·rename_i u hu
   split at h
   ·cases h
   ·rename_i h1
    split at h
    ·cases h
    ·rename_i h2
     injection h with h
     split at h
     ·rename_i h3
      have:u≤9223372036854775808:=Nat.le_of_not_lt fun hh=>h2 ⟨h3,hh⟩
      omega
     ·rename_i h3
      have:u < 9223372036854775808:=Nat.lt_of_not_le fun hh=>h1 ⟨h3,hh⟩
      omega
theorem Zhr [Anchor] [ExtOk] {x0:ByteArray} {x1:Int} {r:Int×Bool} (h:Wj x0 x1=some r):Fine Tryz.prog Mo (Zms x0 x1 r):=by
 have key:∀(q:Int×Bool),(∀(w:World),Anch w (fun _=>False)→Calls Tryz.prog 105 #[.string x0,.int .i64 x1] w fun e w'=>e=.returned (.tuple #[.int .i64 q.1,.bool q.2])∧RowKit.Below w.heap.size w w')→Fine Tryz.prog Mo (Zms x0 x1 q):=fun q hq=>by
  refine Zkb (xs:=[.lit (.string x0),.lit (.int .i64 x1)]) (v:=.tuple #[.int .i64 q.1,.bool q.2]) ⟨_,Tryz.func105,by kernel_rfl⟩ (by kernel_rfl) (Zy2 rfl rfl) fun w us ok hA hok hl he=>?_
  obtain⟨u,v,rfl⟩:=us2 hl
  obtain rfl:=Zdl (he 0 u _ rfl rfl (fun _=>none))
  obtain rfl:=Zdl (he 1 v _ rfl rfl (fun _=>none))
  exact hq w hA
 unfold Wj at h
 split at h
 case isFalse=>cases h
 rename_i h0
 cases hq:Lib.atoiAll x0.data.toList with
 | ok v=>
  rw[hq] at h
  have hr:r=numV x0 x1 v:=by
   unfold numV
   simp only at h
   split at h<;>rename_i hc<;>injection h with h
   ·rw[if_pos hc,←h]
   ·rw[if_neg hc,←h]
  rw[hr]
  refine key _ fun w hA=>Zvb x0 x1 w v h0 hq (Zlw hq).1 (Zlw hq).2 fun w' hb=>Zpo (T:=fun _=>False) ⟨Nat.le_trans hA.1 hb.size,fun k hk=>by rw[hb.block k (Nat.lt_of_lt_of_le hk hA.1)];exact hA.2.1 k hk,fun g hg=>hg.elim⟩ ExtOk.tab
 | «syntax»=>
  rw[hq] at h
  injection h with h
  obtain⟨ev,he,hev⟩:=ExtOk.errS
  rw[←h]
  exact key _ fun w hA=>Zux x0 x1 w h0 hq ev (Zix hA he) hev
 | range=>
  rw[hq] at h
  injection h with h
  obtain⟨ev,he,hev⟩:=ExtOk.errR
  rw[←h]
  exact key _ fun w hA=>Zp9 x0 x1 w h0 hq ev (Zix hA he) hev
end Go.Proofs.YtlcfolgfmlgncaaGreatDoor.Ev
