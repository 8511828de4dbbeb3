/- A part of the proof of FnLogs: see the text YtlcfolgfmlgncaaGreatDoorLawFnLogs for what is proved and its conditions. Conditions here: those in each line. -/
import Derived.Test.YtlcfolgfmlgncaaGreatDoorA2
import Derived.KernelRfl
import Derived.Lib.AtoiAll
import Derived.Lib.ItoaNum
import Derived.Lib.Join
import Derived.Lib.Split
import Derived.Lib.Strings
import Derived.Shelf.LaysC
import Derived.Shelf.LaysM
import Derived.Shelf.Strconv.AtoiAll
import Derived.Shelf.Strconv.Itoa3
import Derived.Shelf.Strings.OnBuilder
import Derived.Shelf.Strings.Prefix
import Derived.Shelf.Strings.SplitShaped
import Derived.Test.YtlcfolgfmlgncaaGreatDoorProg
import GoSem.ClaimData
namespace Go.Proofs.YtlcfolgfmlgncaaGreatDoor.Ev
open Go Go.RowKit KM
set_option linter.unusedVariables false
set_option linter.unusedSimpArgs false
set_option linter.unusedSectionVars false
variable [Anchor]
section
variable {P:Program} {M:Hints}
def Zsy (ts:List (Option TypeId)) (x:V) (s:St):KM (V×St):=
 match x with
 | .agg cs=>bnd (Zgd ts cs s) fun y=>ret (.agg y.1,y.2)
 | .ptr id 0 0=>bnd (Zk7 s ts id) fun y=>ret (.obx y.1,y.2)
 | x=>Zis s (ts.headD none) x
theorem Z1p {s:St} {ts:List (Option TypeId)} {x:V}:KS (Zsy ts x s) (s.liftOne ts x):=by
 unfold Zsy
 split
 ·exact Yn Ziw
 ·exact Yn Zm3
 ·rename_i _ h1 h2
  have:s.liftOne ts x=s.giveCell (ts.headD none) x:=by
   unfold St.liftOne
   split<;>simp_all
  rw[this];exact Zkk
def Zsq (P:Program):List TypeId→List V→(s:St)→KM (List V×St)
 | _,[],s=>ret ([],s)
 | ts,x::r,s=>bnd (Zsy (Znl P (ts.headD 0)) x s) fun y=>bnd (Zsq P ts.tail r y.2) fun z=>ret (y.1::z.1,z.2)
theorem Z1m:∀{xs:List V} {s:St} {ts:List TypeId},KS (Zsq P ts xs s) (s.liftAll P ts xs):=by
 intro xs
 induction xs with
 | nil=>intro s ts;exact Yy
 | cons x xs ih=>intro s ts;exact J0 Z1p fun y=>Yn ih
def Zc7 (p:Nat):(k:Nat)→List V→(s:St)→KM (List V×St)
 | _,[],s=>ret ([],s)
 | k,x::r,s=>match x with
  | .own e rows=>bnd (Znd s (0,64*p+k) 0 rows.length) fun er=>if er.1=e then bnd (Zc7 p (k+1) r (s.kill (0,64*p+k))) fun z=>ret (.own er.1 er.2::z.1,z.2) else fail
  | _=>bnd (Zc7 p (k+1) r s) fun z=>ret (.undef::z.1,z.2)
theorem Zpx {p:Nat}:∀{xs:List V} {k:Nat} {s:St},KS (Zc7 p k xs s) (s.outCells p k xs):=by
 intro xs
 induction xs with
 | nil=>intro k s;exact Yy
 | cons x xs ih=>
  intro k s
  cases x with
  | own e rows=>
   simp only[Zc7,St.outCells]
   refine Za Zmr (fun er he=>?_)
   rw[he,Option.bind_some]
   refine Yi (fun hx=>?_) (fun _=>Zc)
   rw[if_pos hx]
   exact Yn ih
  | _=>
   simp only[Zc7,St.outCells]
   exact Yn ih
def outK (p:Nat) (ts:List (Option TypeId)) (m:Mode) (x:V) (s:St):KM (V×St):=
 match m with
 | .rd|.mv=>ret (.undef,s)
 | .io=>match x with
  | .agg cs=>bnd (Zk7 s ts (0,64*p+63)) fun y=>if y.1.length=cs.length then ret (.agg y.1,y.2) else fail
  | _=>fail
 | .iov=>match x with
  | .agg cs=>bnd (Zc7 p 0 cs s) fun y=>ret (.agg y.1,y.2)
  | x=>bnd (Zc7 p 0 [x] s) fun y=>bnd (opt y.1.head?) fun v=>ret (v,y.2)
theorem Yba {s:St} {p:Nat} {ts:List (Option TypeId)} {m:Mode} {x:V}:KS (outK p ts m x s) (s.out p ts m x):=by
 cases m
 ·exact Yy
 ·cases x with
  | agg cs=>
   simp only[outK,St.out]
   refine Za Zm3 (fun y hy=>?_)
   rw[hy]
   simp only[Option.bind_some]
   refine Yi (fun hx=>?_) (fun _=>Zc)
   rw[if_pos hx]
   exact Zh rfl
  | _=>exact Zc
 ·exact Yy
 ·cases x with
  | agg cs=>exact Yn Zpx
  | _=>simp only[outK,St.out];exact J0 Zpx fun y=>Yn Zib
def Z5s (P:Program):(p:Nat)→List TypeId→List Mode→List V→(s:St)→KM (List V)
 | _,_,_,[],s=>ret []
 | p,ts,ms,x::r,s=>bnd (outK p (Znl P (ts.headD 0)) (ms.headD .rd) x s) fun y=>bnd (Z5s P (p+1) ts.tail ms.tail r y.2) fun z=>ret (y.1::z)
theorem Z9w:∀{xs:List V} {s:St} {p:Nat} {ts:List TypeId} {ms:List Mode},KS (Z5s P p ts ms xs s) (s.outs P p ts ms xs):=by
 intro xs
 induction xs with
 | nil=>intro s p ts ms;exact Yy
 | cons x xs ih=>intro s p ts ms;exact J0 Yba fun y=>Yn ih
def retK (P:Program) (M:Hints) (f:FuncId) (fn:Func) (xs:List V) (s:St):KM (V×List V):=
 bnd (opt (resV P s fn.results.toList)) fun vs=>bnd (Zsq P fn.resultTypes.toList vs s) fun z=>bnd (Z5s P 0 fn.params.toList (M.modes f) xs z.2) fun os=>ret (Zpq z.1,os)
theorem Z31 {f:FuncId} {fn:Func} {xs:List V} {s:St}:KS (retK P M f fn xs s) ((resV P s fn.results.toList).bind fun vs=>(s.liftAll P fn.resultTypes.toList vs).bind fun z=>(z.2.outs P 0 fn.params.toList (M.modes f) xs).map fun os=>(Zpq z.1,os)):=
 J0 Zib fun vs=>J0 Z1m fun z=>Yn Z9w
def Z5b (P:Program) (M:Hints) (s:St) (k:Nat) (g:FuncId) (args:List V):KM (V×St):=
 if args.length≤8 then bnd (Zzp P (((P.funcs[g]?).map (·.params.toList)).getD []) (M.modes g) args s) fun y=>bnd (Zu4 y.2 (M.modes g) y.1) fun xs=>bnd hear fun o=>match o with
  | .res r os=>bnd (obl (Fine P M (g,xs,r,os))) fun _=>if ((Zn9 r||os.any Za6)&&!Zcv (M.modes g) args)=true then fail else
   bnd (Z0v s.ep (M.modes g) (16*k+8) args os y.2) fun s'=>opt (s'.takeRes s.ep (16*k) r)
  | _=>fail
 else fail
theorem Z91 (hP:FuncsOk P) {s:St} {k:Nat} {g:FuncId} {args:List V}:KP (Z5b P M s k g args) (fun y=>∃C,Kr P M C∧Zeq P M C s k g args=some y):=by
 unfold Z5b
 refine Yi (fun h8=>?_) (fun _=>Zc)
 refine Za Z7y (fun y hy=>Za Z60 (fun xs hx=>Za Y1 (fun o _=>?_)))
 split
 ·rename_i r os
  refine Za Zl (fun _ hf=>Yi (fun _=>Zc) (fun ht=>Za Z7t (fun s' hs=>Qq.mono fun z hz=>⟨one (g,xs,r,os),one_ok hP hf,?_⟩)))
  unfold Zeq
  rw[if_pos h8,hy,Option.bind_some,hx,Option.bind_some]
  have h1:one (g,xs,r,os) g xs=some (r,os):=by unfold one;rw[if_pos ⟨rfl,rfl⟩]
  rw[h1,Option.bind_some]
  simp only
  rw[if_neg ht,hs,Option.bind_some,hz]
 ·exact Zc
def Zzd (s:St) (all:Bool) (x:V) (m:List (List V)) (lb:Bool):KM St:=
 match x with
 | .sl id off len=>if id.1=s.ep∨all=true then (if lb=true then bnd (Znd s id off len) fun er=>bnd (obl (er.2=m)) fun _=>ret (s.kill id) else match s.heap id with
   | some b=>if b.cl=false then bnd (Zgq s (.sl id off len)) fun rows=>bnd (obl (rows=m)) fun _=>bnd (obl (We m=lb)) fun _=>ret s else fail
   | none=>fail)
  else bnd (Zgq s x) fun rows=>bnd (obl (rows=m)) fun _=>bnd (obl (We m=lb)) fun _=>ret s
 | x=>bnd (Zgq s x) fun rows=>bnd (obl (rows=m)) fun _=>bnd (obl (We m=lb)) fun _=>ret s
theorem Z68 {s:St} {all:Bool} {x:V} {m:List (List V)} {lb:Bool}:KP (Zzd s all x m lb) (fun s1=>s.moved all x=some (m,lb,s1)):=by
 unfold Zzd
 split
 ·rename_i id off len
  simp only[St.moved]
  refine Yi (fun hx=>Yi (fun hl=>?_) (fun _=>?_)) (fun hn=>?_)
  ·refine Za Zmr (fun er he=>Za Zl (fun _ hm=>Zh ?_))
   rw[if_pos hx,he,hl]
   simp only[hm]
  ·split
   ·rename_i b hb
    refine Yi (fun hc=>?_) (fun _=>Zc)
    refine Za Jm (fun rows hr=>Za Zl (fun _ hm=>Za Zl (fun _ hl=>Zh ?_)))
    have hw:s.whole id off len=none:=by
     unfold St.whole
     rw[hb,Option.bind_some,if_neg (fun h=>by rw[hc] at h;cases h.2.2.1)]
    rw[if_pos hx,hw,hr]
    simp only[Option.map_some,hm,hl]
   ·exact Zc
  ·refine Za Jm (fun rows hr=>Za Zl (fun _ hm=>Za Zl (fun _ hl=>Zh ?_)))
   rw[if_neg hn,hr]
   simp only[Option.map_some,hm,hl]
 ·rename_i _ hne
  refine Za Jm (fun rows hr=>Za Zl (fun _ hm=>Za Zl (fun _ hl=>Zh ?_)))
  have:s.moved all x=(s.rowsOf x).map fun rows=>(rows,We rows,s):=by
   unfold St.moved
   split<;>simp_all
  rw[this,hr]
  simp only[Option.map_some,hm,hl]
def appK (P:Program) (all:Bool) (s:St) (id:Id) (t:TypeId) (b x:V):KM (V×St):=
 bnd (opt (Yk P t)) fun e=>bnd hear fun o=>match o with
 | .app m lb R n=>bnd (Zzd s all x m lb) fun s1=>if Zf P e≠0∧Zfz P e=true then bnd (obl (Za5 (Zf P e) m=true)) fun _=>
  match b with
  | .lit (.slice none 0 0)=>bnd (obl (m.length*P.bytesOf e≤140737488355328∧m.length≤9223372036854775807)) fun _=>bnd (obl (m=R)) fun _=>bnd (obl (n=R.length)) fun _=>ret (.sl id 0 n,s1.setB id ⟨false,true,lb,e,R⟩)
  | .sl i 0 len=>match s1.heap i with
   | some k=>if k.box=false∧k.own=true∧k.el=e then bnd (obl (len=k.rows.length)) fun _=>bnd (obl ((len+m.length)*P.bytesOf e≤140737488355328∧len+m.length≤9223372036854775807)) fun _=>
     bnd (obl (k.rows++m=R)) fun _=>bnd (obl (n=R.length)) fun _=>ret (.sl id 0 n,(s1.kill i).setB id ⟨false,true,k.cl&&lb,e,R⟩) else fail
   | none=>fail
  | _=>fail
  else fail
 | _=>fail
theorem Ybs {all:Bool} {s:St} {id:Id} {t:TypeId} {b x:V}:KS (appK P all s id t b x) (Zcn P all s id t b x):=by
 unfold appK Zcn
 refine J0 Zib fun e=>Za Y1 (fun o _=>?_)
 split
 ·rename_i m lb R n
  refine Za Z68 (fun s1 hm=>Yi (fun hz=>Za Zl (fun _ ha=>?_)) (fun _=>Zc))
  rw[hm,Option.bind_some,if_pos ⟨ha,hz.1,hz.2⟩]
  split
  ·refine Za Zl (fun _ h1=>Za Zl (fun _ h2=>Za Zl (fun _ h3=>Zh ?_)))
   rw[if_pos h1,h3,h2]
   rfl
  ·rename_i i len
   simp only
   split
   ·rename_i k hk
    refine Yi (fun hx=>?_) (fun _=>Zc)
    refine Za Zl (fun _ h0=>Za Zl (fun _ h1=>Za Zl (fun _ h2=>Za Zl (fun _ h3=>Zh ?_))))
    rw[hk,Option.bind_some,if_pos ⟨hx.1,hx.2.1,by omega,hx.2.2,h1⟩,h3,←h2,List.drop_zero,List.length_append,h0]
   ·exact Zc
  ·exact Zc
 ·exact Zc
def Zyd (c:Bool):KM Bool:=bnd hear fun o=>match o with
 | .t e=>bnd (obl (c=e)) fun _=>ret e
 | .k=>ret c
 | _=>fail
theorem Zyh {c:Bool}:KP (Zyd c) (fun e=>c=e):=by
 unfold Zyd
 refine Za Y1 (fun o _=>?_)
 split
 ·exact Za Zl (fun _ h=>Zh h)
 ·exact Zh rfl
 ·exact Zc
def Zks (p:Prop) [Decidable p]:KM Unit:=bnd hear fun o=>match o with
 | .k=>if p then ret () else fail
 | .obl=>obl p
 | _=>fail
theorem Zic {p:Prop} [Decidable p]:KP (Zks p) (fun _=>p):=by
 unfold Zks
 refine Za Y1 (fun o _=>?_)
 split
 ·exact Yi (fun h=>Zh h) (fun _=>Zc)
 ·exact Zl
 ·exact Zc
def Z6c (op:BinOp) (k k':IntKind) (a b:Int):KM V:=
 match op with
 | .shl=>bnd (Zks (0≤b)) fun _=>ret (.lit (.int k (k.wrap (a*2^min b.toNat k.bits))))
 | .shr=>bnd (Zks (0≤b)) fun _=>ret (.lit (.int k (a.fdiv (2^min b.toNat k.bits))))
 | .quo=>if k=k' then bnd (Zks (b≠0)) fun _=>ret (.lit (.int k (k.wrap (a.tdiv b)))) else fail
 | .rem=>if k=k' then bnd (Zks (b≠0)) fun _=>ret (.lit (.int k (a.tmod b))) else fail
 | op=>opt (binI op k k' a b)
theorem Z9c {op:BinOp} {k k':IntKind} {a b:Int}:KS (Z6c op k k' a b) (binI op k k' a b):=by
 unfold Z6c
 split
 ·refine Za Zic (fun _ h=>Zh ?_)
  simp only[binI];rw[if_neg (by omega)]
 ·refine Za Zic (fun _ h=>Zh ?_)
  simp only[binI];rw[if_neg (by omega)]
 ·refine Yi (fun hk=>Za Zic (fun _ h=>Zh ?_)) (fun _=>Zc)
  simp only[binI];rw[if_pos hk,if_neg h]
 ·refine Yi (fun hk=>Za Zic (fun _ h=>Zh ?_)) (fun _=>Zc)
  simp only[binI];rw[if_pos hk,if_neg h]
 ·exact Zib
def Z5m (op:BinOp) (a b:ByteArray):KM V:=
 match op with
 | .add=>bnd (Zks (¬((a.size+b.size:Nat):Int) > IntKind.i64.max)) fun _=>ret (.lit (.string (a++b)))
 | op=>opt (binS op a b)
theorem Yaj {op:BinOp} {a b:ByteArray}:KS (Z5m op a b) (binS op a b):=by
 unfold Z5m
 split
 ·refine Za Zic (fun _ h=>Zh ?_)
  simp only[binS];rw[if_neg h]
 ·exact Zib
def opK (P:Program) (M:Hints) (f:Operand→V) (s:St) (k:Nat) (o:Oper):KM (V×St):=
 match o.op with
 | .binOp op t x y yt=>match f x,f y with
  | .lit (.int k1 a),.lit (.int k2 b)=>bnd (Z6c op k1 k2 a b) fun v=>ret (v,s)
  | .lit (.string a),.lit (.string b)=>bnd (Z5m op a b) fun v=>ret (v,s)
  | .lit (.bool a),.lit (.bool b)=>match op,P.underlying t with
   | .eql,some .bool=>ret (.lit (.bool (a == b)),s)
   | .neq,some .bool=>ret (.lit (.bool (a != b)),s)
   | _,_=>fail
  | .agg xs,.agg ys=>if (W2 xs).isSome=true∧(W2 ys).isSome=true∧Zo2 P t xs=true then bnd (opt (Q0 xs ys)) fun b=>match op with
   | .eql=>ret (.lit (.bool b),s)
   | .neq=>ret (.lit (.bool (!b)),s)
   | _=>fail
   else fail
  | a,.lit (.slice none 0 0)=>match a with
   | .sl ..|.tr _|.vw _=>if (Yk P t).isSome=true then bnd (Zgq s a) fun rows=>bnd (obl (rows≠[])) fun _=>match op with
    | .eql=>ret (.lit (.bool false),s)
    | .neq=>ret (.lit (.bool true),s)
    | _=>fail
    else fail
   | _=>opt (Zq P M Zu f s k o)
  | _,_=>opt (Zq P M Zu f s k o)
 | .buildSlice t n parts=>bnd (opt (Yk P t)) fun e=>bnd (opt (if n*Zf P e=0 then some [] else K8 P e)) fun z=>
  if Zf P e=0∨n*Zf P e > 1048576∨Zfz P e=false then fail else
  bnd (opt (Zfr P (fun i=>some (i*Zf P e,Zf P e)) (List.replicate n z).flatten (parts.toList.map fun p=>(p.1,f p.2)))) fun cs=>
   bnd (Zqo (Zf1 (Zf P e) n cs) s) fun y=>ret (.sl (s.ep,1024*k) 0 n,y.2.2.setB (s.ep,1024*k) ⟨false,true,y.2.1,e,y.1⟩)
 | .pick c a b=>match f c with
  | .lit (.bool t)=>bnd (Zyd t) fun e=>if e then ret (f a,s) else ret (f b,s)
  | _=>fail
 | .indexAddr t x ix=>bnd (opt (Yk P t)) fun e=>if Zf P e=0 then fail else bnd hear fun q=>match q with
  | .row n r=>if r.length=Zf P e then bnd (obl (Yf (f ix)=some n)) fun _=>match f x with
   | .sl i off len=>bnd (obl (n < len)) fun _=>match s.heap i with
    | some b=>bnd (obl (b.rows[offN off n]?=some r)) fun _=>ret (.ptr i (offN off n) 0,s)
    | none=>fail
   | .tr rows=>bnd (obl (rows[n]?=some r)) fun _=>ret (.rp true r 0,s)
   | .vw rows=>bnd (obl (rows[n]?=some r)) fun _=>ret (.rp false r 0,s)
   | _=>fail
   else fail
  | _=>fail
 | .load t a=>match f a with
  | .ptr i j n=>match s.heap i with
   | some b=>match b.box with
    | true=>opt (Zq P M Zu f s k o)
    | false=>bnd hear fun q=>match q with
     | .cell row=>bnd (obl (b.rows[j]?=some row)) fun _=>if n+Zf P t≤row.length then bnd (opt (Zbk P t ((row.drop n).take (Zf P t)))) fun v=>ret (v,s) else fail
     | _=>fail
   | none=>fail
  | _=>opt (Zq P M Zu f s k o)
 | .store t a x=>match f a with
  | .ptr i j n=>match s.heap i with
   | some b=>match b.box with
    | true=>opt (Zq P M Zu f s k o)
    | false=>bnd hear fun q=>match q with
     | .put row R=>bnd (obl (b.rows[j]?=some row)) fun _=>bnd (opt (Zgw (f x))) fun cs=>if b.own=true∧cs.length=Zf P t∧n+Zf P t≤row.length∧Zf P t≠0 then
       bnd (Zi9 cs s) fun y=>match y.2.2.heap i with
        | some b=>bnd (obl (b.rows.set j (Xx row n y.1)=R)) fun _=>ret (.undef,y.2.2.setB i ⟨b.box,b.own,b.cl&&y.2.1,b.el,R⟩)
        | none=>fail
       else fail
     | _=>fail
   | none=>fail
  | _=>fail
 | .slice t x lo hi none=>match f x with
  | .sl id off len=>bnd hear fun q=>match q with
   | .num l h n R=>bnd (opt (Yk P t)) fun e=>bnd (Zgq s (f x)) fun rows=>bnd (obl (match lo with|some z=>Yf (f z)=some l|none=>l=0)) fun _=>bnd (obl (match hi with|some z=>Yf (f z)=some h|none=>rows.length=h)) fun _=>
    bnd (obl (l≤h∧h≤rows.length)) fun _=>bnd (obl (Za5 (Zf P e) rows=true)) fun _=>bnd (obl (n=h - l)) fun _=>if Zf P e≠0 then ret (.sl id (offN off l) n,s) else fail
   | _=>fail
  | .tr _|.vw _=>bnd hear fun q=>match q with
   | .num l h n R=>bnd (opt (Yk P t)) fun e=>bnd (Zgq s (f x)) fun rows=>bnd (obl (match lo with|some z=>Yf (f z)=some l|none=>l=0)) fun _=>bnd (obl (match hi with|some z=>Yf (f z)=some h|none=>rows.length=h)) fun _=>
    bnd (obl (l≤h∧h≤rows.length)) fun _=>bnd (obl (Za5 (Zf P e) rows=true)) fun _=>bnd (obl ((rows.drop l).take (h - l)=R)) fun _=>if Zf P e≠0 then ret ((match f x with|.tr _=>.tr R|_=>.vw R),s) else fail
   | _=>fail
  | .lit (.string b)=>match P.underlying t with
   | some .string=>bnd hear fun q=>match q with
    | .val (.lit (.string c))=>bnd (obl (ssl b (lo.map f) (hi.map f)=some c)) fun _=>ret (.lit (.string c),s)
    | _=>fail
   | _=>fail
  | _=>opt (Zq P M Zu f s k o)
 | .index t x ix=>match f x with
  | .lit (.string b)=>match P.underlying t with
   | some .string=>bnd hear fun q=>match q with
    | .val (.lit (.int _ m))=>bnd (obl (sidx b (f ix)=some m)) fun _=>ret (.lit (.int .u8 m),s)
    | _=>fail
   | _=>fail
  | _=>opt (Zq P M Zu f s k o)
 | .convert src dst x=>match f x with
  | .sl ..|.tr _|.vw _=>match P.underlying src,P.underlying dst with
   | some (.slice e),some .string=>match P.underlying e with
    | some (.int .u8)=>bnd (Zgq s (f x)) fun rows=>bnd hear fun q=>match q with
     | .val (.lit (.string c))=>bnd (obl (strV rows=some c)) fun _=>ret (.lit (.string c),s)
     | _=>fail
    | _=>fail
   | _,_=>fail
  | _=>opt (Zq P M Zu f s k o)
 | .makeSlice t l c=>bnd hear fun q=>match q with
  | .mk n R=>bnd (opt (Yk P t)) fun e=>bnd (opt (K8 P e)) fun z=>bnd (obl (Yf (f l)=some n)) fun _=>bnd (obl (Yf (f c)=some n)) fun _=>bnd (obl (n*P.bytesOf e≤70368744177664∧n≤9223372036854775807)) fun _=>
   bnd (obl (List.replicate n (z.map W0)=R)) fun _=>if z.length=Zf P e∧Zf P e≠0 then ret (.sl (s.ep,1024*k) 0 R.length,s.setB (s.ep,1024*k) ⟨false,true,true,e,R⟩) else fail
  | _=>fail
 | .call c=>match c.callee with
  | .value g=>match f g with
   | .fn g caps=>Z5b P M s k g (c.args.toList.map f++caps)
   | _=>fail
  | .builtin .append=>match c.args.toList,c.argTypes.toList with
   | [b,x],[t,t']=>if t=t' then appK P (M.mv o.pos) s (s.ep,1024*k) t (f b) (f x) else fail
   | _,_=>fail
  | .builtin .len=>match c.args.toList,c.argTypes.toList with
   | [x],[t]=>match f x with
    | .sl _ _ n=>bnd hear fun q=>match q with
     | .num m _ _ _=>bnd (obl (n=m)) fun _=>if (Yk P t).isSome=true then ret (.lit (.int .i64 m),s) else fail
     | _=>fail
    | .tr rows|.vw rows=>bnd hear fun q=>match q with
     | .num m _ _ _=>bnd (obl (rows.length=m)) fun _=>if (Yk P t).isSome=true then ret (.lit (.int .i64 m),s) else fail
     | _=>fail
    | _=>opt (Zq P M Zu f s k o)
   | _,_=>fail
  | .builtin .clear=>match c.args.toList,c.argTypes.toList with
   | [x],[t]=>bnd (opt (Yk P t)) fun e=>bnd (opt (K8 P e)) fun z=>match f x with
    | .sl i off n=>match s.heap i with
     | some b=>bnd hear fun q=>match q with
      | .app R _ _ _=>if b.own=true∧b.box=false∧b.el=e∧z.length=Zf P e∧Zf P e≠0 then bnd (obl (off+n≤b.rows.length)) fun _=>
        bnd (obl (b.rows.take off++List.replicate n (z.map W0)++b.rows.drop (off+n)=R)) fun _=>ret (.tup [],s.setB i ⟨b.box,b.own,b.cl,b.el,R⟩) else fail
      | _=>fail
     | none=>fail
    | _=>fail
   | _,_=>fail
  | _=>opt (Zq P M Zu f s k o)
 | _=>opt (Zq P M Zu f s k o)
end
section
variable {P:Program} {M:Hints}
def OpOk (P:Program) (M:Hints) (f:Operand→V) (s:St) (k:Nat) (o:Oper) (y:V×St):Prop:=∃C,Kr P M C∧Zq P M C f s k o=some y
theorem Kv (hP:FuncsOk P) {f:Operand→V} {s:St} {k:Nat} {o:Oper}:KP (opt (Zq P M Zu f s k o)) (OpOk P M f s k o):=Qq.mono fun y h=>⟨Zu,Z1 hP,h⟩
theorem Z7l (hP:FuncsOk P) {f:Operand→V} {s:St} {k:Nat} {d:Option Tmp} {ty t yt:TypeId} {pos:String} {af:Array Edge} {g:Option (Nat×Bool)} {op:BinOp} {x y:Operand}:KP (opK P M f s k ⟨d,.binOp op t x y yt,ty,pos,af,g⟩) (OpOk P M f s k ⟨d,.binOp op t x y yt,ty,pos,af,g⟩):=by
 have base:∀{v:V},binX P op t x y (f x) (f y)=some v→(∃a b,f x=.lit a∧f y=.lit b)→Zq P M Zu f s k ⟨d,.binOp op t x y yt,ty,pos,af,g⟩=some (v,s):=fun {v} h ⟨a,b,h1,h2⟩=>by
  have e:Ye P f ⟨d,.binOp op t x y yt,ty,pos,af,g⟩=some v:=by rw[Z6s];exact h
  simp only[Zq,h1,h2,e,Option.map_some]
 have base2:∀{v:V},binX P op t x y (f x) (f y)=some v→(∃a b,f x=.agg a∧f y=.agg b)→Zq P M Zu f s k ⟨d,.binOp op t x y yt,ty,pos,af,g⟩=some (v,s):=fun {v} h ⟨a,b,h1,h2⟩=>by
  have e:Ye P f ⟨d,.binOp op t x y yt,ty,pos,af,g⟩=some v:=by rw[Z6s];exact h
  simp only[Zq,h1,h2,e,Option.map_some]
 simp only[opK]
 split
 ·rename_i k1 a k2 b h1 h2
  refine Za Z9c (fun v hv=>Zh ⟨Zu,Z1 hP,base ?_ ⟨_,_,h1,h2⟩⟩)
  rw[h1,h2,Z9g];exact hv
 ·rename_i a b h1 h2
  refine Za Yaj (fun v hv=>Zh ⟨Zu,Z1 hP,base ?_ ⟨_,_,h1,h2⟩⟩)
  rw[h1,h2,Z95];exact hv
 ·rename_i a b h1 h2
  split
  ·rename_i h3
   refine Zh ⟨Zu,Z1 hP,base ?_ ⟨_,_,h1,h2⟩⟩
   rw[h1,h2,Z9k h3]
  ·rename_i h3
   refine Zh ⟨Zu,Z1 hP,base ?_ ⟨_,_,h1,h2⟩⟩
   rw[h1,h2,Z99 h3]
  ·exact Zc
 ·rename_i xs ys h1 h2
  refine Yi (fun hc=>Za Qq (fun b hb=>?_)) (fun _=>Zc)
  split
  ·exact Zh ⟨Zu,Z1 hP,base2 (by rw[h1,h2,Z7m hc.1 hc.2.1 hc.2.2 hb]) ⟨_,_,h1,h2⟩⟩
  ·exact Zh ⟨Zu,Z1 hP,base2 (by rw[h1,h2,Z7b hc.1 hc.2.1 hc.2.2 hb]) ⟨_,_,h1,h2⟩⟩
  ·exact Zc
 ·rename_i hy
  split
  all_goals first
   | exact Kv hP
   | (
     rename_i hx
     refine Yi (fun he=>Za Jm (fun rows hr=>Za Zl (fun _ hn=>?_))) (fun _=>Zc)
     obtain⟨r,l,rfl⟩:=List.exists_cons_of_ne_nil hn
     have hf:¬(Yk P t).isSome=false:=by rw[he];decide
     split
     ·exact Zh ⟨Zu,Z1 hP,by simp only[Zq,hx,hy];rw[if_neg hf];rw[hx] at hr;rw[hr]⟩
     ·exact Zh ⟨Zu,Z1 hP,by simp only[Zq,hx,hy];rw[if_neg hf];rw[hx] at hr;rw[hr]⟩
     ·exact Zc)
 ·exact Kv hP
theorem Zvm (hP:FuncsOk P) {f:Operand→V} {s:St} {k:Nat} {d:Option Tmp} {ty t:TypeId} {pos:String} {af:Array Edge} {g:Option (Nat×Bool)} {n:Nat} {parts:Array (Nat×Operand)}:KP (opK P M f s k ⟨d,.buildSlice t n parts,ty,pos,af,g⟩) (OpOk P M f s k ⟨d,.buildSlice t n parts,ty,pos,af,g⟩):=by
 simp only[opK]
 refine Za Qq (fun e he=>Za Qq (fun z hz=>Yi (fun _=>Zc) (fun hc=>Za Qq (fun cs hcs=>Za Zyv (fun y hy=>Zh ⟨Zu,Z1 hP,?_⟩)))))
 simp only[Zq,he,Option.bind_some,hz]
 rw[if_neg hc,hcs,Option.bind_some,hy]
 rfl
theorem Z8r (hP:FuncsOk P) {f:Operand→V} {s:St} {k:Nat} {d:Option Tmp} {ty:TypeId} {pos:String} {af:Array Edge} {g:Option (Nat×Bool)} {c a b:Operand}:KP (opK P M f s k ⟨d,.pick c a b,ty,pos,af,g⟩) (OpOk P M f s k ⟨d,.pick c a b,ty,pos,af,g⟩):=by
 simp only[opK]
 split
 ·rename_i t hc
  refine Za Zyh (fun e he=>?_)
  subst he
  cases t with
  | true=>exact Zh ⟨Zu,Z1 hP,by simp only[Zq,hc,if_true]⟩
  | false=>exact Zh ⟨Zu,Z1 hP,by simp only[Zq,hc,Bool.false_eq_true,if_false]⟩
 ·exact Zc
theorem Zxf (hP:FuncsOk P) {f:Operand→V} {s:St} {k:Nat} {d:Option Tmp} {ty t:TypeId} {pos:String} {af:Array Edge} {g:Option (Nat×Bool)} {x ix:Operand}:KP (opK P M f s k ⟨d,.indexAddr t x ix,ty,pos,af,g⟩) (OpOk P M f s k ⟨d,.indexAddr t x ix,ty,pos,af,g⟩):=by
 simp only[opK]
 refine Za Qq (fun e he=>Yi (fun _=>Zc) (fun hz=>Za Y1 (fun o _=>?_)))
 split
 ·rename_i n r
  refine Yi (fun hr=>Za Zl (fun _ hn=>?_)) (fun _=>Zc)
  split
  ·rename_i i off len hx
   refine Za Zl (fun _ hlt=>?_)
   split
   ·rename_i b hb
    refine Za Zl (fun _ hrow=>Zh ⟨Zu,Z1 hP,?_⟩)
    rw[Z3z] at hrow ⊢
    simp only[Zq,he,Option.bind_some,hz,if_false,hn,hx,hlt,if_true,hb,hrow,hr]
   ·exact Zc
  ·rename_i rows hx
   refine Za Zl (fun _ hrow=>Zh ⟨Zu,Z1 hP,?_⟩)
   simp only[Zq,he,Option.bind_some,hz,if_false,hn,hx,if_true,hrow,hr]
  ·rename_i rows hx
   refine Za Zl (fun _ hrow=>Zh ⟨Zu,Z1 hP,?_⟩)
   simp only[Zq,he,Option.bind_some,hz,if_false,hn,hx,if_true,hrow,hr]
  ·exact Zc
 ·exact Zc
theorem Z9s (hP:FuncsOk P) {f:Operand→V} {s:St} {k:Nat} {d:Option Tmp} {ty t:TypeId} {pos:String} {af:Array Edge} {g:Option (Nat×Bool)} {a:Operand}:KP (opK P M f s k ⟨d,.load t a,ty,pos,af,g⟩) (OpOk P M f s k ⟨d,.load t a,ty,pos,af,g⟩):=by
 simp only[opK]
 split
 ·rename_i i j n ha
  split
  ·rename_i b hb
   split
   ·exact Kv hP
   ·refine Za Y1 (fun o _=>?_)
    split
    ·rename_i row
     refine Za Zl (fun _ hrow=>Yi (fun hl=>Za Qq (fun v hv=>Zh ⟨Zu,Z1 hP,?_⟩)) (fun _=>Zc))
     simp only[Zq,ha,hb,Option.bind_some,hrow,hl,if_true,hv,Option.map_some]
    ·exact Zc
  ·exact Zc
 ·exact Kv hP
theorem Z7w (hP:FuncsOk P) {f:Operand→V} {s:St} {k:Nat} {d:Option Tmp} {ty t:TypeId} {pos:String} {af:Array Edge} {g:Option (Nat×Bool)} {a x:Operand}:KP (opK P M f s k ⟨d,.store t a x,ty,pos,af,g⟩) (OpOk P M f s k ⟨d,.store t a x,ty,pos,af,g⟩):=by
 simp only[opK]
 split
 ·rename_i i j n ha
  split
  ·rename_i b hb
   split
   ·exact Kv hP
   ·rename_i hbx
    refine Za Y1 (fun o _=>?_)
    split
    ·rename_i row R
     refine Za Zl (fun _ hrow=>Za Qq (fun cs hcs=>Yi (fun hc=>Za Z0u (fun y hy=>?_)) (fun _=>Zc)))
     split
     ·rename_i b2 hb2
      refine Za Zl (fun _ hR=>Zh ⟨Zu,Z1 hP,?_⟩)
      have hc':b.own=true∧cs.length=Zf P t∧n+Zf P t≤row.length∧Zf P t≠0:=hc
      simp only[Zq,ha,hb,Option.bind_some,hrow,hcs]
      rw[if_pos hc',hbx]
      simp only[Bool.false_eq_true,if_false,hy,Option.bind_some,hb2,hR]
     ·exact Zc
    ·exact Zc
  ·exact Zc
 ·exact Zc
def Zz7 (x:V) (l h:Nat):Option V:=match x with
 | .sl id off _=>some (.sl id (off+l) (h - l))
 | .tr rows=>some (.tr ((rows.drop l).take (h - l)))
 | .vw rows=>some (.vw ((rows.drop l).take (h - l)))
 | _=>none
theorem Zoj {s:St} {t e:TypeId} {x:V} {rows:List (List V)} {lo hi:Option Operand} {f:Operand→V} {l h:Nat} (he:Yk P t=some e) (hr:s.rowsOf x=some rows) (hl:match lo with|some z=>Yf (f z)=some l|none=>l=0) (hh:match hi with|some z=>Yf (f z)=some h|none=>rows.length=h)
  (h1:l≤h∧h≤rows.length) (h2:Za5 (Zf P e) rows=true) (h3:Zf P e≠0):Zfj P s t x (lo.map f) (hi.map f)=Zz7 x l h:=by
 have key:∀(a b:Option Nat),a=some l→b=some h→(a.bind fun l=>b.bind fun h=>if l≤h∧h≤rows.length∧Za5 (Zf P e) rows=true∧Zf P e≠0 then Zz7 x l h else none)=Zz7 x l h:=by
  rintro _ _ rfl rfl
  simp only[Option.bind_some]
  rw[if_pos ⟨h1.1,h1.2,h2,h3⟩]
 unfold Zfj
 rw[he,Option.bind_some,hr,Option.bind_some]
 refine key _ _ ?_ ?_
 ·cases lo with
  | none=>simp only at hl;rw[hl];rfl
  | some z=>exact hl
 ·cases hi with
  | none=>simp only at hh;rw[←hh];rfl
  | some z=>exact hh
theorem Z7o (hP:FuncsOk P) {f:Operand→V} {s:St} {k:Nat} {d:Option Tmp} {ty t:TypeId} {pos:String} {af:Array Edge} {g:Option (Nat×Bool)} {x:Operand} {lo hi mx:Option Operand}:KP (opK P M f s k ⟨d,.slice t x lo hi mx,ty,pos,af,g⟩) (OpOk P M f s k ⟨d,.slice t x lo hi mx,ty,pos,af,g⟩):=by
 cases mx with
 | some m=>exact Kv hP
 | none=>
  simp only[opK]
  split
  ·rename_i id off len hx
   refine Za Y1 (fun o _=>?_)
   split
   ·rename_i l h n R
    refine Za Qq (fun e he=>Za Jm (fun rows hr=>Za Zl (fun _ hl=>Za Zl (fun _ hh=>Za Zl (fun _ h1=>Za Zl (fun _ h2=>Za Zl (fun _ h4=>Yi (fun h3=>Zh ⟨Zu,Z1 hP,?_⟩) (fun _=>Zc))))))))
    simp only[Zq,Zoj he hr hl hh h1 h2 h3]
    rw[hx,h4,Z3z]
    rfl
   ·exact Zc
  ·rename_i rws hx
   refine Za Y1 (fun o _=>?_)
   split
   ·rename_i l h n R
    refine Za Qq (fun e he=>Za Jm (fun rows hr=>Za Zl (fun _ hl=>Za Zl (fun _ hh=>Za Zl (fun _ h1=>Za Zl (fun _ h2=>Za Zl (fun _ h4=>Yi (fun h3=>Zh ⟨Zu,Z1 hP,?_⟩) (fun _=>Zc))))))))
    simp only[Zq,Zoj he hr hl hh h1 h2 h3]
    rw[hx] at hr ⊢
    have:rws=rows:=by simpa [St.rowsOf] using hr
    rw[←h4,←this]
    rfl
   ·exact Zc
  ·rename_i rws hx
   refine Za Y1 (fun o _=>?_)
   split
   ·rename_i l h n R
    refine Za Qq (fun e he=>Za Jm (fun rows hr=>Za Zl (fun _ hl=>Za Zl (fun _ hh=>Za Zl (fun _ h1=>Za Zl (fun _ h2=>Za Zl (fun _ h4=>Yi (fun h3=>Zh ⟨Zu,Z1 hP,?_⟩) (fun _=>Zc))))))))
    simp only[Zq,Zoj he hr hl hh h1 h2 h3]
    rw[hx] at hr ⊢
    have:rws=rows:=by simpa [St.rowsOf] using hr
    rw[←h4,←this]
    rfl
   ·exact Zc
  ·rename_i b hx
   split
   ·rename_i ht
    refine Za Y1 (fun q _=>?_)
    split
    ·rename_i c
     refine Za Zl (fun _ hc=>Zh ⟨Zu,Z1 hP,?_⟩)
     simp only[Zq,hx,Z62 ht hx hc,Option.map_some]
    ·exact Zc
   ·exact Zc
  ·exact Kv hP
theorem Z63 (hP:FuncsOk P) {f:Operand→V} {s:St} {k:Nat} {d:Option Tmp} {ty t:TypeId} {pos:String} {af:Array Edge} {g:Option (Nat×Bool)} {x ix:Operand}:KP (opK P M f s k ⟨d,.index t x ix,ty,pos,af,g⟩) (OpOk P M f s k ⟨d,.index t x ix,ty,pos,af,g⟩):=by
 simp only[opK]
 split
 ·rename_i b hx
  split
  ·rename_i ht
   refine Za Y1 (fun q _=>?_)
   split
   ·rename_i k' m
    refine Za Zl (fun _ hm=>Zh ⟨Zu,Z1 hP,?_⟩)
    simp only[Zq,Z87 ht hx hm,Option.map_some]
   ·exact Zc
  ·exact Zc
 ·exact Kv hP
theorem Z2d (hP:FuncsOk P) {f:Operand→V} {s:St} {k:Nat} {d:Option Tmp} {ty src dst:TypeId} {pos:String} {af:Array Edge} {g:Option (Nat×Bool)} {x:Operand}:KP (opK P M f s k ⟨d,.convert src dst x,ty,pos,af,g⟩) (OpOk P M f s k ⟨d,.convert src dst x,ty,pos,af,g⟩):=by
 simp only[opK]
 split
 all_goals first
  | exact Kv hP
  | (
    rename_i hx
    split
    ·rename_i e h1 h2
     split
     ·rename_i h3
      refine Za Jm (fun rows hr=>Za Y1 (fun q _=>?_))
      split
      ·rename_i c
       refine Za Zl (fun _ hc=>Zh ⟨Zu,Z1 hP,?_⟩)
       unfold strV at hc
       obtain⟨bs,hb,hc⟩:=Option.map_eq_some_iff.1 hc
       rw[hx] at hr
       simp only[Zq,hx,h1,h2,h3,hr,hb,Option.bind_some,Option.map_some,hc]
      ·exact Zc
     ·exact Zc
    ·exact Zc)
theorem Zxe (hP:FuncsOk P) {f:Operand→V} {s:St} {k:Nat} {d:Option Tmp} {ty t:TypeId} {pos:String} {af:Array Edge} {g:Option (Nat×Bool)} {l c:Operand}:KP (opK P M f s k ⟨d,.makeSlice t l c,ty,pos,af,g⟩) (OpOk P M f s k ⟨d,.makeSlice t l c,ty,pos,af,g⟩):=by
 simp only[opK]
 refine Za Y1 (fun o _=>?_)
 split
 ·rename_i n R
  refine Za Qq (fun e he=>Za Qq (fun z hz=>Za Zl (fun _ hl=>Za Zl (fun _ hc=>Za Zl (fun _ h1=>Za Zl (fun _ hR=>Yi (fun h2=>Zh ⟨Zu,Z1 hP,?_⟩) (fun _=>Zc)))))))
  simp only[Zq,he,hz,Option.bind_some,hl,hc]
  rw[if_pos ⟨by trivial,h1.1,h1.2,h2.1,h2.2⟩,hR,←hR,List.length_replicate]
 ·exact Zc
theorem Z82 (hP:FuncsOk P) {f:Operand→V} {s:St} {k:Nat} {d:Option Tmp} {ty:TypeId} {pos:String} {af:Array Edge} {g:Option (Nat×Bool)} {c:Call}:KP (opK P M f s k ⟨d,.call c,ty,pos,af,g⟩) (OpOk P M f s k ⟨d,.call c,ty,pos,af,g⟩):=by
 simp only[opK]
 split
 ·rename_i x hc
  split
  ·rename_i h caps hx
   refine (Z91 hP).mono fun y ⟨C,h1,h2⟩=>⟨C,h1,?_⟩
   simp only[Zq,hc,hx,h2]
  ·exact Zc
 ·rename_i hc
  split
  ·rename_i b x t t' ha ht
   refine Yi (fun he=>Ybs.kp.mono fun y hy=>⟨Zu,Z1 hP,?_⟩) (fun _=>Zc)
   simp only[Zq,hc,ha,ht,he,if_true]
   rw[←he];exact hy
  ·exact Zc
 ·rename_i hc
  split
  ·rename_i x t ha ht
   split
   ·rename_i i off n hx
    refine Za Y1 (fun o _=>?_)
    split
    ·refine Za Zl (fun _ hn=>Yi (fun he=>Zh ⟨Zu,Z1 hP,?_⟩) (fun _=>Zc))
     simp only[Zq,hc,ha,ht,hx,he,if_true,hn]
    ·exact Zc
   ·rename_i rows hx
    refine Za Y1 (fun o _=>?_)
    split
    ·refine Za Zl (fun _ hn=>Yi (fun he=>Zh ⟨Zu,Z1 hP,?_⟩) (fun _=>Zc))
     simp only[Zq,hc,ha,ht,hx,he,if_true,hn]
    ·exact Zc
   ·rename_i rows hx
    refine Za Y1 (fun o _=>?_)
    split
    ·refine Za Zl (fun _ hn=>Yi (fun he=>Zh ⟨Zu,Z1 hP,?_⟩) (fun _=>Zc))
     simp only[Zq,hc,ha,ht,hx,he,if_true,hn]
    ·exact Zc
   ·exact Kv hP
  ·exact Zc
 ·rename_i hc
  split
  ·rename_i x t ha ht
   refine Za Qq (fun e he=>Za Qq (fun z hz=>?_))
   split
   ·rename_i i off n hx
    split
    ·rename_i b hb
     refine Za Y1 (fun o _=>?_)
     split
     ·refine Yi (fun h=>Za Zl (fun _ h1=>Za Zl (fun _ h2=>Zh ⟨Zu,Z1 hP,?_⟩))) (fun _=>Zc)
      simp only[Zq,hc,ha,ht,hx,he,hz,hb,Option.bind_some]
      rw[if_pos ⟨h.1,h.2.1,h1,h.2.2.1,h.2.2.2.1,h.2.2.2.2⟩,h2]
     ·exact Zc
    ·exact Zc
   ·exact Zc
  ·exact Zc
 ·exact Kv hP
theorem Z7e (hP:FuncsOk P) {f:Operand→V} {s:St} {k:Nat} {o:Oper}:KP (opK P M f s k o) (OpOk P M f s k o):=by
 obtain⟨d,op,ty,pos,af,g⟩:=o
 cases op with
 | binOp op t x y yt=>exact Z7l hP
 | pick c a b=>exact Z8r hP
 | buildSlice t n parts=>exact Zvm hP
 | indexAddr t x ix=>exact Zxf hP
 | load t a=>exact Z9s hP
 | store t a x=>exact Z7w hP
 | slice t x lo hi mx=>exact Z7o hP
 | makeSlice t l c=>exact Zxe hP
 | index t x ix=>exact Z63 hP
 | convert src dst x=>exact Z2d hP
 | call c=>exact Z82 hP
 | _=>simp only[opK];exact Kv hP
def Zt5 (s:St) (ops:Array Oper) (o:Oper):KM (Bool×St):=
 match o.guard with
 | none=>ret (true,s)
 | some (j,b)=>match (ops[j]?).bind (·.dst) with
  | some d=>match s.env d with
   | .lit (.bool c)=>bnd hear fun o=>match o with
    | .t e=>bnd (obl (c=e)) fun _=>ret (e == b,⟨upd s.env d (.lit (.bool e)),s.heap,s.ep⟩)
    | .k=>ret (c == b,s)
    | _=>fail
   | .tup []=>ret (false,s)
   | _=>fail
  | none=>fail
theorem Zw8 {s:St} {ops:Array Oper} {o:Oper}:KP (Zt5 s ops o) (fun y=>wanted s ops o=some y.1∧y.2=s):=by
 unfold Zt5 wanted
 cases o.guard with
 | none=>exact Zh ⟨rfl,rfl⟩
 | some p=>
  obtain⟨j,b⟩:=p
  simp only
  cases hd:(ops[j]?).bind (·.dst) with
  | none=>exact Zc
  | some d=>
   simp only[Option.map_some]
   cases he:s.env d with
   | lit v=>cases v with
    | bool c=>
     refine Za Y1 (fun q _=>?_)
     cases q with
     | t e=>
      refine Za Zl (fun _ hc=>Zh ⟨by subst hc;rfl,?_⟩)
      have:upd s.env d (.lit (.bool e))=s.env:=by
       funext t
       unfold upd
       split
       ·rename_i h;rw[h,he,hc]
       ·rfl
      rw[this]
     | k=>exact Zh ⟨rfl,rfl⟩
     | _=>exact Zc
    | _=>exact Zc
   | tup l=>cases l with
    | nil=>exact Zh ⟨rfl,rfl⟩
    | cons x l=>exact Zc
   | _=>exact Zc
def opsK (P:Program) (M:Hints) (ops:Array Oper):(k:Nat)→List Oper→(s:St)→KM St
 | _,[],s=>ret s
 | k,o::rest,s=>bnd (Zt5 s ops o) fun g=>if g.1 then bnd (opK P M g.2.opV g.2 k o) fun y=>opsK P M ops (k+1) rest (y.2.put o.dst y.1) else opsK P M ops (k+1) rest (g.2.put o.dst (.tup []))
theorem Z2j {C C':Nat→Yw} {ops:Array Oper}:∀(l:List Oper) {k:Nat} {s:St},(∀j,k≤j→C j=C' j)→Ju P M C ops s k l=Ju P M C' ops s k l:=by
 intro l
 induction l with
 | nil=>intros;rfl
 | cons o l ih=>
  intro k s h
  simp only[Ju,h k (Nat.le_refl _)]
  simp only[fun s=>ih (k:=k+1) (s:=s) (fun j hj=>h j (by omega))]
theorem Zzq {C C':Nat→Yw} {ops:Array Oper}:∀(l:List Oper) {k:Nat} {s:St} {recs:List Rec},(∀j,k≤j→C j=C' j)→Qo P M C ops s recs k l=Qo P M C' ops s recs k l:=by
 intro l
 induction l with
 | nil=>intros;rfl
 | cons o l ih=>
  intro k s recs h
  simp only[Qo,h k (Nat.le_refl _)]
  simp only[fun s recs=>ih (k:=k+1) (s:=s) (recs:=recs) (fun j hj=>h j (by omega))]
def setC (C:Nat→Yw) (k:Nat) (D:Yw):Nat→Yw:=fun j=>if j=k then D else C j
theorem Yap (hP:FuncsOk P) {ops:Array Oper}:∀(l:List Oper) {k:Nat} {s:St},KP (opsK P M ops k l s) (fun s'=>∃C:Nat→Yw,(∀j,Kr P M (C j))∧Ju P M C ops s k l=some s'):=by
 intro l
 induction l with
 | nil=>intro k s;exact Zh ⟨fun _=>Zu,fun _=>Z1 hP,rfl⟩
 | cons o l ih=>
  intro k s
  simp only[opsK,Ju]
  refine Za Zw8 (fun g hg=>?_)
  obtain⟨g,s0⟩:=g
  obtain⟨hg,hs0⟩:=hg
  simp only at hg hs0
  subst hs0
  cases g with
  | true=>
   simp only[if_true]
   refine Za (Z7e hP) (fun y hy=>ih.mono fun s' ⟨C,h1,h2⟩=>?_)
   obtain⟨D,d1,d2⟩:=hy
   refine⟨setC C k D,fun j=>?_,?_⟩
   ·unfold setC;split
    ·exact d1
    ·exact h1 j
   ·rw[hg]
    simp only[Option.bind_some,if_true,setC]
    unfold evOp
    rw[d2,Option.bind_some,←h2]
    exact Z2j l (fun j hj=>by simp only[setC];rw[if_neg (by omega)])
  | false=>
   simp only[Bool.false_eq_true,if_false]
   refine ih.mono fun s' ⟨C,h1,h2⟩=>⟨C,h1,?_⟩
   rw[hg]
   exact h2
def Ztw (P:Program) (M:Hints) (ops:Array Oper):(recs:List Rec)→(k:Nat)→List Oper→(s:St)→KM St
 | _,_,[],s=>ret s
 | recs,k,o::rest,s=>bnd (Zt5 s ops o) fun g=>if g.1 then (if Zd6 ops g.2.ep recs (Zhd recs o) k o (touch g.2 o) (Zc4 M g.2.opV o)=true then
   bnd (opK P M g.2.opV (g.2.only (touch g.2 o)) k o) fun y=>Ztw P M ops (recs++[⟨Zhd recs o,touch g.2 o,Zc4 M g.2.opV o⟩]) (k+1) rest ((g.2.merge k (touch g.2 o) (Zc4 M g.2.opV o) y.2).put o.dst y.1) else fail)
  else if Zd6 ops g.2.ep recs (Zhd recs o) k o [] false=true then Ztw P M ops (recs++[⟨Zhd recs o,[],false⟩]) (k+1) rest (g.2.put o.dst (.tup [])) else fail
theorem Z8t (hP:FuncsOk P) {ops:Array Oper}:∀(l:List Oper) {k:Nat} {s:St} {recs:List Rec},KP (Ztw P M ops recs k l s) (fun s'=>∃C:Nat→Yw,(∀j,Kr P M (C j))∧Qo P M C ops s recs k l=some s'):=by
 intro l
 induction l with
 | nil=>intro k s recs;exact Zh ⟨fun _=>Zu,fun _=>Z1 hP,rfl⟩
 | cons o l ih=>
  intro k s recs
  simp only[Ztw,Qo]
  refine Za Zw8 (fun g hg=>?_)
  obtain⟨g,s0⟩:=g
  obtain⟨hg,hs0⟩:=hg
  simp only at hg hs0
  subst hs0
  cases g with
  | true=>
   simp only[if_true]
   refine Yi (fun ha=>Za (Z7e hP) (fun y hy=>ih.mono fun s' ⟨C,h1,h2⟩=>?_)) (fun _=>Zc)
   obtain⟨D,d1,d2⟩:=hy
   refine⟨setC C k D,fun j=>?_,?_⟩
   ·unfold setC;split
    ·exact d1
    ·exact h1 j
   ·rw[hg]
    simp only[Option.bind_some,if_true,setC,ha]
    rw[d2,Option.bind_some,←h2]
    exact Zzq l (fun j hj=>by simp only[setC];rw[if_neg (by omega)])
  | false=>
   simp only[Bool.false_eq_true,if_false]
   refine Yi (fun ha=>ih.mono fun s' ⟨C,h1,h2⟩=>⟨C,h1,?_⟩) (fun _=>Zc)
   rw[hg]
   simp only[Option.bind_some,Bool.false_eq_true,if_false,ha,if_true]
   exact h2
end
inductive It where
 | c (x:Code)
 | blk (i:Nat)
def SX (P:Program) (R:Ex→St→Prop):List It→Ex→St→Prop
 | [],e,s=>R e s
 | .c x::k,.normal,s=>Cx P x s (fun e s=>SX P R k e s)
 | .c x::k,.ret,s=>SX P R k .ret s
 | .c x::k,.exit j,s=>SX P R k (.exit j) s
 | .blk i::k,.exit j,s=>if j=i then SX P R k .normal s else SX P R k (.exit j) s
 | .blk i::k,.normal,s=>SX P R k .normal s
 | .blk i::k,.ret,s=>SX P R k .ret s
structure Res where
 stk:List It
 ex:Ex
 st:St
def mach (P:Program) (M:Hints):(n:Nat)→List It→Ex→(s:St)→KM Res
 | 0,stk,ex,s=>ret ⟨stk,ex,s⟩
 | n+1,stk,ex,s=>match stk with
  | []=>ret ⟨[],ex,s⟩
  | .blk i::k=>match ex with
   | .exit j=>if j=i then mach P M n k .normal s else mach P M n k (.exit j) s
   | .normal=>mach P M n k .normal s
   | .ret=>mach P M n k .ret s
  | .c x::k=>match ex with
   | .ret=>mach P M n k .ret s
   | .exit j=>mach P M n k (.exit j) s
   | .normal=>match x with
    | .skip=>mach P M n k .normal s
    | .ret=>mach P M n k .ret s
    | .exit i=>mach P M n k (.exit i) s
    | .seq a b=>mach P M n (.c a::.c b::k) .normal s
    | .cond c a b=>match s.opV c with
     | .lit (.bool t)=>bnd (Zyd t) fun e=>if e then mach P M n (.c a::k) .normal s else mach P M n (.c b::k) .normal s
     | _=>fail
    | .block i c=>mach P M n (.c c::.blk i::k) .normal s
    | .loop c=>mach P M n (.c c::.c (.loop c)::k) .normal s
    | .region _ ops d=>match d with
     | false=>bnd (opsK P M ops 0 ops.toList ⟨s.env,s.heap,s.ep+1⟩) fun s'=>mach P M n k .normal s'
     | true=>if Region.noSelect ops=true then bnd (Ztw P M ops [] 0 ops.toList ⟨s.env,s.heap,s.ep+1⟩) fun s'=>mach P M n k .normal s' else fail
    | _=>fail
section
variable {P:Program} {M:Hints} {R:Ex→St→Prop}
theorem Ybc (M:Hints) (hP:FuncsOk P) {k:List It} {S:St} {i:Nat} {d0 d1:Tmp} {x0 y:Operand} {t yt e ty0 ty1:TypeId} {p0 p1:String} {af0 af1:Array Edge} (hte:Yk P t=some e) (hx:S.opV x0=.tr []) (hy:(({S with ep:=S.ep+1}:St).put (some d0) (.tr [])).opV y=.lit (.slice none 0 0))
  (h:∀b,SX P R k .normal ((({S with ep:=S.ep+1}:St).put (some d0) (.tr [])).put (some d1) (.lit (.bool b)))):
  SX P R (.c (.region i #[⟨some d0,.move x0,ty0,p0,af0,none⟩,⟨some d1,.binOp .eql t (.tmp d0) y yt,ty1,p1,af1,none⟩] false)::k) .normal S:=
 Yb4 M hP (R:=fun e s=>SX P R k e s) hte hx hy h
def Z7d:List It→Option (Operand×Tmp×Tmp×TypeId×Operand×List It)
 | .c (.region _ ops false)::k=>match ops.toList with
  | [⟨some d0,.move x0,_,_,_,none⟩,⟨some d1,.binOp .eql t (.tmp d) y _,_,_,_,none⟩]=>if d=d0 then some (x0,d0,d1,t,y,k) else none
  | _=>none
 | _=>none
theorem Zzz (M:Hints) (hP:FuncsOk P) {stk k:List It} {S:St} {d0 d1:Tmp} {x0 y:Operand} {t e:TypeId} (hs:Z7d stk=some (x0,d0,d1,t,y,k)) (hte:Yk P t=some e) (hx:S.opV x0=.tr []) (hy:(({S with ep:=S.ep+1}:St).put (some d0) (.tr [])).opV y=.lit (.slice none 0 0))
  (h:∀b,SX P R k .normal ((({S with ep:=S.ep+1}:St).put (some d0) (.tr [])).put (some d1) (.lit (.bool b)))):SX P R stk .normal S:=by
 unfold Z7d at hs
 split at hs
 ·rename_i i ops k'
  split at hs
  ·rename_i c0 z0 ty0 p0 af0 c1 u d z yt ty1 p1 af1 hl
   split at hs
   ·rename_i hd
    simp only[Option.some.injEq,Prod.mk.injEq] at hs
    obtain⟨rfl,rfl,rfl,rfl,rfl,rfl⟩:=hs
    subst hd
    obtain rfl:ops=#[⟨some d,.move z0,ty0,p0,af0,none⟩,⟨some c1,.binOp .eql u (.tmp d) z yt,ty1,p1,af1,none⟩]:=by
     apply Array.toList_inj.1;rw[hl]
    exact Ybc M hP hte hx hy h
   ·cases hs
  ·cases hs
 ·cases hs
theorem Yas (hP:FuncsOk P):∀(n:Nat) {stk:List It} {ex:Ex} {s:St},KP (mach P M n stk ex s) (fun r=>SX P R r.stk r.ex r.st→SX P R stk ex s):=by
 intro n
 induction n with
 | zero=>intro stk ex s;exact Zh id
 | succ n ih=>
  intro stk ex s
  simp only[mach]
  split
  ·exact Zh id
  ·rename_i i k
   split
   ·rename_i j
    refine Yi (fun hj=>ih.mono fun r hr h=>?_) (fun hj=>ih.mono fun r hr h=>?_)
    ·simp only[SX];rw[if_pos hj];exact hr h
    ·simp only[SX];rw[if_neg hj];exact hr h
   ·exact ih.mono fun r hr h=>hr h
   ·exact ih.mono fun r hr h=>hr h
  ·rename_i x k
   split
   ·exact ih.mono fun r hr h=>hr h
   ·exact ih.mono fun r hr h=>hr h
   ·split
    ·exact ih.mono fun r hr h=>Ya1 (hr h)
    ·exact ih.mono fun r hr h=>Cx_ret (hr h)
    ·exact ih.mono fun r hr h=>Ybh (hr h)
    ·refine ih.mono fun r hr h=>Cx_seq (Zvu (hr h) fun e s h=>?_)
     cases e<;>exact h
    ·rename_i c a b
     split
     ·rename_i t hc
      refine Za Zyh (fun e he=>?_)
      subst he
      cases t with
      | true=>exact ih.mono fun r hr h=>Z39 hc (hr h)
      | false=>exact ih.mono fun r hr h=>Z39 hc (hr h)
     ·exact Zc
    ·rename_i i c
     refine ih.mono fun r hr h=>Z8p (Zvu (hr h) fun e s h=>?_)
     cases e<;>exact h
    ·rename_i c
     refine ih.mono fun r hr h=>Ya6 (Zvu (hr h) fun e s h=>?_)
     cases e<;>exact h
    ·rename_i i ops d
     split
     ·refine Za (Yap hP _) (fun s' hs=>ih.mono fun r hr h=>?_)
      obtain⟨C,h1,h2⟩:=hs
      exact Cx_ops hP C h1 h2 (hr h)
     ·refine Yi (fun hn=>Za (Z8t hP _) (fun s' hs=>ih.mono fun r hr h=>?_)) (fun _=>Zc)
      obtain⟨C,h1,h2⟩:=hs
      exact Yb5 hP C h1 hn h2 (hr h)
    ·exact Zc
theorem Z0d (hP:FuncsOk P) (n:Nat) {stk:List It} {ex:Ex} {s:St}:KP (mach P M n stk ex s) (fun r=>∀R,SX P R r.stk r.ex r.st→SX P R stk ex s):=fun q a obs q' e ho R=>Yas hP n q a obs q' e ho
def endK (P:Program) (M:Hints) (f:FuncId) (fn:Func) (xs:List V) (r:Res):KM (V×List V):=match r.stk with
 | []=>match r.ex with
  | .exit _=>fail
  | .normal=>retK P M f fn xs r.st
  | .ret=>retK P M f fn xs r.st
 | _=>fail
def runK (P:Program) (M:Hints) (f:FuncId) (fn:Func) (xs:List V) (n:Nat) (stk:List It) (s:St):KM (V×List V):=
 bnd (mach P M n stk .normal s) (endK P M f fn xs)
theorem Ya2 (hP:FuncsOk P) {f:FuncId} {fn:Func} {xs:List V} {n:Nat} {stk:List It} {s:St}:KP (runK P M f fn xs n stk s) (fun y=>SX P (RetC P M f fn xs y) stk .normal s):=by
 refine Za (Z0d hP n) (fun r hr=>?_)
 obtain⟨st,ex,s1⟩:=r
 unfold endK
 cases st with
 | cons x l=>exact Zc
 | nil=>cases ex with
  | exit i=>exact Zc
  | normal=>exact Z31.kp.mono fun y hy=>hr _ ⟨trivial,hy⟩
  | ret=>exact Z31.kp.mono fun y hy=>hr _ ⟨trivial,hy⟩
def told {α:Type} (x:Option (α×List Prop×List O)):Option (Prop×α):=match x with|some (a,obs,[])=>some (All obs,a)|_=>none
theorem Z3q {α:Type} {x:KM α} {q:List O} {Q:α→Prop} {p:Prop} {a:α} (h:KP x Q) (e:told (x q)=some (p,a)) (hp:p):Q a:=by
 unfold told at e
 split at e
 ·rename_i b obs hx
  injection e with e
  injection e with e1 e2
  subst e2
  exact h q _ _ _ hx (by rw[e1];exact hp)
 ·cases e
theorem Z3g (hP:FuncsOk P) {f:FuncId} {fn:Func} {xs:List V} {y:V×List V} {stk:List It} {s:St} {p:Prop} (n:Nat) (q:List O) (hp:p) (e:told (runK P M f fn xs n stk s q)=some (p,y)):SX P (RetC P M f fn xs y) stk .normal s:=
 Z3q (x:=runK P M f fn xs n stk s) (Q:=fun y=>SX P (RetC P M f fn xs y) stk .normal s) (Ya2 hP) e hp
def ren1 (f:List (Id×Id)):V→V
 | .ptr id i off=>match renI f id with|some id'=>.ptr id' i off|none=>.undef
 | .sl id off len=>match renI f id with|some id'=>.sl id' off len|none=>(match off,len with|0,0=>.lit (.slice none 0 0)|_,_=>.undef)
 | .lit v=>.lit v
 | .tr rows=>.tr rows
 | .vw rows=>.vw rows
 | .rp sh row off=>.rp sh row off
 | _=>.undef
def renV (f:List (Id×Id)):V→V
 | .agg xs=>.agg (xs.map (ren1 f))
 | .tup xs=>.tup (xs.map (ren1 f))
 | .fn g xs=>.fn g (xs.map (ren1 f))
 | x=>ren1 f x
theorem Zvx {f:List (Id×Id)} {x:V} (h:ren1 f x≠.undef∨x=.undef):VR1 f x (ren1 f x):=by
 cases x with
 | undef=>trivial
 | ptr id i off=>
  simp only[ren1] at h ⊢
  split
  ·rename_i id' hr;exact⟨hr,rfl,rfl⟩
  ·rename_i hr;rw[hr] at h;simp at h
 | sl id off len=>
  simp only[ren1] at h ⊢
  split
  ·rename_i id' hr;exact⟨hr,rfl,rfl⟩
  ·rename_i hr
   rw[hr] at h
   simp only at h
   split
   ·exact⟨hr,rfl,rfl⟩
   ·rename_i hne
    exfalso
    split at h
    ·rename_i h1 h2;exact hne rfl rfl
    ·simp at h
 | lit v=>rfl
 | tr rows=>rfl
 | vw rows=>rfl
 | rp sh row off=>rfl
 | agg _=>simp[ren1] at h
 | tup _=>simp[ren1] at h
 | fn _ _=>simp[ren1] at h
 | own _ _=>simp[ren1] at h
 | obx _=>simp[ren1] at h
def okV:V→Bool|.undef=>false|_=>true
theorem okV_ne {x:V} (h:okV x=true):x≠.undef:=by rintro rfl;cases h
theorem Zq5 {f:List (Id×Id)}:∀{xs:List V},(xs.map (ren1 f)).all okV=true→VRs f xs (xs.map (ren1 f)):=by
 intro xs
 induction xs with
 | nil=>intro _;trivial
 | cons x xs ih=>
  intro h
  simp only[List.map_cons,List.all_cons,Bool.and_eq_true] at h
  exact⟨Zvx (.inl (okV_ne h.1)),ih h.2⟩
def okVs:V→Bool
 | .agg xs|.tup xs|.fn _ xs=>xs.all okV
 | x=>okV x
theorem Ybu {f:List (Id×Id)} {x:V} (h:okVs (renV f x)=true):VR f x (renV f x):=by
 cases x with
 | agg xs=>exact Zq5 h
 | tup xs=>exact Zq5 h
 | fn g xs=>exact⟨rfl,Zq5 h⟩
 | undef=>trivial
 | lit v=>rfl
 | tr rows=>rfl
 | vw rows=>rfl
 | rp sh row off=>rfl
 | own e rows=>cases h
 | obx cs=>cases h
 | ptr id i off=>exact Zvx (x:=.ptr id i off) (.inl fun e=>by have h2:okVs (ren1 f (.ptr id i off))=true:=h;rw[e] at h2;cases h2)
 | sl id off len=>exact Zvx (x:=.sl id off len) (.inl fun e=>by have h2:okVs (ren1 f (.sl id off len))=true:=h;rw[e] at h2;cases h2)
def renB (f:List (Id×Id)) (p:Id×Blk):Option Blk:=match renI f p.1 with
 | none=>none
 | some _=>some ⟨p.2.box,p.2.own,p.2.cl,(if p.2.box then 0 else p.2.el),if p.2.box then p.2.rows.map (fun r=>r.map (ren1 f)) else p.2.rows⟩
def wasB (f:List (Id×Id)) (S:St) (p:Id×Blk):Option Blk:=match renI f p.1 with
 | none=>none
 | some id'=>(S.heap id').map fun c=>⟨c.box,c.own,c.cl,(if c.box then 0 else c.el),c.rows⟩
def newB (f:List (Id×Id)) (p:Id×Blk):Bool:=match renI f p.1 with
 | none=>!p.2.box&&p.2.own&&(match p.2.rows with|[]=>true|_=>false)
 | some _=>if p.2.box then (match p.2.rows with|[r]=>(r.map (ren1 f)).all okV|_=>false) else true
theorem Ybw {f:List (Id×Id)} {S:St} {p:Id×Blk} (h:wasB f S p=renB f p) (hn:newB f p=true):BR f S p.1 p.2:=by
 obtain⟨id,b⟩:=p
 unfold BR
 unfold wasB renB at h
 unfold newB at hn
 simp only at h hn ⊢
 split
 ·rename_i hr
  rw[hr] at hn
  simp only[Bool.and_eq_true,Bool.not_eq_true'] at hn
  refine⟨hn.1.1,hn.1.2,?_⟩
  cases hb:b.rows with
  | nil=>rfl
  | cons x l=>rw[hb] at hn;simp at hn
 ·rename_i id' hr
  rw[hr] at h hn
  simp only at h hn
  obtain⟨c,h1,h2⟩:=Option.map_eq_some_iff.1 h
  injection h2 with e1 e2 e3 e4 e5
  refine⟨c,h1,e1,e2,e3,?_⟩
  cases hbx:b.box with
  | true=>
   rw[hbx] at hn e1 e5
   simp only[if_true] at hn e5 ⊢
   cases hb:b.rows with
   | nil=>rw[hb] at hn;cases hn
   | cons r l=>cases l with
    | cons r2 l=>rw[hb] at hn;cases hn
    | nil=>
     rw[hb] at hn e5
     exact⟨r,_,rfl,e5,Zq5 hn⟩
  | false=>
   rw[hbx] at e1 e4 e5
   rw[e1] at e4
   simp only[Bool.false_eq_true,if_false] at e4 e5 ⊢
   exact⟨e4,e5⟩
def wasL (f:List (Id×Id)) (l:List (Nat×V)) (h:List (Id×Blk)) (S:St):List V×List (Option Blk):=(l.map fun p=>S.env p.1,h.map fun p=>wasB f S p)
def renL (f:List (Id×Id)) (l:List (Nat×V)) (h:List (Id×Blk)):List V×List (Option Blk):=(l.map fun p=>renV f p.2,h.map fun p=>renB f p)
def cutB (f:List (Id×Id)) (l:List (Nat×V)) (h:List (Id×Blk)) (ep:Nat):Bool:=wkB f l h ep&&(l.all fun p=>okVs (renV f p.2))&&h.all fun p=>newB f p
theorem Zuj {α β:Type} {g1 g2:α→β} {l:List α} (h:l.map g1=l.map g2):∀x∈l,g1 x=g2 x:=by
 induction l with
 | nil=>intro x hx;simp at hx
 | cons y l ih=>
  simp only[List.map_cons,List.cons.injEq] at h
  intro x hx
  rcases List.mem_cons.1 hx with rfl|hx
  ·exact h.1
  ·exact ih h.2 x hx
theorem Yao {f:List (Id×Id)} {l:List (Nat×V)} {h:List (Id×Blk)} {ep:Nat} {S:St} (e:wasL f l h S=renL f l h) (hb:cutB f l h ep=true):Weak f S l h ep:=by
 simp only[wasL,renL,Prod.mk.injEq] at e
 simp only[cutB,Bool.and_eq_true,List.all_eq_true] at hb
 refine⟨fun p hp=>?_,fun p hp=>Ybw (Zuj e.2 p hp) (hb.2 p hp),hb.1.1⟩
 rw[Zuj e.1 p hp]
 exact Ybu (hb.1.2 p hp)
def len1:V→KM V
 | .sl id off len=>bnd hear fun o=>match o with
  | .num n _ _ _=>bnd (obl (len=n)) fun _=>ret (.sl id off n)
  | _=>fail
 | x=>ret x
theorem Z3o {x:V}:KP (len1 x) (fun y=>y=x):=by
 unfold len1
 split
 ·refine Za Y1 (fun o _=>?_)
  split
  ·exact Za Zl (fun _ h=>Zh (by rw[h]))
  ·exact Zc
 ·exact Zh rfl
def lens:List V→KM (List V)
 | []=>ret []
 | x::xs=>bnd (len1 x) fun y=>bnd (lens xs) fun ys=>ret (y::ys)
theorem Zvc:∀{xs:List V},KP (lens xs) (fun ys=>ys=xs):=by
 intro xs
 induction xs with
 | nil=>exact Zh rfl
 | cons x xs ih=>exact Za Z3o (fun y hy=>Za ih (fun ys hys=>Zh (by rw[hy,hys])))
def lenV:V→KM V
 | .agg xs=>bnd (lens xs) fun ys=>ret (.agg ys)
 | .fn g xs=>bnd (lens xs) fun ys=>ret (.fn g ys)
 | x=>len1 x
theorem Yb2 {x:V}:KP (lenV x) (fun y=>y=x):=by
 unfold lenV
 split
 ·exact Za Zvc (fun y hy=>Zh (by rw[hy]))
 ·exact Za Zvc (fun y hy=>Zh (by rw[hy]))
 ·exact Z3o
def Z50 (S:St):List (Nat×V)→KM (List V)
 | []=>ret []
 | p::l=>bnd (lenV (S.env p.1)) fun y=>bnd (Z50 S l) fun ys=>ret (y::ys)
theorem Yaq {S:St}:∀{l:List (Nat×V)},KP (Z50 S l) (fun ys=>ys=l.map fun p=>S.env p.1):=by
 intro l
 induction l with
 | nil=>exact Zh rfl
 | cons p l ih=>exact Za Yb2 (fun y hy=>Za ih (fun ys hys=>Zh (by rw[hy,hys];rfl)))
def lenB:Option Blk→KM (Option Blk)
 | some ⟨true,own,cl,el,[row]⟩=>bnd (lens row) fun r=>ret (some ⟨true,own,cl,el,[r]⟩)
 | x=>ret x
theorem Ybr {x:Option Blk}:KP (lenB x) (fun y=>y=x):=by
 unfold lenB
 split
 ·exact Za Zvc (fun r hr=>Zh (by rw[hr]))
 ·exact Zh rfl
def lenH (f:List (Id×Id)) (S:St):List (Id×Blk)→KM (List (Option Blk))
 | []=>ret []
 | p::l=>bnd (lenB (wasB f S p)) fun y=>bnd (lenH f S l) fun ys=>ret (y::ys)
theorem Ybg {f:List (Id×Id)} {S:St}:∀{l:List (Id×Blk)},KP (lenH f S l) (fun ys=>ys=l.map fun p=>wasB f S p):=by
 intro l
 induction l with
 | nil=>exact Zh rfl
 | cons p l ih=>exact Za Ybr (fun y hy=>Za ih (fun ys hys=>Zh (by rw[hy,hys];rfl)))
def Z6l (f:List (Id×Id)) (l:List (Nat×V)) (h:List (Id×Blk)) (r:Res):KM (List It×List V×List (Option Blk)):=match r.ex with
 | .normal=>bnd (Z50 r.st l) fun vs=>bnd (lenH f r.st h) fun bs=>ret (r.stk,vs,bs)
 | _=>fail
def cutK (P:Program) (M:Hints) (f:List (Id×Id)) (l:List (Nat×V)) (h:List (Id×Blk)) (n:Nat) (stk:List It) (s:St):KM (List It×List V×List (Option Blk)):=
 bnd (mach P M n stk .normal s) (Z6l f l h)
def isC:List It→Bool
 | .c _::_=>true
 | _=>false
theorem Z3u (hP:FuncsOk P) {stk k2:List It} {s:St} {p:Prop} {l:List (Nat×V)} {h:List (Id×Blk)} {ep:Nat} (f:List (Id×Id)) (n:Nat) (q:List O) (hp:p) (hn:SX P R k2 .normal (mkS l h ep))
  (e:told (cutK P M f l h n stk s q)=some (p,(k2,renL f l h))) (hb:(isC k2&&cutB f l h ep)=true):SX P R stk .normal s:=by
 simp only[Bool.and_eq_true] at hb
 refine Z3q (x:=cutK P M f l h n stk s) (Q:=fun y=>y=(k2,renL f l h)→SX P R stk .normal s) ?_ e hp rfl
 refine Za (Z0d hP n) (fun r hr=>?_)
 obtain⟨st,ex,s1⟩:=r
 unfold Z6l
 cases ex with
 | normal=>
  refine Za Yaq (fun vs hvs=>Za Ybg (fun bs hbs=>Zh fun hy=>hr _ ?_))
  simp only[Prod.mk.injEq] at hy
  simp only
  rw[hy.1]
  have hy2:wasL f l h s1=renL f l h:=by
   rw[←hy.2,hvs,hbs];rfl
  cases k2 with
  | nil=>cases hb.1
  | cons x k=>cases x with
   | blk i=>cases hb.1
   | c x=>exact Ybf f (Yao hy2 hb.2) hn
 | ret=>exact Zc
 | exit i=>exact Zc
end
end Go.Proofs.YtlcfolgfmlgncaaGreatDoor.Ev
namespace Go.Proofs.YtlcfolgfmlgncaaGreatDoor.Ev
open Go
set_option linter.unusedVariables false
section
variable {α:Type}
def idx (xs:List α) (i:Int):Option α:=if 0≤i then xs[i.toNat]? else none
def appI (sz:Nat) (xs ys:List α):Option (List α):=if (xs.length+ys.length)*sz≤140737488355328∧xs.length+ys.length≤9223372036854775807 then some (xs++ys) else none
def mkI (sz:Nat) (n:Int) (z:α):Option (List α):=if 0≤n∧n.toNat*sz≤70368744177664∧n.toNat≤9223372036854775807 then some (List.replicate n.toNat z) else none
def Wc (xs:List α) (l h:Int):Option (List α):=if 0≤l∧l≤h∧h.toNat≤xs.length then some ((xs.drop l.toNat).take (h.toNat - l.toNat)) else none
def clrI (z:α) (xs:List α) (l h:Int):Option (List α):=if l.toNat+(h.toNat - l.toNat)≤xs.length then some (xs.take l.toNat++List.replicate (h.toNat - l.toNat) z++xs.drop (l.toNat+(h.toNat - l.toNat))) else none
def setO (xs:List α) (i:Int) (a:α):Option (List α):=some (xs.set i.toNat a)
def lenE {β:Type} (xs:List α) (ys:List β):Option Unit:=if xs.length=ys.length then some () else none
end
def strL (l:List UInt8):ByteArray:=⟨l.toArray⟩
def FU:Nat:=18446744073709551616
def w64 (n:Int):Int:=IntKind.i64.wrap n
def w8 (n:Int):Int:=IntKind.u8.wrap n
def addW (a b:Int):Int:=IntKind.i64.wrap (a+b)
def subW (a b:Int):Int:=IntKind.i64.wrap (a - b)
def mulW (a b:Int):Int:=IntKind.i64.wrap (a*b)
def quoW (a b:Int):Int:=IntKind.i64.wrap (a.tdiv b)
def remW (a b:Int):Int:=a.tmod b
def andW (a b:Int):Int:=IntKind.i64.wrap ((BitVec.ofInt IntKind.i64.bits a &&& BitVec.ofInt IntKind.i64.bits b).toNat)
def orW (a b:Int):Int:=IntKind.i64.wrap ((BitVec.ofInt IntKind.i64.bits a ||| BitVec.ofInt IntKind.i64.bits b).toNat)
def xorW (a b:Int):Int:=IntKind.i64.wrap ((BitVec.ofInt IntKind.i64.bits a ^^^ BitVec.ofInt IntKind.i64.bits b).toNat)
def shlW (a b:Int):Int:=IntKind.i64.wrap (a*2^min b.toNat IntKind.i64.bits)
def shrW (a b:Int):Int:=a.fdiv (2^min b.toNat IntKind.i64.bits)
def negW (a:Int):Int:=IntKind.i64.wrap (0 - a)
def minI (x y:Int):Int:=if y < x then y else x
def maxI (x y:Int):Int:=if y > x then y else x
def nzI (b:Int):Option Unit:=if b=0 then none else some ()
def nnI (b:Int):Option Unit:=if 0≤b then some () else none
def strB (xs:List Int):ByteArray:=⟨(xs.map fun n=>UInt8.ofNat n.toNat).toArray⟩
def catI (a b:ByteArray):Option Unit:=if ((a.size+b.size:Nat):Int) > IntKind.i64.max then none else some ()
theorem w64_of {n:Int} (h1:-9223372036854775808≤n) (h2:n < 9223372036854775808):w64 n=n:=by
 simp[w64,IntKind.wrap,IntKind.bits,IntKind.signed];omega
end Go.Proofs.YtlcfolgfmlgncaaGreatDoor.Ev
namespace Go.Proofs.YtlcfolgfmlgncaaGreatDoor.Ev
open Go Go.RowKit KM
set_option linter.unusedVariables false
set_option linter.unusedSimpArgs false
set_option linter.unusedSectionVars false
variable [Anchor]
abbrev il (n:Int):V:=.lit (.int .i64 n)
abbrev bl (b:Bool):V:=.lit (.bool b)
section
variable {P:Program} {M:Hints}
def entS (M:Hints) (f:FuncId) (xs:List V):St:=(St.enters ⟨fun _=>.undef,fun _=>none,0⟩ 0 (M.modes f) xs).getD ⟨fun _=>.undef,fun _=>none,0⟩
theorem Z9j (hP:FuncsOk P) {f:FuncId} {fn:Func} {c:Code} {xs:List V} {r:V} {os:List V} (hfn:P.funcs[f]?=some fn) (hc:fn.body=some c) (hs:(St.enters ⟨fun _=>.undef,fun _=>none,0⟩ 0 (M.modes f) xs).isSome=true)
  (h:SX P (RetC P M f fn xs (r,os)) [.c c] .normal (entS M f xs)):Fine P M (f,xs,r,os):=by
 obtain⟨s1,h1⟩:=Option.isSome_iff_exists.1 hs
 refine Ybv hP hfn hc h1 ?_
 have:entS M f xs=s1:=by unfold entS;rw[h1];rfl
 rw[←this]
 exact h
end
theorem aa {p q:Prop} (h:p) (k:q):p∧q:=⟨h,k⟩
theorem tt:True:=trivial
theorem Z9t {α β:Type} {x:Option α} {f:α→Option β} {b:β} (h:x.bind f=some b):∃a,x=some a∧f a=some b:=Option.bind_eq_some_iff.1 h
theorem Z8x {β:Type} {t:Bool} {x y:Option β} {b:β} (h:(if t=true then x else y)=some b):(t=true∧x=some b)∨(t=false∧y=some b):=by
 cases t with
 | true=>exact .inl ⟨rfl,h⟩
 | false=>exact .inr ⟨rfl,h⟩
section
variable {α:Type}
theorem ixn {xs:List α} {i:Int} {a:α} (h:idx xs i=some a):Yf (il i)=some i.toNat:=by
 unfold idx at h
 split at h
 ·rename_i h0;simp[Yf,h0]
 ·cases h
theorem ixr (e:α→List V) {xs:List α} {i:Int} {a:α} (h:idx xs i=some a):(xs.map e)[i.toNat]?=some (e a):=by
 unfold idx at h
 split at h
 ·rw[List.getElem?_map,h];rfl
 ·cases h
theorem ixl (e:α→List V) {xs:List α} {i:Int} {a:α} (h:idx xs i=some a):i.toNat < (xs.map e).length:=(List.getElem?_eq_some_iff.1 (ixr e h)).1
theorem lenr (e:α→List V) (xs:List α):(xs.map e).length=xs.length:=List.length_map ..
theorem lene (e:α→List V) (xs:List α):(xs.map e).length=(xs.map e).length:=rfl
theorem alr (n:Nat) {e:α→List V} (he:∀a,(e a).length=n) (xs:List α):Za5 n (xs.map e)=true:=by
 unfold Za5
 rw[List.all_eq_true]
 intro r hr
 obtain⟨a,_,rfl⟩:=List.mem_map.1 hr
 simp[he]
theorem ltr {e:α→List V} (he:∀a,(e a).all Zjs=true) (xs:List α):We (xs.map e)=true:=by
 unfold We
 rw[List.all_eq_true]
 intro r hr
 obtain⟨a,_,rfl⟩:=List.mem_map.1 hr
 exact he a
theorem apm (e:α→List V) {sz:Nat} {xs ys zs:List α} (h:appI sz xs ys=some zs):xs.map e++ys.map e=zs.map e:=by
 unfold appI at h
 split at h
 ·injection h with h;rw[←h,List.map_append]
 ·cases h
theorem apl (e:α→List V) {sz:Nat} {xs ys zs:List α} (h:appI sz xs ys=some zs):((xs.map e).length+(ys.map e).length)*sz≤140737488355328∧(xs.map e).length+(ys.map e).length≤9223372036854775807:=by
 unfold appI at h
 split at h
 ·rename_i hh;simpa using hh
 ·cases h
theorem apm0 (e:α→List V) {sz:Nat} {ys zs:List α} (h:appI sz [] ys=some zs):ys.map e=zs.map e:=apm e h
theorem mkn {sz:Nat} {n:Int} {z:α} {xs:List α} (h:mkI sz n z=some xs):Yf (il n)=some n.toNat:=by
 unfold mkI at h
 split at h
 ·rename_i h0;simp[Yf,h0.1]
 ·cases h
theorem mkl {sz:Nat} {n:Int} {z:α} {xs:List α} (h:mkI sz n z=some xs):n.toNat*sz≤70368744177664∧n.toNat≤9223372036854775807:=by
 unfold mkI at h
 split at h
 ·rename_i h0;exact h0.2
 ·cases h
theorem mkr (e:α→List V) {sz:Nat} {n:Int} {z:α} {xs:List α} (h:mkI sz n z=some xs):List.replicate n.toNat (e z)=xs.map e:=by
 unfold mkI at h
 split at h
 ·injection h with h;rw[←h,List.map_replicate]
 ·cases h
theorem sln {xs ys:List α} {l h:Int} (e:Wc xs l h=some ys):Yf (il l)=some l.toNat∧Yf (il h)=some h.toNat:=by
 unfold Wc at e
 split at e
 ·rename_i h0
  refine⟨by simp[Yf,h0.1],?_⟩
  have:0≤h:=by omega
  simp[Yf,this]
 ·cases e
theorem sll (en:α→List V) {xs ys:List α} {l h:Int} (e:Wc xs l h=some ys):l.toNat≤h.toNat∧h.toNat≤(xs.map en).length:=by
 unfold Wc at e
 split at e
 ·rename_i h0
  rw[List.length_map]
  omega
 ·cases e
theorem slr (en:α→List V) {xs ys:List α} {l h:Int} (e:Wc xs l h=some ys):((xs.map en).drop l.toNat).take (h.toNat - l.toNat)=ys.map en:=by
 unfold Wc at e
 split at e
 ·injection e with e;rw[←e,List.map_take,List.map_drop]
 ·cases e
end
def encI (n:Int):List V:=[.lit (.int .i64 n)]
def encU (n:Int):List V:=[.lit (.int .u8 n)]
def encB (b:Bool):List V:=[.lit (.bool b)]
def encS (b:ByteArray):List V:=[.lit (.string b)]
theorem Xv (n:Int):(encI n).length=1:=rfl
theorem Zn4 (n:Bool):(encB n).length=1:=rfl
theorem Ze9 (n:Int):(encI n).all Zjs=true:=rfl
abbrev ss (b:ByteArray):V:=.lit (.string b)
theorem stx (xs:List Int):strV (xs.map fun n=>[V.lit (.int .u8 n)])=some (strB xs):=by
 have:Zh5 (xs.map fun n=>[V.lit (.int .u8 n)])=some (xs.map fun n=>UInt8.ofNat n.toNat):=by
  induction xs with
  | nil=>rfl
  | cons x xs ih=>
   unfold Zh5 at ih ⊢
   simp only[List.map_cons,Zj9]
   rw[ih]
   rfl
 unfold strV
 rw[this]
 rfl
section
variable {α:Type}
theorem seto (e:α→List V) {xs ys:List α} {i:Int} {a:α} (h:setO xs i a=some ys):(xs.map e).set i.toNat (e a)=ys.map e:=by
 unfold setO at h
 injection h with h
 rw[←h,List.map_set]
theorem setl (e:α→List V) {xs ys:List α} {i:Int} {a:α} (h:setO xs i a=some ys):(xs.map e).length=(ys.map e).length:=by
 rw[←seto e h,List.length_set]
theorem lz (e:α→List V) {xs:List α} (h:decide (xs.length=0)=true):(xs.map e).length=0:=by
 rw[List.length_map];exact of_decide_eq_true h
theorem lnz (e:α→List V) {xs:List α} (h:decide (xs.length=0)=false):(xs.map e).length≠0:=by
 rw[List.length_map];exact of_decide_eq_false h
theorem ixc (e:α→List V) {xs ys:List α} {i:Int} {a:α} (h:idx ys i=some a) (hl:(xs.map e).length=(ys.map e).length):i.toNat < (xs.map e).length:=hl▸ixl e h
theorem lenq (e:α→List V) {xs ys:List α} {u:Unit} (h:lenE xs ys=some u):(xs.map e).length=(ys.map e).length:=by
 unfold lenE at h
 split at h
 ·rename_i hh;simpa using hh
 ·cases h
theorem sla (en:α→List V) {xs ys:List α} {l h:Int} (e:Wc xs l h=some ys):l.toNat+(h.toNat - l.toNat)≤(xs.map en).length:=by
 have:=sll en e
 omega
end
section
variable {α:Type}
theorem Z0p {sz:Nat} {r:List α} (h:appI sz [] []=some r):[]=r:=by
 unfold appI at h
 split at h
 ·injection h
 ·cases h
theorem apz (n:Nat):(0+0)*n≤140737488355328∧0+0≤9223372036854775807:=by simp
theorem clrl (e:α→List V) {z:α} {xs ys:List α} {l h:Int} (q:clrI z xs l h=some ys):l.toNat+(h.toNat - l.toNat)≤(xs.map e).length:=by
 unfold clrI at q
 split at q
 ·rwa [List.length_map]
 ·cases q
theorem clrr (e:α→List V) {z:α} {xs ys:List α} {l h:Int} (q:clrI z xs l h=some ys):(xs.map e).take l.toNat++List.replicate (h.toNat - l.toNat) (e z)++(xs.map e).drop (l.toNat+(h.toNat - l.toNat))=ys.map e:=by
 unfold clrI at q
 split at q
 ·injection q with q;rw[←q];simp
 ·cases q
theorem clrs (e:α→List V) {z:α} {xs ys:List α} {l h:Int} (q:clrI z xs l h=some ys):(xs.map e).length=(ys.map e).length:=by
 unfold clrI at q
 split at q
 ·injection q with q;rw[←q];simp;omega
 ·cases q
end
def ks:Nat→List O→List O
 | 0,l=>l
 | n+1,l=>.k::ks n l
def Scr (q:List O) (p:Prop):Prop:=p
theorem ee:Scr [] True:=trivial
section
variable {q:List O} {p:Prop} {α:Type}
theorem kk (n:Nat) (k:Scr q p):Scr (ks n q) p:=k
theorem gg {c b:Bool} (h:c=b) (k:Scr q p):Scr (.t b::q) (c=b∧p):=⟨h,k⟩
theorem rr {P:Program} {M:Hints} {y:FuncId×List V×V×List V} (h:Fine P M y) (k:Scr q p):Scr (.res y.2.2.1 y.2.2.2::q) (Fine P M y∧p):=⟨h,k⟩
theorem xb (e:α→List V) {xs:List α} {i:Int} {a:α} (h:idx xs i=some a) (k:Scr q p):Scr (.row i.toNat (e a)::q) (Yf (il i)=some i.toNat∧(xs.map e)[i.toNat]?=some (e a)∧p):=⟨ixn h,ixr e h,k⟩
theorem xd (e:α→List V) {xs:List α} {i:Int} {a:α} (h:idx xs i=some a) (k:Scr q p):Scr (.row i.toNat (e a)::.cell (e a)::q) (Yf (il i)=some i.toNat∧i.toNat < (xs.map e).length∧(xs.map e)[i.toNat]?=some (e a)∧(xs.map e)[i.toNat]?=some (e a)∧p):=⟨ixn h,ixl e h,ixr e h,ixr e h,k⟩
theorem xp (e:α→List V) {xs ys:List α} {i:Int} {a b:α} (h:idx xs i=some a) (h2:setO xs i b=some ys) (k:Scr q p):Scr (.row i.toNat (e a)::.put (e a) (ys.map e)::q) (Yf (il i)=some i.toNat∧i.toNat < (xs.map e).length∧(xs.map e)[i.toNat]?=some (e a)∧(xs.map e)[i.toNat]?=some (e a)∧(xs.map e).set i.toNat (e b)=ys.map e∧p):=⟨ixn h,ixl e h,ixr e h,ixr e h,seto e h2,k⟩
theorem xq (e:α→List V) {xs:List α} {i:Int} {a:α} (h:idx xs i=some a) (ys:List α) (k:Scr q p):Scr (.row i.toNat (e a)::.put (e a) (ys.map e)::q) (Yf (il i)=some i.toNat∧i.toNat < (xs.map e).length∧(xs.map e)[i.toNat]?=some (e a)∧(xs.map e)[i.toNat]?=some (e a)∧p):=⟨ixn h,ixl e h,ixr e h,ixr e h,k⟩
theorem ln (e:α→List V) (xs:List α) (k:Scr q p):Scr (.num (xs.map e).length 0 0 []::q) ((xs.map e).length=(xs.map e).length∧p):=⟨rfl,k⟩
theorem lr (e:α→List V) (xs:List α) (k:Scr q p):Scr (.num xs.length 0 0 []::q) ((xs.map e).length=xs.length∧p):=⟨lenr e xs,k⟩
theorem tp (x:O) (k:Scr q p):Scr (x::q) p:=k
theorem tq (l:List O) (k:Scr q p):Scr (l++q) p:=k
theorem ta (e:α→List V) (ys zs:List α) (k:Scr q p):Scr (.app (ys.map e) true (zs.map e) (zs.map e).length::q) p:=k
theorem oa (n:Nat) {e:α→List V} (he:∀a,(e a).length=n) (x:α) (k:Scr q p):Scr q (1=([x].map e).length∧[x].map e=[x].map e∧Za5 n ([x].map e)=true∧p):=⟨rfl,rfl,alr n he [x],k⟩
theorem ol (n:Nat) {e:α→List V} (he:∀a,(e a).length=n) (hl:∀a,(e a).all Zjs=true) (ys:List α) (k:Scr q p):Scr q (ys.map e=ys.map e∧We (ys.map e)=true∧Za5 n (ys.map e)=true∧0=(([]:List α).map e).length∧p):=⟨rfl,ltr hl ys,alr n he ys,rfl,k⟩
theorem ox (e:α→List V) {sz:Nat} {xs ys zs:List α} (h:appI sz xs ys=some zs) (k:Scr q p):Scr q ((xs.map e).length=(xs.map e).length∧(((xs.map e).length+(ys.map e).length)*sz≤140737488355328∧(xs.map e).length+(ys.map e).length≤9223372036854775807)∧xs.map e++ys.map e=zs.map e∧p):=⟨rfl,apl e h,apm e h,k⟩
theorem oe (e:α→List V) (xs:List α) (k:Scr q p):Scr q ((xs.map e).length=(xs.map e).length∧p):=⟨rfl,k⟩
theorem ob {a:Prop} (h:a) (k:Scr q p):Scr q (a∧p):=⟨h,k⟩
end
theorem nz0 {b:Int} {u:Unit} (h:nzI b=some u):b≠0:=by
 unfold nzI at h;split at h
 ·cases h
 ·assumption
theorem nn0 {b:Int} {u:Unit} (h:nnI b=some u):0≤b:=by
 unfold nnI at h;split at h
 ·assumption
 ·cases h
theorem cat0 {a b:ByteArray} {u:Unit} (h:catI a b=some u):¬((a.size+b.size:Nat):Int) > IntKind.i64.max:=by
 unfold catI at h;split at h
 ·cases h
 ·assumption
def Zp6 (f:Func):Code:=f.body.getD .skip
def at_:List Nat→Code→List It→List It
 | 0::p,.seq a b,k=>at_ p a (.c b::k)
 | _::p,.seq _ b,k=>at_ p b k
 | 0::p,.cond _ a _,k=>at_ p a k
 | _::p,.cond _ _ b,k=>at_ p b k
 | _::p,.block i c,k=>at_ p c (.blk i::k)
 | _::p,.loop c,k=>at_ p c (.c (.loop c)::k)
 | _,c,k=>.c c::k
end Go.Proofs.YtlcfolgfmlgncaaGreatDoor.Ev
namespace Go.Proofs.YtlcfolgfmlgncaaGreatDoor.Ev
open Go Go.RowKit
set_option linter.unusedVariables false
set_option linter.unusedSimpArgs false
set_option linter.unusedSectionVars false
variable [Anchor]
section
variable {P:Program} {M:Hints} {w:World} {ok top:Nat→Prop}
theorem Z38:∀{us:List Value} {xs:List V},us.length=xs.length→OutsR P w ok top [] us xs (xs.map fun _=>V.undef) []
 | [],[],_=>.nil
 | u::us,x::xs,h=>.cons (f1:=[]) (f2:=[]) rfl (Z38 (by simpa using h))
theorem Ybi {ms:List Mode} {us:List Value} {xs:List V} {G:List Nat} (h:ArgsR P w ok top ms us xs G):ms=[]→us.length=xs.length∧G=[]∧∀(j:Nat) (u:Value) (x:V),us[j]?=some u→xs[j]?=some x→∀ρ,En w ok ρ u x:=by
 induction h with
 | nil=>intro _;exact⟨rfl,rfl,fun j u x hu=>by simp at hu⟩
 | cons h hs ih=>
  intro hm
  subst hm
  obtain⟨h1,rfl,h2⟩:=ih rfl
  obtain⟨h3,rfl⟩:=h
  refine⟨by simp[h1],rfl,fun j u x hu hx=>?_⟩
  cases j with
  | zero=>simp at hu hx;subst hu;subst hx;exact h3
  | succ j=>exact h2 j u x (by simpa using hu) (by simpa using hx)
theorem Z3y {f:FuncId} {xs:List V} {v:Value} {x:V} (hfn:∃fn,P.funcs[f]?=some fn∧fn.body.isSome=true) (hm:M.modes f=[]) (hv:∀(w':World) (ok top:Nat→Prop),ResR P w' ok top v x [])
  (h:∀(w:World) (us:List Value) (ok:Nat→Prop),Anch w (fun _=>False)→(∀g,ok g→g < w.heap.size)→us.length=xs.length→(∀(j:Nat) (u:Value) (x:V),us[j]?=some u→xs[j]?=some x→∀ρ,En w ok ρ u x)→
   Calls P f us.toArray w (fun e w'=>e=.returned v∧Below w.heap.size w w')):Fine P M (f,xs,x,xs.map fun _=>.undef):=by
 refine⟨hfn,?_⟩
 show Zko P (M.modes f) f xs x _
 rw[hm]
 intro w us G T X ok hT hargs hGn hG hok hX
 obtain⟨hl,rfl,he⟩:=Ybi hargs rfl
 have:=h w us.toList ok ⟨hT.1,hT.2.1,fun g hg=>hg.elim⟩ (fun g hg=>(hok g hg).1) hl he
 rw[Array.toArray_toList] at this
 exact this.mono fun e w' ⟨he,hb⟩=>⟨v,he,⟨⟨hb.os,hb.tape,hb.output,hb.size,fun k hk _=>hb.block k hk⟩,ok,T,[],[],hv w' ok T,Z38 hl,by simp,fun g hg=>by simp at hg,fun g hg=>.inl hg,fun g hg=>⟨Nat.lt_of_lt_of_le (hok g hg).1 hb.size,(hok g hg).2⟩⟩⟩
theorem Z3j {v:Value} (hv:Wx v=true) (w':World) (ok top:Nat→Prop):ResR P w' ok top v (.lit v) []:=show Giv P w' ok top v (.lit v) [] from .lit hv
theorem Zww:∀l:List ByteArray,(l.map encS).flatten=l.map fun x=>V.lit (.string x)
 | []=>rfl
 | a::l=>by simp only[List.map_cons,List.flatten_cons,Zww l];rfl
theorem Z69 {ρ:Rho} {u v:Value} (h:En w ok ρ u (.lit v)):u=v:=by cases h;rfl
theorem Ybk {ρ:Rho} {u:Value} {l:List ByteArray} (h:En w ok ρ u (.tr (l.map encS))):
  (∃A c,u=.slice A 0 c∧l=[])∨∃g o c,u=.slice (some ⟨g,o,none⟩) l.length c∧ok g∧l.length≤c∧∀(j:Nat) x,l[j]?=some x→w.cell? ⟨g,o+j,none⟩=some (.string x):=by
 cases h with
 | tr h=>
  have hf:(l.map encS).flatten=l.map fun x=>V.lit (.string x):=Zww l
  generalize hq:l.map encS=rows at h
  cases h with
  | emp=>exact .inl ⟨_,_,rfl,by simpa using hq⟩
  | @tr g o n c sz rows u hn hc hm hs hg hu hr=>
   subst hq
   rw[hf] at hu hr
   have hn':n=l.length:=by rw[←hn];simp
   subst hn'
   refine .inr ⟨g,o,c,rfl,hg,hc,fun j x hx=>?_⟩
   have h1:(l.map fun x=>V.lit (.string x))[j]?=some (V.lit (.string x)):=by rw[List.getElem?_map,hx];rfl
   rw[hu j _ h1]
   have:=hr j _ h1
   generalize u j=q at this
   cases this;rfl
end
end Go.Proofs.YtlcfolgfmlgncaaGreatDoor.Ev
namespace Go.Proofs.YtlcfolgfmlgncaaGreatDoor.Ev
open Go Go.Proofs
set_option linter.unusedVariables false
structure GL1Cur where
 b:List Int
 i:Int
 h:Int
 deriving DecidableEq
structure GMConf where
 weight:Int
 prio:Bool
 every:Int
 cap:Int
 deriving DecidableEq
structure GConf where
 masters:List GMConf
 quantum:Int
 maxWait:Int
 maxRetry:Int
 maxSplit:Int
 lockMost:Int
 deriving DecidableEq
structure GReq where
 write:Bool
 addr:Int
 size:Int
 burst:Int
 lock:Bool
 data_:List Int
 deriving DecidableEq
structure GPost where
 at_:Int
 who:Int
 req:GReq
 deriving DecidableEq
structure GScript where
 posts:List GPost
 waits:List Int
 says:List Int
 deriving DecidableEq
structure GMst where
 queue:List GReq
 beat:Int
 done:Int
 tries:Int
 parted:Bool
 broken:Bool
 deriving DecidableEq
structure GWrr where
 at_:Int
 credit:Int
 deriving DecidableEq
structure GBucket where
 tokens:Int
 count:Int
 deriving DecidableEq
structure GBeat where
 live:Bool
 who:Int
 beat:Int
 first:Bool
 by_:Int
 left:Int
 resp:Int
 second:Bool
 deriving DecidableEq
structure GDev where
 regs:List Int
 timer:Int
 fifo:List Int
 deriving DecidableEq
structure GModel where
 mem:List Int
 dev:GDev
 deriving DecidableEq
structure GDone where
 cycle:Int
 who:Int
 write:Bool
 addr:Int
 size:Int
 value:Int
 resp:Int
 deriving DecidableEq
structure GBus where
 conf:GConf
 now:Int
 m:List GMst
 arb:GWrr
 buckets:List GBucket
 splits:List Int
 holder:Int
 held:Int
 last:Int
 addr:GBeat
 data_:GBeat
 model:GModel
 picks:Int
 log:List GDone
 deriving DecidableEq
structure GWave where
 cycle:Int
 addr:Int
 kind:Int
 who:Int
 data_:Int
 from_:Int
 ready:Bool
 resp:Int
 got:Int
 deriving DecidableEq
abbrev GMConf.z0:GMConf:=⟨0,false,0,0⟩
abbrev GConf.z0:GConf:=⟨[],0,0,0,0,0⟩
abbrev GReq.z0:GReq:=⟨false,0,0,0,false,[]⟩
abbrev GScript.z0:GScript:=⟨[],[],[]⟩
abbrev GMst.z0:GMst:=⟨[],0,0,0,false,false⟩
abbrev GWrr.z0:GWrr:=⟨0,0⟩
abbrev GBucket.z0:GBucket:=⟨0,0⟩
abbrev GBeat.z0:GBeat:=⟨false,0,0,false,0,0,0,false⟩
abbrev GDev.z0:GDev:=⟨[],0,[]⟩
abbrev GModel.z0:GModel:=⟨[],GDev.z0⟩
abbrev GDone.z0:GDone:=⟨0,0,false,0,0,0,0⟩
abbrev GBus.z0:GBus:=⟨GConf.z0,0,[],GWrr.z0,[],[],0,0,0,GBeat.z0,GBeat.z0,GModel.z0,0,[]⟩
abbrev GWave.z0:GWave:=⟨0,0,0,0,0,0,false,0,0⟩
def Zv5 (x0:List Int):Option Bool:=
 some (decide ((x0.length:Int) > 1048576))
def Ze7 (x0:List Int) (k_L1:Int→Int→Option GL1Cur) (v0:Int) (v1:Int) (v2:Bool):Option GL1Cur:=
 if v2=true then (
  (idx x0 v1).bind fun a0=>
  k_L1 (andW (addW (addW (mulW v0 131) (w64 a0)) 7) 1073741823) (addW v1 1))
 else (
  some (GL1Cur.mk x0 0 v0))
def Zg7 (x0:List Int)  (k:Int→Int→Option GL1Cur) (v0:Int) (v1:Int):Option GL1Cur:=
 if decide (v1 < (x0.length:Int))=true then (
  Ze7 x0 k v0 v1 (decide (v1 < 4000)))
 else (
  Ze7 x0 k v0 v1 false)
def Ks (x0:List Int)  : Nat→Int→Int→Option GL1Cur
 | 0,_,_=>none
 | m+1,v0,v1=>Zg7 x0  (Ks x0  m) v0 v1
def Zl7 (x0:List Int):Option GL1Cur:=
 Ks x0 FU (addW 10101 (x0.length:Int)) 0
def Jf (x0:GL1Cur):Option (Int×GL1Cur):=
 if decide (x0.i < (x0.b.length:Int))=true then (
  (idx x0.b x0.i).bind fun a0=>
  some ((andW (addW (andW (xorW (shrW (addW (mulW x0.h 6364136223846793005) 1442695040888963407) 33) (shrW (addW (mulW x0.h 6364136223846793005) 1442695040888963407) 45)) 255) (w64 a0)) 255),(GL1Cur.mk x0.b (addW x0.i 1) (addW (mulW x0.h 6364136223846793005) 1442695040888963407))))
 else (
  some ((andW (xorW (shrW (addW (mulW x0.h 6364136223846793005) 1442695040888963407) 33) (shrW (addW (mulW x0.h 6364136223846793005) 1442695040888963407) 45)) 255),{x0 with h:=(addW (mulW x0.h 6364136223846793005) 1442695040888963407)}))
def Zm (x0:GL1Cur) (x1:Int):Option (Int×GL1Cur):=
 if decide (x1≤0)=true then (
  some (0,x0))
 else (
  if decide (x1≤256)=true then (
   (Jf x0).bind fun r0=>
   (nzI x1).bind fun n0=>
   some ((remW r0.1 x1),r0.2))
  else (
   (Jf x0).bind fun r1=>
   (Jf r1.2).bind fun r2=>
   (Jf r2.2).bind fun r3=>
   (Jf r3.2).bind fun r4=>
   (nzI x1).bind fun n1=>
   some ((remW (addW (addW (addW (mulW r1.1 16777216) (mulW r2.1 65536)) (mulW r3.1 256)) r4.1) x1),r4.2)))
def Je (x0:GL1Cur) (x1:Int):Option (Bool×GL1Cur):=
 (Zm x0 x1).bind fun r0=>
 some (decide (r0.1=0),r0.2)
def Zk (x0:Int) (x1:Int) (x2:Int):Option Bool:=
 if decide (x0≥x1)=true then (
  some (decide (x0≤x2)))
 else (
  some false)
def Zdr (x0:GConf)  (v0:Bool):Option Int:=
 if v0=true then (
  some 0)
 else (
  some (mulW (addW x0.maxRetry 2) (addW x0.maxWait 6)))
def Za0 (x0:GConf):Option Int:=
 (Zk x0.maxRetry 0 3).bind fun r0=>
 if (!r0)=true then (
  Zdr x0 true)
 else (
  (Zk x0.maxWait 0 3).bind fun r1=>
  Zdr x0 (!r1))
def Q7 (x0:GConf):Option Int:=
 (Za0 x0).bind fun r0=>
 if decide (r0=0)=true then (
  some 0)
 else (
  (Zk x0.lockMost 1 40).bind fun r1=>
  if (!r1)=true then (
   some 0)
  else (
   (Za0 x0).bind fun r2=>
   some (addW (mulW 2 r2) x0.lockMost)))
def Zfm (x0:GL1Cur)  (k:GL1Cur→GConf→Int→Option (GConf×GL1Cur)) (vb0:GL1Cur) (vb1:GConf) (v0:Int):Option (GConf×GL1Cur):=
 if decide (v0 > 0)=true then (
  (Zm vb0 3).bind fun r0=>
  (appI 32 vb1.masters [(GMConf.mk (addW 1 r0.1) false 0 0)]).bind fun z0=>
  k r0.2 {vb1 with masters:=z0} (subW v0 1))
 else (
  (Je vb0 2).bind fun r1=>
  if r1.1=true then (
   (Zm r1.2 (vb1.masters.length:Int)).bind fun r2=>
   (idx vb1.masters r2.1).bind fun a0=>
   (setO vb1.masters r2.1 {a0 with prio:=true}).bind fun y0=>
   (Q7 {vb1 with masters:=y0}).bind fun r3=>
   (Zm r2.2 30).bind fun r4=>
   (idx y0 r2.1).bind fun a1=>
   (setO y0 r2.1 {a1 with every:=(addW (mulW 2 r3) r4.1)}).bind fun y1=>
   (Zm r4.2 4).bind fun r5=>
   (idx y1 r2.1).bind fun a2=>
   (setO y1 r2.1 {a2 with cap:=(addW 1 r5.1)}).bind fun y2=>
   some ({vb1 with masters:=y2},r5.2))
  else (
   some (vb1,r1.2)))
def Kc (x0:GL1Cur)  : Nat→GL1Cur→GConf→Int→Option (GConf×GL1Cur)
 | 0,_,_,_=>none
 | m+1,vb0,vb1,v0=>Zfm x0  (Kc x0  m) vb0 vb1 v0
def Zjx (x0:GL1Cur):Option (GConf×GL1Cur):=
 (Zm x0 3).bind fun r6=>
 (Zm r6.2 3).bind fun r7=>
 (Zm r7.2 3).bind fun r8=>
 (Zm r8.2 6).bind fun r9=>
 (Zm r9.2 12).bind fun r10=>
 (Zm r10.2 4).bind fun r11=>
 Kc x0 FU r11.2 (GConf.mk [] (addW 1 r6.1) r7.1 r8.1 (addW 1 r9.1) (addW 1 r10.1)) (addW 1 r11.1)
def Zfv (x0:GL1Cur) (x1:Int)  (k:GL1Cur→(List Int)→Int→Option (List Int×GL1Cur)) (vb0:GL1Cur) (v0:List Int) (v1:Int):Option (List Int×GL1Cur):=
 if decide (v1 > 0)=true then (
  (Zm vb0 x1).bind fun r0=>
  (appI 8 v0 [r0.1]).bind fun z0=>
  k r0.2 z0 (subW v1 1))
 else (
  some (v0,vb0))
def Ke (x0:GL1Cur) (x1:Int)  : Nat→GL1Cur→(List Int)→Int→Option (List Int×GL1Cur)
 | 0,_,_,_=>none
 | m+1,vb0,v0,v1=>Zfv x0 x1  (Ke x0 x1  m) vb0 v0 v1
def Zah (x0:GL1Cur) (x1:Int):Option (List Int×GL1Cur):=
 (Zm x0 6).bind fun r1=>
 Ke x0 x1 FU r1.2 [] r1.1
def Xe (x0:GL1Cur) (x1:List Int):Option (Int×GL1Cur):=
 (Zm x0 (x1.length:Int)).bind fun r0=>
 (idx x1 r0.1).bind fun a0=>
 some (a0,r0.2)
def Xi (x0:Int):Option Int:=
 (Zk x0 0 2).bind fun r0=>
 if (!r0)=true then (
  some 0)
 else (
  (nnI x0).bind fun n0=>
  some (shlW 1 x0))
def Wi (x0:Int):Option Int:=
 (Zk x0 0 3).bind fun r0=>
 if (!r0)=true then (
  some 0)
 else (
  (idx [1,4,4,8] x0).bind fun a0=>
  some a0)
def Zbn (x0:Int) (x1:Int):Option Bool:=
 (Xi x1).bind fun r0=>
 if decide (r0 > 0)=true then (
  if decide (x0≥0)=true then (
   (Xi x1).bind fun r1=>
   (nzI r1).bind fun n0=>
   some (decide ((remW x0 r1)=0)))
  else (
   some false))
 else (
  some false)
def Zat (x0:Int) (x1:Int) (x2:Int)  (v0:Int) (v1:Bool):Option Int:=
 if v1=true then (
  some (subW (addW x0 v0) (mulW 4 v0)))
 else (
  some (addW x0 v0))
def Kj (x0:Int) (x1:Int) (x2:Int)  (v0:Int) (v2:Bool):Option Int:=
 if v2=true then (
  some (-1))
 else (
  if decide (x2=2)=true then (
   (nzI (mulW 4 v0)).bind fun n0=>
   Zat x0 x1 x2 v0 (decide ((remW (addW x0 v0) (mulW 4 v0))=0)))
  else (
   Zat x0 x1 x2 v0 false))
def Zc9 (x0:Int) (x1:Int) (x2:Int):Option Int:=
 (Xi x1).bind fun r0=>
 (Zbn x0 x1).bind fun r1=>
 if (!r1)=true then (
  Kj x0 x1 x2 r0 true)
 else (
  (Zk x0 0 511).bind fun r2=>
  if (!r2)=true then (
   Kj x0 x1 x2 r0 true)
  else (
   (Wi x2).bind fun r3=>
   Kj x0 x1 x2 r0 (decide (r3=0))))
def Qk (x0:Int) (x1:Int) (x2:Int) (k_L1:Int→(List Int)→Option (List Int)) (v0:Int) (v1:List Int) (v2:Bool):Option (List Int):=
 if v2=true then (
  (appI 8 v1 [v0]).bind fun z0=>
  (Zc9 v0 x1 x2).bind fun r0=>
  k_L1 r0 z0)
 else (
  (Wi x2).bind fun r1=>
  if decide ((v1.length:Int) < r1)=true then (
   some [])
  else (
   some v1))
def W1 (x0:Int) (x1:Int) (x2:Int)  (k:Int→(List Int)→Option (List Int)) (v0:Int) (v1:List Int):Option (List Int):=
 (Wi x2).bind fun r2=>
 if decide ((v1.length:Int) < r2)=true then (
  (Zc9 v0 x1 x2).bind fun r3=>
  Qk x0 x1 x2 k v0 v1 (decide (r3≥0)))
 else (
  Qk x0 x1 x2 k v0 v1 false)
def Jb (x0:Int) (x1:Int) (x2:Int)  : Nat→Int→(List Int)→Option (List Int)
 | 0,_,_=>none
 | m+1,v0,v1=>W1 x0 x1 x2  (Jb x0 x1 x2  m) v0 v1
def Zab (x0:Int) (x1:Int) (x2:Int):Option (List Int):=
 Jb x0 x1 x2 FU x0 []
def Zfc (x0:Int) (x1:Int) (x2:Int)  (k:(List Int)→Int→Option Bool) (v0:List Int) (v1:Int):Option Bool:=
 if decide (v1 < (v0.length:Int))=true then (
  (idx v0 v1).bind fun a0=>
  (idx v0 0).bind fun a1=>
  if decide ((quoW a0 64)≠(quoW a1 64))=true then (
   some false)
  else (
   k v0 (addW v1 1)))
 else (
  some (decide ((v0.length:Int) > 0)))
def Zbv (x0:Int) (x1:Int) (x2:Int)  : Nat→(List Int)→Int→Option Bool
 | 0,_,_=>none
 | m+1,v0,v1=>Zfc x0 x1 x2  (Zbv x0 x1 x2  m) v0 v1
def Zei (x0:Int) (x1:Int) (x2:Int):Option Bool:=
 (Zab x0 x1 x2).bind fun r0=>
 Zbv x0 x1 x2 FU r0 0
def Xh (x0:Int):Option Int:=
 (Xi x0).bind fun r0=>
 if decide (r0=0)=true then (
  some 0)
 else (
  (Xi x0).bind fun r1=>
  (nnI (mulW 8 r1)).bind fun n0=>
  some (shlW 1 (mulW 8 r1)))
def Ze3 (x0:GL1Cur) (k_L1:GL1Cur→GReq→Int→Option (GReq×GL1Cur)) (vb0:GL1Cur) (vb1:GReq) (v0:Int) (v1:Bool):Option (GReq×GL1Cur):=
 if v1=true then (
  (Xh vb1.size).bind fun r0=>
  (Xh vb1.size).bind fun r1=>
  (Xe vb0 [(minI r0 1000),r1]).bind fun r2=>
  (Zm r2.2 r2.1).bind fun r3=>
  (appI 8 vb1.data_ [r3.1]).bind fun z0=>
  k_L1 r3.2 {vb1 with data_:=z0} (addW v0 1))
 else (
  some (vb1,vb0))
def Zg1 (x0:GL1Cur)  (k:GL1Cur→GReq→Int→Option (GReq×GL1Cur)) (vb0:GL1Cur) (vb1:GReq) (v0:Int):Option (GReq×GL1Cur):=
 (Wi vb1.burst).bind fun r4=>
 if decide (v0 < r4)=true then (
  Ze3 x0 k vb0 vb1 v0 vb1.write)
 else (
  Ze3 x0 k vb0 vb1 v0 false)
def Ku (x0:GL1Cur)  : Nat→GL1Cur→GReq→Int→Option (GReq×GL1Cur)
 | 0,_,_,_=>none
 | m+1,vb0,vb1,v0=>Zg1 x0  (Ku x0  m) vb0 vb1 v0
def Za7 (x0:GL1Cur)  (vb0:GL1Cur) (vb1:GReq):Option (GReq×GL1Cur):=
 Ku x0 FU vb0 vb1 0
def Zia (x0:GL1Cur):Option (GReq×GL1Cur):=
 (Je x0 2).bind fun r5=>
 (Xe r5.2 [2,2,2,0,1]).bind fun r6=>
 (Xe r6.2 [0,0,1,2,3]).bind fun r7=>
 (Je r7.2 6).bind fun r8=>
 (Xi r6.1).bind fun r9=>
 (Zm r8.2 128).bind fun r10=>
 (Zm r10.2 128).bind fun r11=>
 (Zm r11.2 64).bind fun r12=>
 (Zm r12.2 40).bind fun r13=>
 (Zm r13.2 512).bind fun r14=>
 (Xe r14.2 [r10.1,r11.1,(addW 128 r12.1),(addW 192 r13.1),r14.1]).bind fun r15=>
 (nzI r9).bind fun n0=>
 (Zei (mulW (quoW r15.1 r9) r9) r6.1 r7.1).bind fun r16=>
 if (!r16)=true then (
  Za7 x0 r15.2 (GReq.mk r5.1 (mulW (quoW r15.1 r9) r9) r6.1 0 r8.1 []))
 else (
  Za7 x0 r15.2 (GReq.mk r5.1 (mulW (quoW r15.1 r9) r9) r6.1 r7.1 r8.1 []))
def Kk (x0:GL1Cur) (x1:GConf) (k_L1:GL1Cur→GScript→Int→Int→Option (GScript×GL1Cur×GConf)) (vb0:GL1Cur) (vb1:GScript) (v0:Int) (v1:Int) (v2:Bool):Option (GScript×GL1Cur×GConf):=
 if v2=true then (
  (Xe vb0 [0,0,1,2,9]).bind fun r0=>
  (Zm r0.2 (x1.masters.length:Int)).bind fun r1=>
  (Zia r1.2).bind fun r2=>
  (appI 80 vb1.posts [(GPost.mk (addW v0 r0.1) r1.1 r2.1)]).bind fun z0=>
  k_L1 r2.2 {vb1 with posts:=z0} (addW v0 r0.1) (subW v1 1))
 else (
  some (vb1,vb0,x1))
def Jq (x0:GL1Cur) (x1:GConf)  (k:GL1Cur→GScript→Int→Int→Option (GScript×GL1Cur×GConf)) (vb0:GL1Cur) (vb1:GScript) (v0:Int) (v1:Int):Option (GScript×GL1Cur×GConf):=
 if decide (v1 > 0)=true then (
  Kk x0 x1 k vb0 vb1 v0 v1 (decide ((x1.masters.length:Int) > 0)))
 else (
  Kk x0 x1 k vb0 vb1 v0 v1 false)
def Xb (x0:GL1Cur) (x1:GConf)  : Nat→GL1Cur→GScript→Int→Int→Option (GScript×GL1Cur×GConf)
 | 0,_,_,_,_=>none
 | m+1,vb0,vb1,v0,v1=>Jq x0 x1  (Xb x0 x1  m) vb0 vb1 v0 v1
def J4 (x0:GL1Cur) (x1:GConf):Option (GScript×GL1Cur×GConf):=
 (Zah x0 5).bind fun r3=>
 (Zah r3.2 5).bind fun r4=>
 (Zm r4.2 6).bind fun r5=>
 Xb x0 x1 FU r5.2 (GScript.mk [] r3.1 r4.1) 0 r5.1
def Zfn (x0:GConf):Option Bool:=
 (Zk x0.quantum 1 4).bind fun r0=>
 if r0=true then (
  (Za0 x0).bind fun r1=>
  if decide (r1 > 0)=true then (
   (Zk x0.maxSplit 1 12).bind fun r2=>
   if r2=true then (
    (Zk x0.lockMost 1 40).bind fun r3=>
    some r3)
   else (
    some false))
  else (
   some false))
 else (
  some false)
def Zfy (x0:GConf)  (k:Int→Int→Option Bool) (v0:Int) (v1:Int):Option Bool:=
 if decide (v1 < (x0.masters.length:Int))=true then (
  (idx x0.masters v1).bind fun a0=>
  (Zk a0.weight 1 4).bind fun r0=>
  if (!r0)=true then (
   some false)
  else (
   if (!a0.prio)=true then (
    if decide (a0.every≠0)=true then (
     some false)
    else (
     if decide (a0.cap≠0)=true then (
      some false)
     else (
      if a0.prio=true then (
       (Q7 x0).bind fun r1=>
       (Zk a0.every (mulW (mulW 2 v0) r1) 1000).bind fun r2=>
       if (!r2)=true then (
        some false)
       else (
        (Zk a0.cap 1 8).bind fun r3=>
        if (!r3)=true then (
         some false)
        else (
         k v0 (addW v1 1))))
      else (
       k v0 (addW v1 1)))))
   else (
    if a0.prio=true then (
     (Q7 x0).bind fun r1=>
     (Zk a0.every (mulW (mulW 2 v0) r1) 1000).bind fun r2=>
     if (!r2)=true then (
      some false)
     else (
      (Zk a0.cap 1 8).bind fun r3=>
      if (!r3)=true then (
       some false)
      else (
       k v0 (addW v1 1))))
    else (
     k v0 (addW v1 1)))))
 else (
  (Zk (x0.masters.length:Int) 1 4).bind fun r4=>
  if r4=true then (
   (Zfn x0).bind fun r5=>
   some r5)
  else (
   some false))
def Wb (x0:GConf)  : Nat→Int→Int→Option Bool
 | 0,_,_=>none
 | m+1,v0,v1=>Zfy x0  (Wb x0  m) v0 v1
def Zgj (x0:GConf)  (k:Int→Int→Option Bool) (v0:Int) (v2:Int):Option Bool:=
 if decide (v2 < (x0.masters.length:Int))=true then (
  (idx x0.masters v2).bind fun a1=>
  if a1.prio=true then (
   k (addW v0 1) (addW v2 1))
  else (
   k v0 (addW v2 1)))
 else (
  Wb x0 FU v0 0)
def Zdw (x0:GConf)  : Nat→Int→Int→Option Bool
 | 0,_,_=>none
 | m+1,v0,v2=>Zgj x0  (Zdw x0  m) v0 v2
def Zd1 (x0:GConf):Option Bool:=
 Zdw x0 FU 0 0
def Zgb (x0:GConf):Option GConf:=
 (appI 32 [] x0.masters).bind fun z0=>
 some {x0 with masters:=z0}
def Zon  : Option GDev:=
 (mkI 8 4 0).bind fun m0=>
 some (GDev.mk m0 0 [])
def Zdb  : Option GModel:=
 (mkI 8 192 0).bind fun m0=>
 (Zon).bind fun r0=>
 some (GModel.mk m0 r0)
def Zey (x0:GMConf):Option GBucket:=
 if (!x0.prio)=true then (
  some GBucket.z0)
 else (
  some (GBucket.mk (maxI 0 x0.cap) 0))
def Zch (x0:GConf)  (k:GBus→Int→Option (GBus×Bool)) (vb0:GBus) (v0:Int):Option (GBus×Bool):=
 if decide (v0 < (x0.masters.length:Int))=true then (
  (appI 56 vb0.m [GMst.z0]).bind fun z0=>
  (idx x0.masters v0).bind fun a0=>
  (Zey a0).bind fun r0=>
  (appI 16 vb0.buckets [r0]).bind fun z1=>
  (appI 8 vb0.splits [0]).bind fun z2=>
  k {vb0 with m:=z0,buckets:=z1,splits:=z2} (addW v0 1))
 else (
  some (vb0,true))
def Zds (x0:GConf)  : Nat→GBus→Int→Option (GBus×Bool)
 | 0,_,_=>none
 | m+1,vb0,v0=>Zch x0  (Zds x0  m) vb0 v0
def Zj4 (x0:GConf):Option (GBus×Bool):=
 (Zd1 x0).bind fun r1=>
 if (!r1)=true then (
  some (GBus.z0,false))
 else (
  (Zgb x0).bind fun r2=>
  (Zdb).bind fun r3=>
  Zds x0 FU (GBus.mk r2 0 [] GWrr.z0 [] [] (-1) 0 (-1) GBeat.z0 GBeat.z0 r3 0 []) 0)
def Zee (x0:GL1Cur) (x1:GConf) (k_L1:GL1Cur→GScript→Int→Int→Option (GScript×GL1Cur×GConf)) (vb0:GL1Cur) (vb1:GScript) (v0:Int) (v1:Int) (v2:Bool):Option (GScript×GL1Cur×GConf):=
 if v2=true then (
  (Xe vb0 [0,0,1,2,9]).bind fun r0=>
  (Zm r0.2 (x1.masters.length:Int)).bind fun r1=>
  (Zia r1.2).bind fun r2=>
  (appI 80 vb1.posts [(GPost.mk (addW v0 r0.1) r1.1 r2.1)]).bind fun z0=>
  k_L1 r2.2 {vb1 with posts:=z0} (addW v0 r0.1) (subW v1 1))
 else (
  some (vb1,vb0,x1))
def Zin (x0:GL1Cur) (x1:GConf)  (k:GL1Cur→GScript→Int→Int→Option (GScript×GL1Cur×GConf)) (vb0:GL1Cur) (vb1:GScript) (v0:Int) (v1:Int):Option (GScript×GL1Cur×GConf):=
 if decide (v1 > 0)=true then (
  Zee x0 x1 k vb0 vb1 v0 v1 (decide ((x1.masters.length:Int) > 0)))
 else (
  Zee x0 x1 k vb0 vb1 v0 v1 false)
def Wt (x0:GL1Cur) (x1:GConf)  : Nat→GL1Cur→GScript→Int→Int→Option (GScript×GL1Cur×GConf)
 | 0,_,_,_,_=>none
 | m+1,vb0,vb1,v0,v1=>Zin x0 x1  (Wt x0 x1  m) vb0 vb1 v0 v1
def Zet (x0:GL1Cur) (x1:GConf):Option (GScript×GL1Cur×GConf):=
 (Zah x0 5).bind fun r3=>
 (Zah r3.2 5).bind fun r4=>
 (Zm r4.2 6).bind fun r5=>
 Wt x0 x1 FU r5.2 (GScript.mk [] r3.1 r4.1) 0 r5.1
def Zar (x0:GReq):Option GReq:=
 (appI 8 [] x0.data_).bind fun z0=>
 some {x0 with data_:=z0}
def Zs0 (x0:GMst)  (k:(List GReq)→Int→Option GMst) (v0:List GReq) (v1:Int):Option GMst:=
 if decide (v1 < (x0.queue.length:Int))=true then (
  (idx x0.queue v1).bind fun a0=>
  (Zar a0).bind fun r0=>
  (appI 64 v0 [r0]).bind fun z0=>
  k z0 (addW v1 1))
 else (
  some {x0 with queue:=v0})
def Zce (x0:GMst)  : Nat→(List GReq)→Int→Option GMst
 | 0,_,_=>none
 | m+1,v0,v1=>Zs0 x0  (Zce x0  m) v0 v1
def Q8 (x0:GMst):Option GMst:=
 Zce x0 FU [] 0
def Zgr (x0:GDev):Option GDev:=
 (appI 8 [] x0.regs).bind fun z0=>
 (appI 8 [] x0.fifo).bind fun z1=>
 some (GDev.mk z0 x0.timer z1)
def Zf4 (x0:GModel):Option GModel:=
 (appI 8 [] x0.mem).bind fun z0=>
 (Zgr x0.dev).bind fun r0=>
 some (GModel.mk z0 r0)
def Zay (x0:GBus)  (k:GBus→Int→Option GBus) (vb0:GBus) (v0:Int):Option GBus:=
 if decide (v0 < (x0.m.length:Int))=true then (
  (idx x0.m v0).bind fun a0=>
  (Q8 a0).bind fun r0=>
  (appI 56 vb0.m [r0]).bind fun z0=>
  k {vb0 with m:=z0} (addW v0 1))
 else (
  (appI 16 [] x0.buckets).bind fun z1=>
  (appI 8 [] x0.splits).bind fun z2=>
  (Zf4 x0.model).bind fun r1=>
  (appI 56 [] x0.log).bind fun z3=>
  some {vb0 with buckets:=z1,splits:=z2,model:=r1,log:=z3})
def Ji (x0:GBus)  : Nat→GBus→Int→Option GBus
 | 0,_,_=>none
 | m+1,vb0,v0=>Zay x0  (Ji x0  m) vb0 v0
def Zhx (x0:GBus):Option GBus:=
 (Zgb x0.conf).bind fun r2=>
 Ji x0 FU {x0 with conf:=r2,m:=[]} 0
def Zg8 (x0:GReq)  (k:Int→Option Bool) (v0:Int):Option Bool:=
 if decide (v0 < (x0.data_.length:Int))=true then (
  (idx x0.data_ v0).bind fun a0=>
  (Xh x0.size).bind fun r0=>
  (Zk a0 0 (subW r0 1)).bind fun r1=>
  if (!r1)=true then (
   some false)
  else (
   k (addW v0 1)))
 else (
  if decide ((x0.data_.length:Int)=0)=true then (
   if (!x0.write)=true then (
    some true)
   else (
    (Wi x0.burst).bind fun r2=>
    if decide ((x0.data_.length:Int)=r2)=true then (
     some x0.write)
    else (
     some false)))
  else (
   (Wi x0.burst).bind fun r2=>
   if decide ((x0.data_.length:Int)=r2)=true then (
    some x0.write)
   else (
    some false)))
def Zex (x0:GReq)  : Nat→Int→Option Bool
 | 0,_=>none
 | m+1,v0=>Zg8 x0  (Zex x0  m) v0
def Zik (x0:GReq):Option Bool:=
 (Zei x0.addr x0.size x0.burst).bind fun r3=>
 if (!r3)=true then (
  some false)
 else (
  Zex x0 FU 0)
def Ql (x0:GMst):Option Int:=
 if decide ((x0.queue.length:Int)=0)=true then (
  some 0)
 else (
  (idx x0.queue 0).bind fun a0=>
  (Wi a0.burst).bind fun r0=>
  some r0)
def X6 (x0:GMst)  (v0:Bool):Option Bool:=
 if v0=true then (
  some false)
 else (
  if decide ((x0.queue.length:Int)=0)=true then (
   if decide (x0.beat=0)=true then (
    if decide (x0.done=0)=true then (
     if decide (x0.tries=0)=true then (
      if (!x0.parted)=true then (
       some (!x0.broken))
      else (
       some false))
     else (
      some false))
    else (
     some false))
   else (
    some false))
  else (
   (Ql x0).bind fun r0=>
   (Zk x0.done 0 (subW r0 1)).bind fun r1=>
   if r1=true then (
    (Ql x0).bind fun r2=>
    (Zk x0.beat x0.done (minI (addW x0.done 2) r2)).bind fun r3=>
    some r3)
   else (
    some false)))
def Zed (x0:GMst)  (k:Int→Option Bool) (v1:Int):Option Bool:=
 if decide (v1 < (x0.queue.length:Int))=true then (
  (idx x0.queue v1).bind fun a0=>
  (Zik a0).bind fun r4=>
  if (!r4)=true then (
   some false)
  else (
   k (addW v1 1)))
 else (
  if decide ((x0.queue.length:Int) > 4)=true then (
   X6 x0 true)
  else (
   X6 x0 (decide (x0.tries < 0))))
def Zaz (x0:GMst)  : Nat→Int→Option Bool
 | 0,_=>none
 | m+1,v1=>Zed x0  (Zaz x0  m) v1
def Qi (x0:GMst):Option Bool:=
 Zaz x0 FU 0
def Zb4 (x0:GMst) (x1:Int)  (v0:Bool):Option Int:=
 if v0=true then (
  some (-1))
 else (
  (idx x0.queue 0).bind fun a0=>
  (Zab a0.addr a0.size a0.burst).bind fun r0=>
  (idx r0 x1).bind fun a1=>
  some a1)
def Jn (x0:GMst) (x1:Int):Option Int:=
 (Qi x0).bind fun r1=>
 if (!r1)=true then (
  Zb4 x0 x1 true)
 else (
  (Ql x0).bind fun r2=>
  (Zk x1 0 (subW r2 1)).bind fun r3=>
  Zb4 x0 x1 (!r3))
def Jh (x0:GBus)  (vb0:GWave):Option GWave:=
 if x0.data_.live=true then (
  (idx x0.m x0.data_.who).bind fun a0=>
  (Jn a0 x0.data_.beat).bind fun r0=>
  some {vb0 with data_:=r0,from_:=x0.data_.who})
 else (
  some vb0)
def Zhy (x0:GBus):Option GWave:=
 if x0.addr.live=true then (
  (idx x0.m x0.addr.who).bind fun a1=>
  (Jn a1 x0.addr.beat).bind fun r1=>
  if x0.addr.first=true then (
   Jh x0 (GWave.mk x0.now r1 2 x0.addr.who (-1) (-1) true 0 (-1)))
  else (
   Jh x0 (GWave.mk x0.now r1 3 x0.addr.who (-1) (-1) true 0 (-1))))
 else (
  Jh x0 (GWave.mk x0.now (-1) 0 (-1) (-1) (-1) true 0 (-1)))
def Zas (x0:GScript) (x1:Int)  (k:(List GPost)→Int→Option (List GPost)) (v0:List GPost) (v1:Int):Option (List GPost):=
 if decide (v1 < (x0.posts.length:Int))=true then (
  (idx x0.posts v1).bind fun a0=>
  if decide (a0.at_=x1)=true then (
   (Zar a0.req).bind fun r0=>
   (appI 80 v0 [{a0 with req:=r0}]).bind fun z0=>
   k z0 (addW v1 1))
  else (
   k v0 (addW v1 1)))
 else (
  some v0)
def Zcd (x0:GScript) (x1:Int)  : Nat→(List GPost)→Int→Option (List GPost)
 | 0,_,_=>none
 | m+1,v0,v1=>Zas x0 x1  (Zcd x0 x1  m) v0 v1
def Zhv (x0:GScript) (x1:Int):Option (List GPost):=
 Zcd x0 x1 FU [] 0
def K6 (x0:GMst) (x1:GReq)  (vb0:GMst) (v0:Bool):Option (GMst×Bool):=
 if v0=true then (
  some (vb0,false))
 else (
  (Zar x1).bind fun r0=>
  (appI 64 vb0.queue [r0]).bind fun z0=>
  some ({vb0 with queue:=z0},true))
def Zhu (x0:GMst) (x1:GReq):Option (GMst×Bool):=
 (Q8 x0).bind fun r1=>
 (Qi x0).bind fun r2=>
 if (!r2)=true then (
  K6 x0 x1 r1 true)
 else (
  (Zik x1).bind fun r3=>
  if (!r3)=true then (
   K6 x0 x1 r1 true)
  else (
   K6 x0 x1 r1 (decide ((x0.queue.length:Int)=4))))
def Jx (x0:GBucket) (x1:GMConf):Option Bool:=
 if (!x1.prio)=true then (
  some (decide (x0.tokens=0)&&(decide (x0.count=0)&&true)))
 else (
  (Zk x0.tokens 0 x1.cap).bind fun r0=>
  if r0=true then (
   (Zk x0.count 0 (subW x1.every 1)).bind fun r1=>
   some r1)
  else (
   some false))
def K9 (x0:GBucket) (x1:GMConf)  (v0:Bool):Option GBucket:=
 if v0=true then (
  some x0)
 else (
  if decide ((addW x0.count 1)=x1.every)=true then (
   some (GBucket.mk (minI x1.cap (addW x0.tokens 1)) 0))
  else (
   some (GBucket.mk x0.tokens (addW x0.count 1))))
def Zdj (x0:GBucket) (x1:GMConf):Option GBucket:=
 if (!x1.prio)=true then (
  K9 x0 x1 true)
 else (
  (Jx x0 x1).bind fun r0=>
  K9 x0 x1 (!r0))
def Zbx (x0:GMst)  (vb0:GMst) (v0:Bool):Option (GMst×Bool):=
 if v0=true then (
  some (vb0,false))
 else (
  some ({vb0 with beat:=(subW vb0.beat 1)},true))
def Zhe (x0:GMst):Option (GMst×Bool):=
 (Q8 x0).bind fun r0=>
 (Qi x0).bind fun r1=>
 if (!r1)=true then (
  Zbx x0 r0 true)
 else (
  Zbx x0 r0 (decide (x0.beat=x0.done)))
def Jg (x0:GBucket) (x1:GMConf)  (v0:Bool):Option GBucket:=
 if v0=true then (
  some (GBucket.mk (minI x1.cap (addW x0.tokens 1)) x0.count))
 else (
  some x0)
def Zd8 (x0:GBucket) (x1:GMConf):Option GBucket:=
 if x1.prio=true then (
  (Jx x0 x1).bind fun r0=>
  Jg x0 x1 r0)
 else (
  Jg x0 x1 false)
def Zdm (x0:GConf) (x1:Int)  (v0:Bool):Option Int:=
 if v0=true then (
  some 0)
 else (
  (idx x0.masters x1).bind fun a0=>
  some (mulW a0.weight x0.quantum))
def Zag (x0:GConf) (x1:Int):Option Int:=
 (Zd1 x0).bind fun r0=>
 if (!r0)=true then (
  Zdm x0 x1 true)
 else (
  (Zk x1 0 (subW (x0.masters.length:Int) 1)).bind fun r1=>
  Zdm x0 x1 (!r1))
def Zid (x0:GWrr) (x1:GConf):Option Bool:=
 (Zd1 x1).bind fun r0=>
 if r0=true then (
  (Zk x0.at_ 0 (subW (x1.masters.length:Int) 1)).bind fun r1=>
  if r1=true then (
   (Zag x1 x0.at_).bind fun r2=>
   (Zk x0.credit 0 r2).bind fun r3=>
   some r3)
  else (
   some false))
 else (
  some false)
def Zca (x0:GWrr) (x1:GConf) (x2:Int)  (v0:Bool):Option GWrr:=
 if v0=true then (
  (Zag x1 x2).bind fun r0=>
  some (GWrr.mk x0.at_ (minI r0 (addW x0.credit 1))))
 else (
  some x0)
def Zh3 (x0:GWrr) (x1:GConf) (x2:Int):Option GWrr:=
 (Zid x0 x1).bind fun r1=>
 if r1=true then (
  Zca x0 x1 x2 (decide (x0.at_=x2)))
 else (
  Zca x0 x1 x2 false)
def Zbh (x0:GBus) (x1:GBeat):Option GBus:=
 (idx x0.m x1.who).bind fun a0=>
 (Zhe a0).bind fun r0=>
 (setO x0.m x1.who r0.1).bind fun y0=>
 if decide (x1.by_=1)=true then (
  (idx x0.buckets x1.who).bind fun a1=>
  (idx x0.conf.masters x1.who).bind fun a2=>
  (Zd8 a1 a2).bind fun r1=>
  (setO x0.buckets x1.who r1).bind fun y1=>
  some {x0 with m:=y0,buckets:=y1})
 else (
  if decide (x1.by_=2)=true then (
   (Zh3 x0.arb x0.conf x1.who).bind fun r2=>
   some {x0 with m:=y0,arb:=r2})
  else (
   some {x0 with m:=y0}))
def Zlp (x0:List Int) (x1:Int)  (v0:Bool):Option Int:=
 if v0=true then (
  some 0)
 else (
  (nzI (x0.length:Int)).bind fun n0=>
  (idx x0 (remW x1 (x0.length:Int))).bind fun a0=>
  some a0)
def Zkn (x0:List Int) (x1:Int):Option Int:=
 if decide ((x0.length:Int)=0)=true then (
  Zlp x0 x1 true)
 else (
  Zlp x0 x1 (decide (x1 < 0)))
def Zh1 (x0:GConf) (x1:GScript) (x2:Int):Option Int:=
 (Zkn x1.waits x2).bind fun r0=>
 some (maxI 1 (minI x0.maxSplit (addW (minI r0 99) 1)))
def Zdc (x0:GReq) (x1:Int):Option Int:=
 if (!x0.write)=true then (
  some 0)
 else (
  (idx x0.data_ x1).bind fun a0=>
  some a0)
def Zfd (x0:List Int)  (k:Int→Option Bool) (v0:Int):Option Bool:=
 if decide (v0 < (x0.length:Int))=true then (
  (idx x0 v0).bind fun a0=>
  (Zk a0 0 255).bind fun r0=>
  if (!r0)=true then (
   some false)
  else (
   k (addW v0 1)))
 else (
  some (decide ((x0.length:Int)≤512)))
def Zbp (x0:List Int)  : Nat→Int→Option Bool
 | 0,_=>none
 | m+1,v0=>Zfd x0  (Zbp x0  m) v0
def Zeo (x0:List Int):Option Bool:=
 Zbp x0 FU 0
def Zfb (x0:List Int)  (k:Int→Option Bool) (v0:Int):Option Bool:=
 if decide (v0 < (x0.length:Int))=true then (
  (idx x0 v0).bind fun a0=>
  (Xh 2).bind fun r0=>
  (Zk a0 0 (subW r0 1)).bind fun r1=>
  if (!r1)=true then (
   some false)
  else (
   k (addW v0 1)))
 else (
  some true)
def Zbs (x0:List Int)  : Nat→Int→Option Bool
 | 0,_=>none
 | m+1,v0=>Zfb x0  (Zbs x0  m) v0
def Zep (x0:List Int):Option Bool:=
 Zbs x0 FU 0
def Zh9 (x0:GDev):Option Bool:=
 if decide ((x0.regs.length:Int)=4)=true then (
  (Zep x0.regs).bind fun r0=>
  if r0=true then (
   (Xh 2).bind fun r1=>
   (Zk x0.timer 0 (subW r1 1)).bind fun r2=>
   if r2=true then (
    if decide ((x0.fifo.length:Int)≤4)=true then (
     (Zep x0.fifo).bind fun r3=>
     some r3)
    else (
     some false))
   else (
    some false))
  else (
   some false))
 else (
  some false)
def Zhf (x0:GModel):Option Bool:=
 if decide ((x0.mem.length:Int)=192)=true then (
  (Zeo x0.mem).bind fun r0=>
  if r0=true then (
   (Zh9 x0.dev).bind fun r1=>
   some r1)
  else (
   some false))
 else (
  some false)
def Zgo (x0:Int)  (v0:Bool):Option Int:=
 if v0=true then (
  some 0)
 else (
  if decide (x0 < 128)=true then (
   some 1)
  else (
   if decide (x0 < 192)=true then (
    some 2)
   else (
    some 3)))
def Zhi (x0:Int):Option Int:=
 if decide (x0 < 0)=true then (
  Zgo x0 true)
 else (
  Zgo x0 (decide (x0≥224)))
def Zfs (x0:List Int) (x1:Int) (x2:Int):Option Bool:=
 (Zeo x0).bind fun r0=>
 if r0=true then (
  (Zbn x1 x2).bind fun r1=>
  if r1=true then (
   (Xi x2).bind fun r2=>
   some (decide (x1≤(subW (x0.length:Int) r2))))
  else (
   some false))
 else (
  some false)
def K5 (x0:List Int) (x1:Int) (x2:Int) (x3:Int)  (k:Int→(List Int)→Int→Option (List Int×Bool)) (v0:Int) (v1:List Int) (v2:Int):Option (List Int×Bool):=
 (Xi x2).bind fun r0=>
 if decide (v2 < r0)=true then (
  (idx v1 (addW x1 v2)).bind fun a0=>
  (setO v1 (addW x1 v2) (remW v0 256)).bind fun y0=>
  k (quoW v0 256) y0 (addW v2 1))
 else (
  some (v1,true))
def Zdu (x0:List Int) (x1:Int) (x2:Int) (x3:Int)  : Nat→Int→(List Int)→Int→Option (List Int×Bool)
 | 0,_,_,_=>none
 | m+1,v0,v1,v2=>K5 x0 x1 x2 x3  (Zdu x0 x1 x2 x3  m) v0 v1 v2
def Zdy (x0:List Int) (x1:Int) (x2:Int) (x3:Int)  (v1:List Int) (v3:Bool):Option (List Int×Bool):=
 if v3=true then (
  some (v1,false))
 else (
  Zdu x0 x1 x2 x3 FU x3 v1 0)
def Zj3 (x0:List Int) (x1:Int) (x2:Int) (x3:Int):Option (List Int×Bool):=
 (appI 8 [] x0).bind fun z0=>
 (Zfs x0 x1 x2).bind fun r1=>
 if (!r1)=true then (
  Zdy x0 x1 x2 x3 z0 true)
 else (
  (Xh x2).bind fun r2=>
  (Zk x3 0 (subW r2 1)).bind fun r3=>
  Zdy x0 x1 x2 x3 z0 (!r3))
def Zbd (x0:GDev) (x1:Bool) (x2:Int) (x3:Int)  (vb0:GDev) (v0:Bool):Option (GDev×Int×Bool):=
 if v0=true then (
  (idx vb0.fifo 0).bind fun a0=>
  (Wc vb0.fifo 1 (vb0.fifo.length:Int)).bind fun s0=>
  some ({vb0 with fifo:=s0},a0,true))
 else (
  some (vb0,0,false))
def Za3 (x0:GDev) (x1:Bool) (x2:Int) (x3:Int)  (vb0:GDev) (v1:Bool):Option (GDev×Int×Bool):=
 if v1=true then (
  (appI 8 vb0.fifo [x3]).bind fun z0=>
  some ({vb0 with fifo:=z0},x3,true))
 else (
  if decide (x2=20)=true then (
   if (!x1)=true then (
    Zbd x0 x1 x2 x3 vb0 (decide ((vb0.fifo.length:Int) > 0)))
   else (
    Zbd x0 x1 x2 x3 vb0 false))
  else (
   Zbd x0 x1 x2 x3 vb0 false))
def Zez (x0:GDev) (x1:Bool) (x2:Int) (x3:Int)  (vb0:GDev) (v2:Bool):Option (GDev×Int×Bool):=
 if v2=true then (
  some ({vb0 with timer:=x3},x3,true))
 else (
  if decide (x2=16)=true then (
   (Xh 2).bind fun r0=>
   (nzI r0).bind fun n0=>
   some ({vb0 with timer:=(remW (addW vb0.timer 1) r0)},vb0.timer,true))
  else (
   if decide (x2=20)=true then (
    if x1=true then (
     Za3 x0 x1 x2 x3 vb0 (decide ((vb0.fifo.length:Int) < 4)))
    else (
     Za3 x0 x1 x2 x3 vb0 false))
   else (
    Za3 x0 x1 x2 x3 vb0 false)))
def Zer (x0:GDev) (x1:Bool) (x2:Int) (x3:Int)  (vb0:GDev) (v3:Bool):Option (GDev×Int×Bool):=
 if v3=true then (
  (idx vb0.regs (quoW x2 4)).bind fun a1=>
  (setO vb0.regs (quoW x2 4) x3).bind fun y0=>
  some ({vb0 with regs:=y0},x3,true))
 else (
  (Zk x2 0 12).bind fun r1=>
  if r1=true then (
   (idx vb0.regs (quoW x2 4)).bind fun a2=>
   some (vb0,a2,true))
  else (
   if decide (x2=16)=true then (
    Zez x0 x1 x2 x3 vb0 x1)
   else (
    Zez x0 x1 x2 x3 vb0 false)))
def X5 (x0:GDev) (x1:Bool) (x2:Int) (x3:Int)  (vb0:GDev) (v4:Bool):Option (GDev×Int×Bool):=
 if v4=true then (
  some (vb0,0,false))
 else (
  (Zk x2 0 12).bind fun r2=>
  if r2=true then (
   Zer x0 x1 x2 x3 vb0 x1)
  else (
   Zer x0 x1 x2 x3 vb0 false))
def Zmm (x0:GDev) (x1:Bool) (x2:Int) (x3:Int):Option (GDev×Int×Bool):=
 (Zgr x0).bind fun r3=>
 (Zh9 x0).bind fun r4=>
 if (!r4)=true then (
  X5 x0 x1 x2 x3 r3 true)
 else (
  if decide ((remW x2 4)≠0)=true then (
   X5 x0 x1 x2 x3 r3 true)
  else (
   if x1=true then (
    (Xh 2).bind fun r5=>
    (Zk x3 0 (subW r5 1)).bind fun r6=>
    X5 x0 x1 x2 x3 r3 (!r6))
   else (
    X5 x0 x1 x2 x3 r3 false)))
def Ja (x0:List Int) (x1:Int) (x2:Int)  (k:Int→Int→Option (Int×Bool)) (v0:Int) (v1:Int):Option (Int×Bool):=
 if decide (v1≥0)=true then (
  (idx x0 (addW x1 v1)).bind fun a0=>
  k (addW (mulW v0 256) a0) (subW v1 1))
 else (
  some (v0,true))
def Zd9 (x0:List Int) (x1:Int) (x2:Int)  : Nat→Int→Int→Option (Int×Bool)
 | 0,_,_=>none
 | m+1,v0,v1=>Ja x0 x1 x2  (Zd9 x0 x1 x2  m) v0 v1
def Zjw (x0:List Int) (x1:Int) (x2:Int):Option (Int×Bool):=
 (Zfs x0 x1 x2).bind fun r0=>
 if (!r0)=true then (
  some (0,false))
 else (
  (Xi x2).bind fun r1=>
  Zd9 x0 x1 x2 FU 0 (subW r1 1))
def Zcc (x0:GModel) (x1:Bool) (x2:Int) (x3:Int) (x4:Int)  (vb0:GModel) (vb1:GDev) (v0:Int) (v1:Bool):Option (GModel×Int×Int):=
 if v1=true then (
  some ((GModel.mk vb0.mem vb1),v0,0))
 else (
  some (vb0,0,1))
def Zbq (x0:GModel) (x1:Bool) (x2:Int) (x3:Int) (x4:Int)  (vb2:GModel) (v2:Int) (v3:Bool):Option (GModel×Int×Int):=
 if v3=true then (
  if x1=true then (
   (Zj3 x0.mem x2 x3 x4).bind fun r0=>
   some ((GModel.mk r0.1 vb2.dev),x4,0))
  else (
   (Zjw x0.mem x2 x3).bind fun r1=>
   some (vb2,r1.1,0)))
 else (
  if decide (v2=3)=true then (
   (Zmm x0.dev x1 (subW x2 192) x4).bind fun r2=>
   if decide (x3=2)=true then (
    Zcc x0 x1 x2 x3 x4 vb2 r2.1 r2.2.1 r2.2.2)
   else (
    Zcc x0 x1 x2 x3 x4 vb2 r2.1 r2.2.1 false))
  else (
   some (vb2,0,1)))
def Xk (x0:GModel) (x1:Bool) (x2:Int) (x3:Int) (x4:Int)  (vb2:GModel) (v4:Bool):Option (GModel×Int×Int):=
 if v4=true then (
  some (vb2,0,1))
 else (
  (Zhi x2).bind fun r3=>
  if decide (r3=1)=true then (
   Zbq x0 x1 x2 x3 x4 vb2 r3 (decide (r3=1)))
  else (
   Zbq x0 x1 x2 x3 x4 vb2 r3 (decide (r3=2))))
def Zbm (x0:GModel) (x1:Bool) (x2:Int) (x3:Int) (x4:Int):Option (GModel×Int×Int):=
 (Zf4 x0).bind fun r4=>
 (Zhf x0).bind fun r5=>
 if (!r5)=true then (
  Xk x0 x1 x2 x3 x4 r4 true)
 else (
  (Zbn x2 x3).bind fun r6=>
  if (!r6)=true then (
   Xk x0 x1 x2 x3 x4 r4 true)
  else (
   if x1=true then (
    (Xh x3).bind fun r7=>
    (Zk x4 0 (subW r7 1)).bind fun r8=>
    Xk x0 x1 x2 x3 x4 r4 (!r8))
   else (
    Xk x0 x1 x2 x3 x4 r4 false)))
def Zdl (x0:GMst)  (vb0:GMst) (v0:Bool):Option (GMst×Bool):=
 if v0=true then (
  some (vb0,false))
 else (
  (Ql x0).bind fun r0=>
  if decide ((addW vb0.done 1)=r0)=true then (
   (Wc vb0.queue 1 (vb0.queue.length:Int)).bind fun s0=>
   some ((GMst.mk s0 0 0 0 false false),true))
  else (
   some ((GMst.mk vb0.queue vb0.beat (addW vb0.done 1) 0 false vb0.broken),true)))
def Zjz (x0:GMst):Option (GMst×Bool):=
 (Q8 x0).bind fun r1=>
 (Qi x0).bind fun r2=>
 if (!r2)=true then (
  Zdl x0 r1 true)
 else (
  Zdl x0 r1 (decide (x0.beat=x0.done)))
def Q1 (x0:GBus) (x1:GScript)  (vb0:GBus) (vb1:GMst) (vb2:GDone):Option GBus:=
 (appI 56 vb0.log [vb2]).bind fun z0=>
 (Zjz vb1).bind fun r0=>
 (idx vb0.m x0.data_.who).bind fun a0=>
 (setO vb0.m x0.data_.who r0.1).bind fun y0=>
 if decide (vb0.holder=x0.data_.who)=true then (
  if decide (r0.1.done=0)=true then (
   some {vb0 with m:=y0,holder:=(-1),held:=0,log:=z0})
  else (
   some {vb0 with m:=y0,log:=z0}))
 else (
  some {vb0 with m:=y0,log:=z0})
def Ze0 (x0:GBus) (x1:GScript):Option GBus:=
 (idx x0.m x0.data_.who).bind fun a1=>
 if decide (x0.data_.resp=2)=true then (
  (setO x0.m x0.data_.who {a1 with tries:=(addW a1.tries 1)}).bind fun y1=>
  (Zbh {x0 with m:=y1,data_:=GBeat.z0} x0.data_).bind fun r1=>
  some r1)
 else (
  if decide (x0.data_.resp=3)=true then (
   (setO x0.m x0.data_.who {a1 with parted:=true}).bind fun y2=>
   (Zh1 x0.conf x1 x0.picks).bind fun r2=>
   (idx x0.splits x0.data_.who).bind fun a2=>
   (setO x0.splits x0.data_.who r2).bind fun y3=>
   (Zbh {x0 with m:=y2,splits:=y3,data_:=GBeat.z0} x0.data_).bind fun r3=>
   some r3)
  else (
   (idx a1.queue 0).bind fun a3=>
   (Jn a1 x0.data_.beat).bind fun r4=>
   if decide (x0.data_.resp=0)=true then (
    (Zdc a3 x0.data_.beat).bind fun r5=>
    (Zbm x0.model a3.write r4 a3.size r5).bind fun r6=>
    Q1 x0 x1 {x0 with data_:=GBeat.z0,model:=r6.1} a1 (GDone.mk x0.now x0.data_.who a3.write r4 a3.size r6.2.1 x0.data_.resp))
   else (
    Q1 x0 x1 {x0 with data_:=GBeat.z0} a1 (GDone.mk x0.now x0.data_.who a3.write r4 a3.size 0 x0.data_.resp))))
def Zjm (x0:GScript) (x1:Int):Option Int:=
 (Zkn x0.says x1).bind fun r0=>
 if decide (r0=2)=true then (
  some r0)
 else (
  if decide (r0=3)=true then (
   some r0)
  else (
   some 0))
def Zjy (x0:GConf) (x1:GScript) (x2:Int):Option Int:=
 (Zkn x1.waits x2).bind fun r0=>
 some (maxI 0 (minI x0.maxWait r0))
def Kl (x0:GBus) (x1:GScript)  (vb0:GBeat):Option GBus:=
 some {x0 with addr:=GBeat.z0,data_:=vb0,picks:=(addW x0.picks 1)}
def Xa (x0:GBus) (x1:GScript)  (vb0:GBeat) (v0:Bool):Option GBus:=
 if v0=true then (
  Kl x0 x1 {vb0 with resp:=3})
 else (
  Kl x0 x1 vb0)
def W8 (x0:GBus) (x1:GScript)  (vb0:GBeat) (vb1:GMst) (v1:Int) (v2:Int):Option GBus:=
 if (!vb1.broken)=true then (
  if decide (v2=3)=true then (
   if decide (v1=2)=true then (
    if (!vb1.parted)=true then (
     Xa x0 x1 vb0 (decide (x0.holder≠vb0.who)))
    else (
     Xa x0 x1 vb0 false))
   else (
    Xa x0 x1 vb0 false))
  else (
   Xa x0 x1 vb0 false))
 else (
  Xa x0 x1 vb0 false)
def Y8 (x0:GBus) (x1:GScript)  (vb0:GBeat) (vb1:GMst) (v1:Int) (v2:Int) (v3:Bool):Option GBus:=
 if v3=true then (
  W8 x0 x1 {vb0 with resp:=2} vb1 v1 v2)
 else (
  W8 x0 x1 vb0 vb1 v1 v2)
def W9 (x0:GBus) (x1:GScript)  (vb0:GBeat) (vb1:GMst) (v1:Int) (v2:Int):Option GBus:=
 if (!vb1.broken)=true then (
  if decide (v2=2)=true then (
   if decide (v1=1)=true then (
    Y8 x0 x1 vb0 vb1 v1 v2 (decide (vb1.tries < x0.conf.maxRetry)))
   else (
    if decide (v1=2)=true then (
     Y8 x0 x1 vb0 vb1 v1 v2 (decide (vb1.tries < x0.conf.maxRetry)))
    else (
     Y8 x0 x1 vb0 vb1 v1 v2 false)))
  else (
   Y8 x0 x1 vb0 vb1 v1 v2 false))
 else (
  Y8 x0 x1 vb0 vb1 v1 v2 false)
def W6 (x0:GBus) (x1:GScript)  (vb0:GBeat) (vb1:GMst) (v1:Int) (v2:Int) (v4:Bool):Option GBus:=
 if v4=true then (
  W9 x0 x1 {vb0 with left:=(addW vb0.left 2)} vb1 v1 v2)
 else (
  W9 x0 x1 vb0 vb1 v1 v2)
def W7 (x0:GBus) (x1:GScript)  (vb0:GBeat) (vb1:GMst) (v1:Int) (v2:Int):Option GBus:=
 if decide (v1=3)=true then (
  W6 x0 x1 vb0 vb1 v1 v2 (!vb1.broken))
 else (
  W6 x0 x1 vb0 vb1 v1 v2 false)
def W3 (x0:GBus) (x1:GScript)  (vb2:GMst) (vb3:GReq) (v5:Int) (v1:Int) (v2:Int) (v6:Bool):Option GBus:=
 if v6=true then (
  W7 x0 x1 {x0.addr with resp:=1} vb2 v1 v2)
 else (
  (Zjy x0.conf x1 x0.picks).bind fun r0=>
  (Zdc vb3 x0.addr.beat).bind fun r1=>
  (Zbm x0.model vb3.write v5 vb3.size r1).bind fun r2=>
  W7 x0 x1 {x0.addr with left:=r0,resp:=r2.2.2} vb2 v1 v2)
def Zfu (x0:GBus) (x1:GScript):Option GBus:=
 if (!x0.addr.live)=true then (
  some {x0 with addr:=GBeat.z0})
 else (
  (idx x0.m x0.addr.who).bind fun a0=>
  (idx a0.queue 0).bind fun a1=>
  (Jn a0 x0.addr.beat).bind fun r3=>
  (Zhi r3).bind fun r4=>
  (Zjm x1 x0.picks).bind fun r5=>
  if a0.broken=true then (
   W3 x0 x1 a0 a1 r3 r4 r5 true)
  else (
   W3 x0 x1 a0 a1 r3 r4 r5 (decide (r4=0))))
def Zcl (x0:GMst):Option Bool:=
 (Qi x0).bind fun r0=>
 if r0=true then (
  (Ql x0).bind fun r1=>
  some (decide (x0.beat < r1)))
 else (
  some false)
def Qh (x0:GBucket) (x1:GMConf)  (v0:Bool):Option (GBucket×Bool):=
 if v0=true then (
  some (x0,false))
 else (
  some ((GBucket.mk (subW x0.tokens 1) x0.count),true))
def Zdx (x0:GBucket) (x1:GMConf):Option (GBucket×Bool):=
 if (!x1.prio)=true then (
  Qh x0 x1 true)
 else (
  (Jx x0 x1).bind fun r0=>
  if (!r0)=true then (
   Qh x0 x1 true)
  else (
   Qh x0 x1 (decide (x0.tokens=0))))
def Zaq (x0:GMst)  (vb0:GMst) (v0:Bool):Option (GMst×Bool):=
 if v0=true then (
  some (vb0,false))
 else (
  some ({vb0 with beat:=(addW vb0.beat 1)},true))
def Zgv (x0:GMst):Option (GMst×Bool):=
 (Q8 x0).bind fun r0=>
 (Zcl x0).bind fun r1=>
 if (!r1)=true then (
  Zaq x0 r0 true)
 else (
  Zaq x0 r0 (decide (x0.beat=(addW x0.done 2))))
def Zfe (x0:GWrr) (x1:GConf) (x2:List Bool)  (k:Int→Option (GWrr×Int)) (v0:Int):Option (GWrr×Int):=
 if decide (v0≤(x2.length:Int))=true then (
  (nzI (x2.length:Int)).bind fun n0=>
  (idx x2 (remW (addW x0.at_ v0) (x2.length:Int))).bind fun a0=>
  if a0=true then (
   (Zag x1 (remW (addW x0.at_ v0) (x2.length:Int))).bind fun r0=>
   some ((GWrr.mk (remW (addW x0.at_ v0) (x2.length:Int)) (subW r0 1)),(remW (addW x0.at_ v0) (x2.length:Int))))
  else (
   k (addW v0 1)))
 else (
  some ((GWrr.mk x0.at_ 0),(-1)))
def Zby (x0:GWrr) (x1:GConf) (x2:List Bool)  : Nat→Int→Option (GWrr×Int)
 | 0,_=>none
 | m+1,v0=>Zfe x0 x1 x2  (Zby x0 x1 x2  m) v0
def Zbt (x0:GWrr) (x1:GConf) (x2:List Bool)  (v1:Bool):Option (GWrr×Int):=
 if v1=true then (
  some ((GWrr.mk x0.at_ (subW x0.credit 1)),x0.at_))
 else (
  Zby x0 x1 x2 FU 1)
def Zbu (x0:GWrr) (x1:GConf) (x2:List Bool)  (v2:Bool):Option (GWrr×Int):=
 if v2=true then (
  some (x0,(-1)))
 else (
  if decide (x0.credit > 0)=true then (
   (idx x2 x0.at_).bind fun a1=>
   Zbt x0 x1 x2 a1)
  else (
   Zbt x0 x1 x2 false))
def Zho (x0:GWrr) (x1:GConf) (x2:List Bool):Option (GWrr×Int):=
 (Zid x0 x1).bind fun r1=>
 if (!r1)=true then (
  Zbu x0 x1 x2 true)
 else (
  Zbu x0 x1 x2 (decide ((x2.length:Int)≠(x1.masters.length:Int))))
def Zax (x0:GBus) (k_L2:GBus→GBeat→(List Bool)→Int→Option GBus) (vb0:GBus) (vb1:GBeat) (v0:List Bool) (v1:Int) (v2:Bool):Option GBus:=
 if v2=true then (
  (idx vb0.buckets v1).bind fun a0=>
  (idx vb0.conf.masters v1).bind fun a1=>
  (Zdx a0 a1).bind fun r0=>
  (setO vb0.buckets v1 r0.1).bind fun y0=>
  k_L2 {vb0 with buckets:=y0} (GBeat.mk false v1 0 false 1 0 0 false) v0 (addW v1 1))
 else (
  k_L2 vb0 vb1 v0 (addW v1 1))
def Jt (x0:GBus)  (vb0:GBus) (vb1:GBeat) (vb2:GMst):Option GBus:=
 (Zgv vb2).bind fun r1=>
 (idx vb0.m vb1.who).bind fun a2=>
 (setO vb0.m vb1.who r1.1).bind fun y1=>
 some {vb0 with m:=y1,last:=vb1.who,addr:=vb1}
def Qz (x0:GBus)  (vb0:GBus) (vb1:GBeat) (vb2:GMst) (v3:Bool):Option GBus:=
 if v3=true then (
  Jt x0 {vb0 with holder:=vb1.who,held:=0} vb1 vb2)
 else (
  Jt x0 vb0 vb1 vb2)
def Kp (x0:GBus)  (vb0:GBus) (vb1:GBeat) (vb2:GMst):Option GBus:=
 (idx vb2.queue 0).bind fun a3=>
 if a3.lock=true then (
  if (!vb2.broken)=true then (
   Qz x0 vb0 vb1 vb2 (decide (vb0.holder < 0)))
  else (
   Qz x0 vb0 vb1 vb2 false))
 else (
  Qz x0 vb0 vb1 vb2 false)
def Xo (x0:GBus)  (vb0:GBus) (vb1:GBeat):Option GBus:=
 if decide (vb1.who < 0)=true then (
  some vb0)
 else (
  (idx vb0.m vb1.who).bind fun a4=>
  if decide (a4.beat=0)=true then (
   Kp x0 vb0 {vb1 with live:=true,beat:=a4.beat,first:=true} a4)
  else (
   Kp x0 vb0 {vb1 with live:=true,beat:=a4.beat,first:=(decide (vb0.last≠vb1.who))} a4))
def Kg (x0:GBus)  (vb0:GBus) (vb1:GBeat) (v0:List Bool) (v4:Bool):Option GBus:=
 if v4=true then (
  (Zho vb0.arb vb0.conf v0).bind fun r2=>
  Xo x0 {vb0 with arb:=r2.1} {vb1 with who:=r2.2,by_:=2})
 else (
  Xo x0 vb0 vb1)
def W4 (x0:GBus) (k_L2:GBus→GBeat→(List Bool)→Int→Option GBus) (vb0:GBus) (vb1:GBeat) (v0:List Bool) (v1:Int) (v5:Bool):Option GBus:=
 if v5=true then (
  (idx v0 v1).bind fun a5=>
  if a5=true then (
   (idx vb0.buckets v1).bind fun a6=>
   Zax x0 k_L2 vb0 vb1 v0 v1 (decide (a6.tokens > 0)))
  else (
   Zax x0 k_L2 vb0 vb1 v0 v1 false))
 else (
  if decide (vb1.who < 0)=true then (
   Kg x0 vb0 vb1 v0 (decide (vb0.holder < 0)))
  else (
   Kg x0 vb0 vb1 v0 false))
def Xw (x0:GBus)  (k:GBus→GBeat→(List Bool)→Int→Option GBus) (vb0:GBus) (vb1:GBeat) (v0:List Bool) (v1:Int):Option GBus:=
 if decide (v1 < (vb0.m.length:Int))=true then (
  W4 x0 k vb0 vb1 v0 v1 (decide (vb1.who < 0)))
 else (
  W4 x0 k vb0 vb1 v0 v1 false)
def X7 (x0:GBus)  : Nat→GBus→GBeat→(List Bool)→Int→Option GBus
 | 0,_,_,_,_=>none
 | m+1,vb0,vb1,v0,v1=>Xw x0  (X7 x0  m) vb0 vb1 v0 v1
def Zap (x0:GBus)  (vb1:GBeat) (v0:List Bool):Option GBus:=
 X7 x0 FU x0 vb1 v0 0
def Zam (x0:GBus)  (v0:List Bool) (v6:Bool):Option GBus:=
 if v6=true then (
  Zap x0 (GBeat.mk false x0.holder 0 false 3 0 0 false) v0)
 else (
  Zap x0 (GBeat.mk false (-1) 0 false 0 0 0 false) v0)
def Jw (x0:GBus)  (k:(List Bool)→Int→Option GBus) (v0:List Bool) (v7:Int):Option GBus:=
 if decide (v7 < (x0.m.length:Int))=true then (
  (idx x0.m v7).bind fun a7=>
  (Zcl a7).bind fun r3=>
  if r3=true then (
   (idx x0.splits v7).bind fun a8=>
   if decide (a8=0)=true then (
    if decide (x0.holder < 0)=true then (
     (appI 1 v0 [true]).bind fun z0=>
     k z0 (addW v7 1))
    else (
     (appI 1 v0 [decide (x0.holder=v7)]).bind fun z0=>
     k z0 (addW v7 1)))
   else (
    (appI 1 v0 [false]).bind fun z0=>
    k z0 (addW v7 1)))
  else (
   (appI 1 v0 [false]).bind fun z0=>
   k z0 (addW v7 1)))
 else (
  if decide (x0.holder≥0)=true then (
   (idx v0 x0.holder).bind fun a9=>
   Zam x0 v0 a9)
  else (
   Zam x0 v0 false))
def Zan (x0:GBus)  : Nat→(List Bool)→Int→Option GBus
 | 0,_,_=>none
 | m+1,v0,v7=>Jw x0  (Zan x0  m) v0 v7
def Zgu (x0:GBus):Option GBus:=
 Zan x0 FU [] 0
def Qr (x0:GBus) (x1:GScript)  (vb0:GBus) (vb1:GWave):Option (GBus×GWave):=
 some ({vb0 with now:=(addW vb0.now 1)},vb1)
def Qs (x0:GBus) (x1:GScript)  (vb0:GBus) (vb2:GWave):Option (GBus×GWave):=
 (Zfu vb0 x1).bind fun r0=>
 (Zgu r0).bind fun r1=>
 if r1.addr.live=true then (
  Qr x0 x1 r1 {vb2 with got:=r1.addr.who})
 else (
  Qr x0 x1 r1 vb2)
def X0 (x0:GBus) (x1:GScript)  (vb0:GBus) (vb2:GWave) (v0:Bool):Option (GBus×GWave):=
 if v0=true then (
  (idx vb0.m vb0.holder).bind fun a0=>
  (setO vb0.m vb0.holder {a0 with broken:=true}).bind fun y0=>
  Qs x0 x1 {vb0 with m:=y0,holder:=(-1),held:=0} vb2)
 else (
  Qs x0 x1 vb0 vb2)
def Y2 (x0:GBus) (x1:GScript)  (vb0:GBus) (vb2:GWave):Option (GBus×GWave):=
 if vb2.ready=true then (
  if decide (vb0.holder≥0)=true then (
   X0 x0 x1 vb0 vb2 (decide (vb0.held≥vb0.conf.lockMost)))
  else (
   X0 x0 x1 vb0 vb2 false))
 else (
  Qr x0 x1 vb0 vb2)
def Xy (x0:GBus) (x1:GScript)  (vb0:GBus) (vb2:GWave) (v1:Bool):Option (GBus×GWave):=
 if v1=true then (
  if vb0.addr.live=true then (
   (Zbh {vb0 with addr:=GBeat.z0,data_:={vb0.data_ with second:=true}} vb0.addr).bind fun r2=>
   Y2 x0 x1 r2 {vb2 with ready:=false,resp:=vb0.data_.resp})
  else (
   Y2 x0 x1 {vb0 with data_:={vb0.data_ with second:=true}} {vb2 with ready:=false,resp:=vb0.data_.resp}))
 else (
  if vb0.data_.live=true then (
   (Ze0 vb0 x1).bind fun r3=>
   Y2 x0 x1 r3 {vb2 with resp:=vb0.data_.resp})
  else (
   Y2 x0 x1 vb0 vb2))
def Zbr (x0:GBus) (x1:GScript)  (vb0:GBus) (vb2:GWave) (v2:Bool):Option (GBus×GWave):=
 if v2=true then (
  Y2 x0 x1 {vb0 with data_:={vb0.data_ with left:=(subW vb0.data_.left 1)}} {vb2 with ready:=false})
 else (
  if vb0.data_.live=true then (
   if decide (vb0.data_.resp≠0)=true then (
    Xy x0 x1 vb0 vb2 (!vb0.data_.second))
   else (
    Xy x0 x1 vb0 vb2 false))
  else (
   Xy x0 x1 vb0 vb2 false))
def Xz (x0:GBus) (x1:GScript)  (vb0:GBus) (vb2:GWave):Option (GBus×GWave):=
 if vb0.data_.live=true then (
  Zbr x0 x1 vb0 vb2 (decide (vb0.data_.left > 0)))
 else (
  Zbr x0 x1 vb0 vb2 false)
def Zav (x0:GBus) (x1:GScript)  (k:GBus→GWave→Int→Option (GBus×GWave)) (vb0:GBus) (vb2:GWave) (v3:Int):Option (GBus×GWave):=
 if decide (v3 < (vb0.m.length:Int))=true then (
  (idx vb0.splits v3).bind fun a1=>
  (setO vb0.splits v3 (maxI 0 (subW a1 1))).bind fun y1=>
  (idx vb0.buckets v3).bind fun a2=>
  (idx vb0.conf.masters v3).bind fun a3=>
  (Zdj a2 a3).bind fun r4=>
  (setO vb0.buckets v3 r4).bind fun y2=>
  k {vb0 with buckets:=y2,splits:=y1} vb2 (addW v3 1))
 else (
  if decide (vb0.holder≥0)=true then (
   Xz x0 x1 {vb0 with held:=(minI vb0.conf.lockMost (addW vb0.held 1))} vb2)
  else (
   Xz x0 x1 vb0 vb2))
def Wq (x0:GBus) (x1:GScript)  : Nat→GBus→GWave→Int→Option (GBus×GWave)
 | 0,_,_,_=>none
 | m+1,vb0,vb2,v3=>Zav x0 x1  (Wq x0 x1  m) vb0 vb2 v3
def Zau (x0:GBus) (x1:GScript)  (k:GBus→GWave→(List GPost)→Int→Option (GBus×GWave)) (vb0:GBus) (vb2:GWave) (v4:List GPost) (v5:Int):Option (GBus×GWave):=
 if decide (v5 < (v4.length:Int))=true then (
  (idx v4 v5).bind fun a4=>
  (Zk a4.who 0 (subW (vb0.m.length:Int) 1)).bind fun r5=>
  if r5=true then (
   (idx vb0.m a4.who).bind fun a5=>
   (Zhu a5 a4.req).bind fun r6=>
   (setO vb0.m a4.who r6.1).bind fun y3=>
   k {vb0 with m:=y3} vb2 v4 (addW v5 1))
  else (
   k vb0 vb2 v4 (addW v5 1)))
 else (
  Wq x0 x1 FU vb0 vb2 0)
def Jd (x0:GBus) (x1:GScript)  : Nat→GBus→GWave→(List GPost)→Int→Option (GBus×GWave)
 | 0,_,_,_,_=>none
 | m+1,vb0,vb2,v4,v5=>Zau x0 x1  (Jd x0 x1  m) vb0 vb2 v4 v5
def Zhl (x0:GBus) (x1:GScript):Option (GBus×GWave):=
 (Zhx x0).bind fun r7=>
 (Zhy r7).bind fun r8=>
 (Zhv x1 r7.now).bind fun r9=>
 Jd x0 x1 FU r7 r8 r9 0
def Zgp (x0:GL1Cur)  (k:GL1Cur→GScript→GBus→Int→Option (GBus×GScript×GL1Cur)) (vb0:GL1Cur) (vb1:GScript) (vb2:GBus) (v0:Int):Option (GBus×GScript×GL1Cur):=
 if decide (v0 > 0)=true then (
  (Zhl vb2 vb1).bind fun r0=>
  k vb0 vb1 r0.1 (subW v0 1))
 else (
  some (vb2,vb1,vb0))
def Kd (x0:GL1Cur)  : Nat→GL1Cur→GScript→GBus→Int→Option (GBus×GScript×GL1Cur)
 | 0,_,_,_,_=>none
 | m+1,vb0,vb1,vb2,v0=>Zgp x0  (Kd x0  m) vb0 vb1 vb2 v0
def Zeb (x0:GL1Cur)  (vb0:GL1Cur) (vb1:GConf) (vb3:GScript):Option (GBus×GScript×GL1Cur):=
 (Zj4 vb1).bind fun r1=>
 (Zm vb0 40).bind fun r2=>
 Kd x0 FU r2.2 vb3 r1.1 r2.1
def Zjc (x0:GL1Cur):Option (GBus×GScript×GL1Cur):=
 (Zjx x0).bind fun r3=>
 if decide (r3.1.masters.length=0)=true then (
  (J4 r3.2 {r3.1 with masters:=[]}).bind fun r4=>
  Zeb x0 r4.2.1 r3.1 r4.1)
 else (
  (Zet r3.2 r3.1).bind fun r4=>
  (lenE r3.1.masters r4.2.2.masters).bind fun q0=>
  Zeb x0 r4.2.1 {r3.1 with masters:=r4.2.2.masters} r4.1)
def J2 (x0:GL1Cur)  (vb0:GL1Cur) (v0:List GDone) (v1:Bool):Option (List GDone×GL1Cur):=
 if v1=true then (
  (Zm vb0 (v0.length:Int)).bind fun r0=>
  (Zm r0.2 4).bind fun r1=>
  if decide (r1.1=0)=true then (
   (idx v0 r0.1).bind fun a0=>
   (setO v0 r0.1 {a0 with value:=(addW a0.value 1)}).bind fun y0=>
   some (y0,r1.2))
  else (
   if decide (r1.1=1)=true then (
    (Zm r1.2 3).bind fun r2=>
    (idx v0 r0.1).bind fun a1=>
    (setO v0 r0.1 {a1 with resp:=r2.1}).bind fun y1=>
    some (y1,r2.2))
   else (
    if decide (r1.1=2)=true then (
     (Xe r1.2 [0,4,200,300,(-1)]).bind fun r3=>
     (idx v0 r0.1).bind fun a2=>
     (setO v0 r0.1 {a2 with addr:=r3.1}).bind fun y2=>
     some (y2,r3.2))
    else (
     (Zm r1.2 4).bind fun r4=>
     (idx v0 r0.1).bind fun a3=>
     (setO v0 r0.1 {a3 with who:=r4.1}).bind fun y3=>
     some (y3,r4.2)))))
 else (
  some (v0,vb0))
def Zji (x0:GL1Cur):Option (List GDone×GL1Cur):=
 (Zjc x0).bind fun r5=>
 (appI 56 [] r5.1.log).bind fun z0=>
 if decide ((z0.length:Int) > 0)=true then (
  (Je r5.2.2 4).bind fun r6=>
  J2 x0 r6.2 z0 r6.1)
 else (
  J2 x0 r5.2.2 z0 false)
def Zdz (x0:List Int):Option (List GDone):=
 (Zl7 x0).bind fun r0=>
 (Zji r0).bind fun r1=>
 some r1.1
def Zux  : Option GDev:=
 (mkI 8 4 0).bind fun m0=>
 some (GDev.mk m0 0 [])
def Zfp  : Option GModel:=
 (mkI 8 192 0).bind fun m0=>
 (Zux).bind fun r0=>
 some (GModel.mk m0 r0)
def Z6 (x0:List Int):Option (List Int):=appI 8 [] x0
def Zfo (x0:GDev):Option GDev:=
 (Z6 x0.regs).bind fun r0=>
 (Z6 x0.fifo).bind fun r1=>
 some (GDev.mk r0 x0.timer r1)
def Zdd (x0:GModel):Option GModel:=
 (Z6 x0.mem).bind fun r0=>
 (Zfo x0.dev).bind fun r1=>
 some (GModel.mk r0 r1)
def Yb (x0:Int) (x1:Int) (x2:Int):Option Bool:=
 if decide (x1≤x0)=true then (
  some (decide (x0≤x2)))
 else (
  some false)
def Zjg (x0:Int):Option Bool:=
 (Yb x0 0 255).bind fun r0=>
 some (!r0)
def Zae (x0:List Int)  (k:Int→Option Int) (v0:Int):Option Int:=
 if decide (v0 < (x0.length:Int))=true then (
  (idx x0 v0).bind fun a0=>
  (Zjg a0).bind fun r0=>
  if r0=true then (
   some v0)
  else (
   k (addW v0 1)))
 else (
  some (-1))
def Xc (x0:List Int)  : Nat→Int→Option Int
 | 0,_=>none
 | m+1,v0=>Zae x0  (Xc x0  m) v0
def Xn (x0:List Int):Option Int:=
 Xc x0 FU 0
def Yh (x0:List Int):Option Bool:=
 (Xn x0).bind fun r0=>
 some (decide (r0≥0))
def Qf (x0:Int):Option Int:=
 (Yb x0 0 2).bind fun r0=>
 if (!r0)=true then (
  some 0)
 else (
  (nnI x0).bind fun n0=>
  some (shlW 1 x0))
def Zek (x0:Int) (x1:Int):Option Bool:=
 (Yb x1 0 2).bind fun r0=>
 if r0=true then (
  if decide (x0≥0)=true then (
   (Qf x1).bind fun r1=>
   (nzI r1).bind fun n0=>
   some (decide ((remW x0 r1)=0)))
  else (
   some false))
 else (
  some false)
def Zha (x0:List Int) (x1:Int) (x2:Int):Option Bool:=
 if decide ((x0.length:Int)≤512)=true then (
  (Yh x0).bind fun r0=>
  if (!r0)=true then (
   (Zek x1 x2).bind fun r1=>
   if r1=true then (
    (Qf x2).bind fun r2=>
    some (decide (x1≤(subW (x0.length:Int) r2))))
   else (
    some false))
  else (
   some false))
 else (
  some false)
def Zel (x0:Int):Option Int:=
 (Qf x0).bind fun r0=>
 if decide (r0=0)=true then (
  some 0)
 else (
  (Qf x0).bind fun r1=>
  (nnI (mulW 8 r1)).bind fun n0=>
  some (shlW 1 (mulW 8 r1)))
def Zaf (x0:Int) (x1:Int):Option Bool:=
 (Zel x1).bind fun r0=>
 (Yb x0 0 (subW r0 1)).bind fun r1=>
 some r1
def Zh2 (x0:Int):Option Bool:=
 (Zaf x0 2).bind fun r0=>
 some (!r0)
def J5 (x0:List Int)  (k:Int→Option Int) (v0:Int):Option Int:=
 if decide (v0 < (x0.length:Int))=true then (
  (idx x0 v0).bind fun a0=>
  (Zh2 a0).bind fun r0=>
  if r0=true then (
   some v0)
  else (
   k (addW v0 1)))
 else (
  some (-1))
def Y5 (x0:List Int)  : Nat→Int→Option Int
 | 0,_=>none
 | m+1,v0=>J5 x0  (Y5 x0  m) v0
def Xl (x0:List Int):Option Int:=
 Y5 x0 FU 0
def Z0 (x0:List Int):Option Bool:=
 (Xl x0).bind fun r0=>
 some (decide (r0≥0))
def Zih (x0:GDev):Option Bool:=
 if decide ((x0.regs.length:Int)=4)=true then (
  if decide ((x0.fifo.length:Int)≤4)=true then (
   (Z0 x0.regs).bind fun r0=>
   if (!r0)=true then (
    (Z0 x0.fifo).bind fun r1=>
    if (!r1)=true then (
     (Zaf x0.timer 2).bind fun r2=>
     some r2)
    else (
     some false))
   else (
    some false))
  else (
   some false))
 else (
  some false)
def Zh0 (x0:GModel):Option Bool:=
 if decide ((x0.mem.length:Int)=192)=true then (
  (Zha x0.mem 0 0).bind fun r0=>
  if r0=true then (
   (Zih x0.dev).bind fun r1=>
   some r1)
  else (
   some false))
 else (
  some false)
def Zcj (x0:Int)  (v0:Bool):Option Int:=
 if v0=true then (
  some 0)
 else (
  if decide (x0 < 128)=true then (
   some 1)
  else (
   if decide (x0 < 192)=true then (
    some 2)
   else (
    some 3)))
def Zhq (x0:Int):Option Int:=
 if decide (x0 < 0)=true then (
  Zcj x0 true)
 else (
  Zcj x0 (decide (x0≥224)))
def Za4 (x0:GDev) (x1:Bool) (x2:Int) (x3:Int)  (vb0:GDev) (v0:Bool):Option (GDev×Int×Bool):=
 if v0=true then (
  some (vb0,0,false))
 else (
  if x1=true then (
   (idx vb0.regs (quoW x2 4)).bind fun a0=>
   (setO vb0.regs (quoW x2 4) x3).bind fun y0=>
   some ({vb0 with regs:=y0},x3,true))
  else (
   (idx x0.regs (quoW x2 4)).bind fun a1=>
   some (vb0,a1,true)))
def Za8 (x0:GDev) (x1:Bool) (x2:Int) (x3:Int)  (vb0:GDev) (v1:Bool):Option (GDev×Int×Bool):=
 if v1=true then (
  (idx x0.fifo 0).bind fun a2=>
  (Wc x0.fifo 1 (x0.fifo.length:Int)).bind fun s0=>
  (Z6 s0).bind fun r0=>
  some ({vb0 with fifo:=r0},a2,true))
 else (
  if decide (x2≥16)=true then (
   Za4 x0 x1 x2 x3 vb0 true)
  else (
   if decide (x2 < 0)=true then (
    Za4 x0 x1 x2 x3 vb0 true)
   else (
    Za4 x0 x1 x2 x3 vb0 (decide ((remW x2 4)≠0)))))
def Zbe (x0:GDev) (x1:Bool) (x2:Int) (x3:Int)  (vb0:GDev) (v2:Bool):Option (GDev×Int×Bool):=
 if v2=true then (
  (appI 8 vb0.fifo [x3]).bind fun z0=>
  some ({vb0 with fifo:=z0},x3,true))
 else (
  if decide (x2=20)=true then (
   if (!x1)=true then (
    Za8 x0 x1 x2 x3 vb0 (decide ((x0.fifo.length:Int) > 0)))
   else (
    Za8 x0 x1 x2 x3 vb0 false))
  else (
   Za8 x0 x1 x2 x3 vb0 false))
def Zew (x0:GDev) (x1:Bool) (x2:Int) (x3:Int)  (vb0:GDev) (v3:Bool):Option (GDev×Int×Bool):=
 if v3=true then (
  some ({vb0 with timer:=x3},x3,true))
 else (
  if decide (x2=16)=true then (
   (Zel 2).bind fun r1=>
   (nzI r1).bind fun n0=>
   some ({vb0 with timer:=(remW (addW x0.timer 1) r1)},x0.timer,true))
  else (
   if decide (x2=20)=true then (
    if x1=true then (
     Zbe x0 x1 x2 x3 vb0 (decide ((x0.fifo.length:Int) < 4)))
    else (
     Zbe x0 x1 x2 x3 vb0 false))
   else (
    Zbe x0 x1 x2 x3 vb0 false)))
def Qw (x0:GDev) (x1:Bool) (x2:Int) (x3:Int)  (vb0:GDev) (v4:Bool):Option (GDev×Int×Bool):=
 if v4=true then (
  some (vb0,0,false))
 else (
  if decide (x2=16)=true then (
   Zew x0 x1 x2 x3 vb0 x1)
  else (
   Zew x0 x1 x2 x3 vb0 false))
def Zml (x0:GDev) (x1:Bool) (x2:Int) (x3:Int):Option (GDev×Int×Bool):=
 (Zfo x0).bind fun r2=>
 (Zih x0).bind fun r3=>
 if (!r3)=true then (
  Qw x0 x1 x2 x3 r2 true)
 else (
  if x1=true then (
   (Zaf x3 2).bind fun r4=>
   Qw x0 x1 x2 x3 r2 (!r4))
  else (
   Qw x0 x1 x2 x3 r2 false))
def Ky (x0:List Int) (x1:Int) (x2:Int) (x3:Int)  (k:(List Int)→Int→Int→Option (List Int×Bool)) (v0:List Int) (v1:Int) (v2:Int):Option (List Int×Bool):=
 if decide (v2 < v1)=true then (
  (nnI (mulW 8 v2)).bind fun n0=>
  (idx v0 (addW x1 v2)).bind fun a0=>
  (setO v0 (addW x1 v2) (andW (shrW x3 (mulW 8 v2)) 255)).bind fun y0=>
  k y0 v1 (addW v2 1))
 else (
  some (v0,true))
def Zdt (x0:List Int) (x1:Int) (x2:Int) (x3:Int)  : Nat→(List Int)→Int→Int→Option (List Int×Bool)
 | 0,_,_,_=>none
 | m+1,v0,v1,v2=>Ky x0 x1 x2 x3  (Zdt x0 x1 x2 x3  m) v0 v1 v2
def Zdp (x0:List Int) (x1:Int) (x2:Int) (x3:Int)  (v0:List Int) (v3:Bool):Option (List Int×Bool):=
 if v3=true then (
  some (v0,false))
 else (
  (Qf x2).bind fun r0=>
  Zdt x0 x1 x2 x3 FU v0 r0 0)
def Zje (x0:List Int) (x1:Int) (x2:Int) (x3:Int):Option (List Int×Bool):=
 (Z6 x0).bind fun r1=>
 (Zha x0 x1 x2).bind fun r2=>
 if (!r2)=true then (
  Zdp x0 x1 x2 x3 r1 true)
 else (
  (Zaf x3 x2).bind fun r3=>
  Zdp x0 x1 x2 x3 r1 (!r3))
def K1 (x0:List Int) (x1:Int) (x2:Int)  (k:Int→Int→Int→Option (Int×Bool)) (v0:Int) (v1:Int) (v2:Int):Option (Int×Bool):=
 if decide (v2 < v1)=true then (
  (idx x0 (addW x1 v2)).bind fun a0=>
  (nnI (mulW 8 v2)).bind fun n0=>
  k (orW v0 (shlW a0 (mulW 8 v2))) v1 (addW v2 1))
 else (
  some (v0,true))
def Zd4 (x0:List Int) (x1:Int) (x2:Int)  : Nat→Int→Int→Int→Option (Int×Bool)
 | 0,_,_,_=>none
 | m+1,v0,v1,v2=>K1 x0 x1 x2  (Zd4 x0 x1 x2  m) v0 v1 v2
def Zj5 (x0:List Int) (x1:Int) (x2:Int):Option (Int×Bool):=
 (Zha x0 x1 x2).bind fun r0=>
 if (!r0)=true then (
  some (0,false))
 else (
  (Qf x2).bind fun r1=>
  Zd4 x0 x1 x2 FU 0 r1 0)
def Qt (x0:GModel) (x1:Bool) (x2:Int) (x3:Int) (x4:Int)  (vb0:GModel) (v0:Int) (v1:Bool):Option (GModel×Int×Int):=
 if (!v1)=true then (
  (Zdd x0).bind fun r0=>
  some (r0,0,1))
 else (
  some (vb0,v0,0))
def Zb6 (x0:GModel) (x1:Bool) (x2:Int) (x3:Int) (x4:Int)  (vb0:GModel) (v2:Bool):Option (GModel×Int×Int):=
 if v2=true then (
  if x1=true then (
   (Zje x0.mem x2 x3 x4).bind fun r1=>
   Qt x0 x1 x2 x3 x4 (GModel.mk r1.1 vb0.dev) x4 r1.2)
  else (
   (Zj5 x0.mem x2 x3).bind fun r2=>
   Qt x0 x1 x2 x3 x4 vb0 r2.1 r2.2))
 else (
  Qt x0 x1 x2 x3 x4 vb0 x4 false)
def Zbz (x0:GModel) (x1:Bool) (x2:Int) (x3:Int) (x4:Int)  (vb0:GModel) (v3:Int) (v4:Bool):Option (GModel×Int×Int):=
 if v4=true then (
  (Zml x0.dev x1 (subW x2 192) x4).bind fun r3=>
  Qt x0 x1 x2 x3 x4 (GModel.mk vb0.mem r3.1) r3.2.1 r3.2.2)
 else (
  if decide (v3=1)=true then (
   Zb6 x0 x1 x2 x3 x4 vb0 true)
  else (
   Zb6 x0 x1 x2 x3 x4 vb0 (decide (v3=2))))
def Xj (x0:GModel) (x1:Bool) (x2:Int) (x3:Int) (x4:Int)  (vb0:GModel) (v5:Bool):Option (GModel×Int×Int):=
 if v5=true then (
  some (vb0,0,1))
 else (
  (Zhq x2).bind fun r4=>
  if decide (r4=3)=true then (
   Zbz x0 x1 x2 x3 x4 vb0 r4 (decide (x3=2)))
  else (
   Zbz x0 x1 x2 x3 x4 vb0 r4 false))
def Zhw (x0:GModel) (x1:Bool) (x2:Int) (x3:Int) (x4:Int):Option (GModel×Int×Int):=
 (Zdd x0).bind fun r5=>
 (Zh0 x0).bind fun r6=>
 if (!r6)=true then (
  Xj x0 x1 x2 x3 x4 r5 true)
 else (
  (Zek x2 x3).bind fun r7=>
  if (!r7)=true then (
   Xj x0 x1 x2 x3 x4 r5 true)
  else (
   if x1=true then (
    (Zaf x4 x3).bind fun r8=>
    Xj x0 x1 x2 x3 x4 r5 (!r8))
   else (
    Xj x0 x1 x2 x3 x4 r5 false)))
def Zgg (x0:List GDone)  (k:GModel→Int→Option (GModel×Int)) (vb0:GModel) (v0:Int):Option (GModel×Int):=
 if decide (v0 < (x0.length:Int))=true then (
  (idx x0 v0).bind fun a0=>
  if decide (a0.resp=1)=true then (
   k vb0 (addW v0 1))
  else (
   (Zhw vb0 a0.write a0.addr a0.size a0.value).bind fun r0=>
   if decide (r0.2.2≠a0.resp)=true then (
    some (vb0,v0))
   else (
    if decide (r0.2.1≠a0.value)=true then (
     some (vb0,v0))
    else (
     k r0.1 (addW v0 1)))))
 else (
  some (vb0,(-1)))
def Zaa (x0:List GDone)  : Nat→GModel→Int→Option (GModel×Int)
 | 0,_,_=>none
 | m+1,vb0,v0=>Zgg x0  (Zaa x0  m) vb0 v0
def Zjk (x0:List GDone):Option (GModel×Int):=
 (Zfp).bind fun r1=>
 Zaa x0 FU r1 0
def Zdq (x0:List GDone) (k_L1:GModel→Int→Option (GModel×Int)) (vb0:GModel) (vb1:GModel) (v0:Int) (v1:Bool):Option (GModel×Int):=
 if v1=true then (
  some (vb0,v0))
 else (
  k_L1 vb1 (addW v0 1))
def Zgc (x0:List GDone)  (k:GModel→Int→Option (GModel×Int)) (vb0:GModel) (v0:Int):Option (GModel×Int):=
 if decide (v0 < (x0.length:Int))=true then (
  (idx x0 v0).bind fun a0=>
  if decide (a0.resp=1)=true then (
   k vb0 (addW v0 1))
  else (
   (Zbm vb0 a0.write a0.addr a0.size a0.value).bind fun r0=>
   if decide (r0.2.2≠a0.resp)=true then (
    Zdq x0 k vb0 r0.1 v0 true)
   else (
    Zdq x0 k vb0 r0.1 v0 (decide (r0.2.1≠a0.value)))))
 else (
  some (vb0,(-1)))
def Jz (x0:List GDone)  : Nat→GModel→Int→Option (GModel×Int)
 | 0,_,_=>none
 | m+1,vb0,v0=>Zgc x0  (Jz x0  m) vb0 v0
def Zja (x0:List GDone):Option (GModel×Int):=
 (Zdb).bind fun r1=>
 Jz x0 FU r1 0
def Zcb (x0:List Int) (x1:List Int)  (k:Int→Option Bool) (v0:Int):Option Bool:=
 if decide (v0 < (x0.length:Int))=true then (
  (idx x0 v0).bind fun a0=>
  (idx x1 v0).bind fun a1=>
  if decide (a0≠a1)=true then (
   some false)
  else (
   k (addW v0 1)))
 else (
  some true)
def Zdi (x0:List Int) (x1:List Int)  : Nat→Int→Option Bool
 | 0,_=>none
 | m+1,v0=>Zcb x0 x1  (Zdi x0 x1  m) v0
def Zd7 (x0:List Int) (x1:List Int):Option Bool:=
 if decide ((x0.length:Int)≠(x1.length:Int))=true then (
  some false)
 else (
  Zdi x0 x1 FU 0)
def Zm7 (x0:GDev) (x1:GDev):Option Bool:=
 (Zd7 x0.regs x1.regs).bind fun r0=>
 if r0=true then (
  if decide (x0.timer=x1.timer)=true then (
   (Zd7 x0.fifo x1.fifo).bind fun r1=>
   some r1)
  else (
   some false))
 else (
  some false)
def Ze2 (x0:GModel) (x1:GModel):Option Bool:=
 (Zd7 x0.mem x1.mem).bind fun r0=>
 if r0=true then (
  (Zm7 x0.dev x1.dev).bind fun r1=>
  some r1)
 else (
  some false)
def Wm (x0:List GDone):Option (List GDone):=appI 56 [] x0
def Zc2 (x0:GDone) (x1:Int):Option Bool:=
 some (decide (x0.who≠x1))
def Kz (x0:List GDone) (x1c0:Int)  (k:Int→Option Int) (v0:Int):Option Int:=
 if decide (v0 < (x0.length:Int))=true then (
  (idx x0 v0).bind fun a0=>
  (Zc2 a0 x1c0).bind fun r0=>
  if r0=true then (
   some v0)
  else (
   k (addW v0 1)))
 else (
  some (-1))
def Z5 (x0:List GDone) (x1c0:Int)  : Nat→Int→Option Int
 | 0,_=>none
 | m+1,v0=>Kz x0 x1c0  (Z5 x0 x1c0  m) v0
def Y9 (x0:List GDone) (x1c0:Int):Option Int:=
 Z5 x0 x1c0 FU 0
def Kq (x0:List GDone) (x1c0:Int)  (k:(List GDone)→Int→Int→Option (List GDone)) (v0:List GDone) (v1:Int) (v2:Int):Option (List GDone):=
 if decide (v2 < (v0.length:Int))=true then (
  (idx v0 v2).bind fun a0=>
  (Zc2 a0 x1c0).bind fun r0=>
  if (!r0)=true then (
   (idx v0 v1).bind fun a1=>
   (setO v0 v1 a0).bind fun y0=>
   k y0 (addW v1 1) (addW v2 1))
  else (
   k v0 v1 (addW v2 1)))
 else (
  (Wc v0 v1 (v0.length:Int)).bind fun s0=>
  (clrI GDone.z0 v0 v1 (v0.length:Int)).bind fun y1=>
  (Wc y1 0 v1).bind fun s1=>
  some s1)
def Z2 (x0:List GDone) (x1c0:Int)  : Nat→(List GDone)→Int→Int→Option (List GDone)
 | 0,_,_,_=>none
 | m+1,v0,v1,v2=>Kq x0 x1c0  (Z2 x0 x1c0  m) v0 v1 v2
def Y4 (x0:List GDone) (x1c0:Int):Option (List GDone):=
 (Y9 x0 x1c0).bind fun r1=>
 if decide (r1=(-1))=true then (
  some x0)
 else (
  Z2 x0 x1c0 FU x0 r1 (addW r1 1))
def Zjt (x0:List GDone) (x1:Int):Option (List GDone):=
 (Wm x0).bind fun r0=>
 (Y4 r0 x1).bind fun r1=>
 some r1
def Zft (x0:List GDone) (x1:Int) (x2:Int) (x3:Int)  (k:Int→Int→Option Int) (v0:Int) (v1:Int):Option Int:=
 if decide (v1 < (x0.length:Int))=true then (
  (idx x0 v1).bind fun a0=>
  if decide (a0.who=x1)=true then (
   if decide (x2≤a0.cycle)=true then (
    if decide (a0.cycle < x3)=true then (
     k (addW v0 1) (addW v1 1))
    else (
     k v0 (addW v1 1)))
   else (
    k v0 (addW v1 1)))
  else (
   k v0 (addW v1 1)))
 else (
  some v0)
def Zd0 (x0:List GDone) (x1:Int) (x2:Int) (x3:Int)  : Nat→Int→Int→Option Int
 | 0,_,_=>none
 | m+1,v0,v1=>Zft x0 x1 x2 x3  (Zd0 x0 x1 x2 x3  m) v0 v1
def Zf7 (x0:List GDone) (x1:Int) (x2:Int) (x3:Int):Option Int:=
 Zd0 x0 x1 x2 x3 FU 0 0
def Zfx (x0:List GDone) (x1:Int) (x2:Int) (x3:Int)  (k:Int→Int→Option Int) (v0:Int) (v1:Int):Option Int:=
 if decide (v1 < (x0.length:Int))=true then (
  (idx x0 v1).bind fun a0=>
  if decide (a0.who=x1)=true then (
   if decide (a0.cycle≥x2)=true then (
    if decide (a0.cycle < x3)=true then (
     k (addW v0 1) (addW v1 1))
    else (
     k v0 (addW v1 1)))
   else (
    k v0 (addW v1 1)))
  else (
   k v0 (addW v1 1)))
 else (
  some v0)
def Zd3 (x0:List GDone) (x1:Int) (x2:Int) (x3:Int)  : Nat→Int→Int→Option Int
 | 0,_,_=>none
 | m+1,v0,v1=>Zfx x0 x1 x2 x3  (Zd3 x0 x1 x2 x3  m) v0 v1
def Zju (x0:List GDone) (x1:Int) (x2:Int) (x3:Int):Option Int:=
 Zd3 x0 x1 x2 x3 FU 0 0
def Zc6 (x0:List GDone) (x1:Int)  (k:Int→Int→Option Int) (v0:Int) (v1:Int):Option Int:=
 if decide (v1 < (x0.length:Int))=true then (
  (idx x0 v1).bind fun a0=>
  if decide (a0.who=x1)=true then (
   k (maxI v0 a0.cycle) (addW v1 1))
  else (
   k v0 (addW v1 1)))
 else (
  some v0)
def Qy (x0:List GDone) (x1:Int)  : Nat→Int→Int→Option Int
 | 0,_,_=>none
 | m+1,v0,v1=>Zc6 x0 x1  (Qy x0 x1  m) v0 v1
def Zi2 (x0:List GDone) (x1:Int):Option Int:=
 Qy x0 x1 FU (-1) 0
def Zcz (x0:List GDone) (x1:Int)  (k:Int→Int→Option Int) (v0:Int) (v1:Int):Option Int:=
 if decide (v1 < (x0.length:Int))=true then (
  (idx x0 v1).bind fun a0=>
  if decide (a0.who=x1)=true then (
   k (maxI v0 a0.cycle) (addW v1 1))
  else (
   k v0 (addW v1 1)))
 else (
  some v0)
def Q2 (x0:List GDone) (x1:Int)  : Nat→Int→Int→Option Int
 | 0,_,_=>none
 | m+1,v0,v1=>Zcz x0 x1  (Q2 x0 x1  m) v0 v1
def Zi3 (x0:List GDone) (x1:Int):Option Int:=
 Q2 x0 x1 FU (-1) 0
def Zb8 (x0:List GDone) (x1:Int)  (k:(List GDone)→Int→Option (List GDone)) (v0:List GDone) (v1:Int):Option (List GDone):=
 if decide (v1 < (x0.length:Int))=true then (
  (idx x0 v1).bind fun a0=>
  if decide (a0.who=x1)=true then (
   (appI 56 v0 [a0]).bind fun z0=>
   k z0 (addW v1 1))
  else (
   k v0 (addW v1 1)))
 else (
  some v0)
def Zdg (x0:List GDone) (x1:Int)  : Nat→(List GDone)→Int→Option (List GDone)
 | 0,_,_=>none
 | m+1,v0,v1=>Zb8 x0 x1  (Zdg x0 x1  m) v0 v1
def Zjl (x0:List GDone) (x1:Int):Option (List GDone):=
 Zdg x0 x1 FU [] 0
def Zaw (x0:List GDone) (x1:List GDone)  (k:Int→Option Bool) (v0:Int):Option Bool:=
 if decide (v0 < (x0.length:Int))=true then (
  (idx x0 v0).bind fun a0=>
  (idx x1 v0).bind fun a1=>
  if (!(decide (a0.cycle=a1.cycle)&&(decide (a0.who=a1.who)&&((a0.write == a1.write)&&(decide (a0.addr=a1.addr)&&(decide (a0.size=a1.size)&&(decide (a0.value=a1.value)&&(decide (a0.resp=a1.resp)&&true))))))))=true then (
   some false)
  else (
   k (addW v0 1)))
 else (
  some true)
def Zb0 (x0:List GDone) (x1:List GDone)  : Nat→Int→Option Bool
 | 0,_=>none
 | m+1,v0=>Zaw x0 x1  (Zb0 x0 x1  m) v0
def Zhr (x0:List GDone) (x1:List GDone):Option Bool:=
 if decide ((x0.length:Int)≠(x1.length:Int))=true then (
  some false)
 else (
  Zb0 x0 x1 FU 0)
def Zhp (x0:List GDone) (x1:List GDone):Option Bool:=
 (Zhr x0 x1).bind fun r0=>
 some r0
def Jr (x0:List GDone)  (k:(List Int)→Int→Option (List Int)) (v0:List Int) (v1:Int):Option (List Int):=
 if decide (v1 < (x0.length:Int))=true then (
  (idx x0 v1).bind fun a0=>
  (appI 8 v0 [a0.value]).bind fun z0=>
  k z0 (addW v1 1))
 else (
  some v0)
def Zak (x0:List GDone)  : Nat→(List Int)→Int→Option (List Int)
 | 0,_,_=>none
 | m+1,v0,v1=>Jr x0  (Zak x0  m) v0 v1
def Zf6 (x0:List GDone):Option (List Int):=
 Zak x0 FU [] 0
def Zdh (x0:Int):Option ByteArray:=if -9223372036854775808≤x0∧x0≤9223372036854775807 then some ⟨(Lib.itoa x0).toArray⟩ else none
def Zg6 (x0:Int):Option ByteArray:=
 (Zdh x0).bind fun r0=>
 some r0
def Ze5 (x0:Bool):Option ByteArray:=
 if x0=true then (
  some (strL [119,114,105,116,101]))
 else (
  some (strL [114,101,97,100]))
def Zjv (x0:Int) (x1:List ByteArray):Option ByteArray:=
 (Yb x0 0 (subW (x1.length:Int) 1)).bind fun r0=>
 if (!r0)=true then (
  some ByteArray.empty)
 else (
  (idx x1 x0).bind fun a0=>
  some a0)
def Zda (x0:Int):Option ByteArray:=
 (Zjv x0 [(strL [111,107,97,121]),(strL [101,114,114,111,114]),(strL [114,101,116,114,121]),(strL [115,112,108,105,116])]).bind fun r0=>
 some r0
def Jy (x0:List ByteArray) (x1:ByteArray):Option ByteArray:=if x0.length≤140737488355328∧(Lib.join (x0.map (·.data.toList)) x1.data.toList).length≤140737488355328 then some ⟨(Lib.join (x0.map (·.data.toList)) x1.data.toList).toArray⟩ else none
def Zf5 (x0:GDone):Option ByteArray:=
 (Zg6 x0.cycle).bind fun r0=>
 (Zg6 x0.who).bind fun r1=>
 (Ze5 x0.write).bind fun r2=>
 (Zg6 x0.addr).bind fun r3=>
 (Zg6 x0.value).bind fun r4=>
 (Zda x0.resp).bind fun r5=>
 (Jy [r0,r1,r2,r3,r4,r5] (strL [32])).bind fun r6=>
 some r6
def Zaj (x0:List GDone)  (k:ByteArray→Int→Option ByteArray) (v0:ByteArray) (v1:Int):Option ByteArray:=
 if decide (v1 < (x0.length:Int))=true then (
  (idx x0 v1).bind fun a0=>
  (Zf5 a0).bind fun r0=>
  (catI r0 (strL [10])).bind fun n0=>
  (catI v0 (r0++(strL [10]))).bind fun n1=>
  k (v0++(r0++(strL [10]))) (addW v1 1))
 else (
  some v0)
def Zb3 (x0:List GDone)  : Nat→ByteArray→Int→Option ByteArray
 | 0,_,_=>none
 | m+1,v0,v1=>Zaj x0  (Zb3 x0  m) v0 v1
def Zh4 (x0:List GDone):Option ByteArray:=
 Zb3 x0 FU ByteArray.empty 0
def Zej (x0:Int) (k_L1:Int→ByteArray→Option ByteArray) (v0:Int) (v1:ByteArray) (v2:Int):Option ByteArray:=
 (catI (strB [(w8 (addW 48 v2))]) v1).bind fun n0=>
 k_L1 (quoW v0 10) ((strB [(w8 (addW 48 v2))])++v1)
def Zku (x0:Int)  (k:Int→ByteArray→Option ByteArray) (v0:Int) (v1:ByteArray):Option ByteArray:=
 if decide (v0≠0)=true then (
  if decide ((remW v0 10) < 0)=true then (
   Zej x0 k v0 v1 (negW (remW v0 10)))
  else (
   Zej x0 k v0 v1 (remW v0 10)))
 else (
  if decide (x0 < 0)=true then (
   (catI (strL [45]) v1).bind fun n1=>
   some ((strL [45])++v1))
  else (
   some v1))
def Zbg (x0:Int)  : Nat→Int→ByteArray→Option ByteArray
 | 0,_,_=>none
 | m+1,v0,v1=>Zku x0  (Zbg x0  m) v0 v1
def Zg3 (x0:Int):Option ByteArray:=
 if decide (x0=0)=true then (
  some (strL [48]))
 else (
  Zbg x0 FU x0 ByteArray.empty)
def Zcq (x0:Int):Option ByteArray:=
 (Zk x0 0 3).bind fun r0=>
 if (!r0)=true then (
  some ByteArray.empty)
 else (
  (idx [(strL [111,107,97,121]),(strL [101,114,114,111,114]),(strL [114,101,116,114,121]),(strL [115,112,108,105,116])] x0).bind fun a0=>
  some a0)
def Km (x0:GDone)  (v0:ByteArray):Option ByteArray:=
 (Zg3 x0.cycle).bind fun r0=>
 (catI r0 (strL [32])).bind fun n0=>
 (Zg3 x0.who).bind fun r1=>
 (catI (r0++(strL [32])) r1).bind fun n1=>
 (catI ((r0++(strL [32]))++r1) (strL [32])).bind fun n2=>
 (catI (((r0++(strL [32]))++r1)++(strL [32])) v0).bind fun n3=>
 (Zg3 x0.addr).bind fun r2=>
 (catI ((((r0++(strL [32]))++r1)++(strL [32]))++v0) r2).bind fun n4=>
 (catI (((((r0++(strL [32]))++r1)++(strL [32]))++v0)++r2) (strL [32])).bind fun n5=>
 (Zg3 x0.value).bind fun r3=>
 (catI ((((((r0++(strL [32]))++r1)++(strL [32]))++v0)++r2)++(strL [32])) r3).bind fun n6=>
 (catI (((((((r0++(strL [32]))++r1)++(strL [32]))++v0)++r2)++(strL [32]))++r3) (strL [32])).bind fun n7=>
 (Zcq x0.resp).bind fun r4=>
 (catI ((((((((r0++(strL [32]))++r1)++(strL [32]))++v0)++r2)++(strL [32]))++r3)++(strL [32])) r4).bind fun n8=>
 some (((((((((r0++(strL [32]))++r1)++(strL [32]))++v0)++r2)++(strL [32]))++r3)++(strL [32]))++r4)
def Zgs (x0:GDone):Option ByteArray:=
 if x0.write=true then (
  Km x0 (strL [119,114,105,116,101,32]))
 else (
  Km x0 (strL [114,101,97,100,32]))
def Za2 (x0:List GDone)  (k:ByteArray→Int→Option ByteArray) (v0:ByteArray) (v1:Int):Option ByteArray:=
 if decide (v1 < (x0.length:Int))=true then (
  (idx x0 v1).bind fun a0=>
  (Zgs a0).bind fun r0=>
  (catI v0 r0).bind fun n0=>
  (catI (v0++r0) (strL [10])).bind fun n1=>
  k ((v0++r0)++(strL [10])) (addW v1 1))
 else (
  some v0)
def Zb2 (x0:List GDone)  : Nat→ByteArray→Int→Option ByteArray
 | 0,_,_=>none
 | m+1,v0,v1=>Za2 x0  (Zb2 x0  m) v0 v1
def Zhn (x0:List GDone):Option ByteArray:=
 Zb2 x0 FU ByteArray.empty 0
def J3 (x0:List Int) (k_L1:(List GDone)→Int→Int→Int→Option Bool) (v0:List GDone) (v1:Int) (v2:Int) (v3:Int) (v4:List GDone) (v5:Bool):Option Bool:=
 if v5=true then (
  some false)
 else (
  k_L1 v0 v1 (addW v2 (v4.length:Int)) (addW v3 1))
def J1 (x0:List Int) (k_L1:(List GDone)→Int→Int→Int→Option Bool) (v0:List GDone) (v1:Int) (v2:Int) (v3:Int) (v4:List GDone) (v6:Bool):Option Bool:=
 if v6=true then (
  some false)
 else (
  (Zi2 v0 v3).bind fun r0=>
  (Zi3 v0 v3).bind fun r1=>
  if decide (r0≠r1)=true then (
   J3 x0 k_L1 v0 v1 v2 v3 v4 true)
  else (
   (Zjl v0 v3).bind fun r2=>
   (Zhp v4 r2).bind fun r3=>
   J3 x0 k_L1 v0 v1 v2 v3 v4 (!r3)))
def Zcg (x0:List Int)  (k:(List GDone)→Int→Int→Int→Option Bool) (v0:List GDone) (v1:Int) (v2:Int) (v3:Int):Option Bool:=
 if decide (v3 < 4)=true then (
  (Zjt v0 v3).bind fun r4=>
  (Zf7 v0 v3 0 4000).bind fun r5=>
  if decide ((r4.length:Int)≠r5)=true then (
   (Zf7 v0 v3 0 4000).bind fun r6=>
   (Zju v0 v3 0 4000).bind fun r7=>
   J1 x0 k v0 v1 v2 v3 r4 (decide (r6≠r7)))
  else (
   J1 x0 k v0 v1 v2 v3 r4 false))
 else (
  (Zf6 v0).bind fun r8=>
  if decide (v2=(v0.length:Int))=true then (
   if decide ((r8.length:Int)=(v0.length:Int))=true then (
    (Zh4 v0).bind fun r9=>
    (Zhn v0).bind fun r10=>
    if (r9.toList == r10.toList)=true then (
     if decide (v1=(-1))=true then (
      some true)
     else (
      some (decide (v1 < (v0.length:Int)))))
    else (
     some false))
   else (
    some false))
  else (
   some false))
def Zdn (x0:List Int)  : Nat→(List GDone)→Int→Int→Int→Option Bool
 | 0,_,_,_,_=>none
 | m+1,v0,v1,v2,v3=>Zcg x0  (Zdn x0  m) v0 v1 v2 v3
def Zdo (x0:List Int)  (v0:List GDone) (v1:Int) (v7:Bool):Option Bool:=
 if v7=true then (
  some false)
 else (
  Zdn x0 FU v0 v1 0 0)
def Zox (x0:List Int):Option Bool:=
 (Zv5 x0).bind fun r11=>
 if r11=true then (
  some true)
 else (
  (Zdz x0).bind fun r12=>
  (Zjk r12).bind fun r13=>
  (Zja r12).bind fun r14=>
  if decide (r13.2≠r14.2)=true then (
   Zdo x0 r12 r13.2 true)
  else (
   (Ze2 r13.1 r14.1).bind fun r15=>
   Zdo x0 r12 r13.2 (!r15)))
end Go.Proofs.YtlcfolgfmlgncaaGreatDoor.Ev
namespace Go.Proofs.YtlcfolgfmlgncaaGreatDoor.Ev
open Go Go.Proofs Go.RowKit
set_option linter.unusedVariables false
set_option linter.unusedSimpArgs false
def GL1Cur.enc (x:GL1Cur):List V:=[.tr (x.b.map encU),.lit (.int .i64 x.i),.lit (.int .i64 x.h)]
def GMConf.enc (x:GMConf):List V:=[.lit (.int .i64 x.weight),.lit (.bool x.prio),.lit (.int .i64 x.every),.lit (.int .i64 x.cap)]
theorem GMConf.enc_len (x:GMConf):(GMConf.enc x).length=4:=rfl
theorem GMConf.enc_lit (x:GMConf):(GMConf.enc x).all Zjs=true:=rfl
def GConf.enc (x:GConf):List V:=[.tr (x.masters.map GMConf.enc),.lit (.int .i64 x.quantum),.lit (.int .i64 x.maxWait),.lit (.int .i64 x.maxRetry),.lit (.int .i64 x.maxSplit),.lit (.int .i64 x.lockMost)]
def GReq.enc (x:GReq):List V:=[.lit (.bool x.write),.lit (.int .i64 x.addr),.lit (.int .i64 x.size),.lit (.int .i64 x.burst),.lit (.bool x.lock),.tr (x.data_.map encI)]
theorem GReq.enc_len (x:GReq):(GReq.enc x).length=6:=rfl
def GPost.enc (x:GPost):List V:=[.lit (.int .i64 x.at_),.lit (.int .i64 x.who),.lit (.bool x.req.write),.lit (.int .i64 x.req.addr),.lit (.int .i64 x.req.size),.lit (.int .i64 x.req.burst),.lit (.bool x.req.lock),.tr (x.req.data_.map encI)]
theorem GPost.enc_len (x:GPost):(GPost.enc x).length=8:=rfl
def GScript.enc (x:GScript):List V:=[.tr (x.posts.map GPost.enc),.tr (x.waits.map encI),.tr (x.says.map encI)]
def GMst.enc (x:GMst):List V:=[.tr (x.queue.map GReq.enc),.lit (.int .i64 x.beat),.lit (.int .i64 x.done),.lit (.int .i64 x.tries),.lit (.bool x.parted),.lit (.bool x.broken)]
theorem GMst.enc_len (x:GMst):(GMst.enc x).length=6:=rfl
def GWrr.enc (x:GWrr):List V:=[.lit (.int .i64 x.at_),.lit (.int .i64 x.credit)]
def GBucket.enc (x:GBucket):List V:=[.lit (.int .i64 x.tokens),.lit (.int .i64 x.count)]
theorem GBucket.enc_len (x:GBucket):(GBucket.enc x).length=2:=rfl
theorem GBucket.enc_lit (x:GBucket):(GBucket.enc x).all Zjs=true:=rfl
def GBeat.enc (x:GBeat):List V:=[.lit (.bool x.live),.lit (.int .i64 x.who),.lit (.int .i64 x.beat),.lit (.bool x.first),.lit (.int .i64 x.by_),.lit (.int .i64 x.left),.lit (.int .i64 x.resp),.lit (.bool x.second)]
def GDev.enc (x:GDev):List V:=[.tr (x.regs.map encI),.lit (.int .i64 x.timer),.tr (x.fifo.map encI)]
def GModel.enc (x:GModel):List V:=[.tr (x.mem.map encI),.tr (x.dev.regs.map encI),.lit (.int .i64 x.dev.timer),.tr (x.dev.fifo.map encI)]
def GDone.enc (x:GDone):List V:=[.lit (.int .i64 x.cycle),.lit (.int .i64 x.who),.lit (.bool x.write),.lit (.int .i64 x.addr),.lit (.int .i64 x.size),.lit (.int .i64 x.value),.lit (.int .i64 x.resp)]
theorem GDone.enc_len (x:GDone):(GDone.enc x).length=7:=rfl
theorem GDone.enc_lit (x:GDone):(GDone.enc x).all Zjs=true:=rfl
def GBus.enc (x:GBus):List V:=[.tr (x.conf.masters.map GMConf.enc),.lit (.int .i64 x.conf.quantum),.lit (.int .i64 x.conf.maxWait),.lit (.int .i64 x.conf.maxRetry),.lit (.int .i64 x.conf.maxSplit),.lit (.int .i64 x.conf.lockMost),.lit (.int .i64 x.now),.tr (x.m.map GMst.enc),.lit (.int .i64 x.arb.at_),.lit (.int .i64 x.arb.credit),.tr (x.buckets.map GBucket.enc),.tr (x.splits.map encI),.lit (.int .i64 x.holder),.lit (.int .i64 x.held),.lit (.int .i64 x.last),.lit (.bool x.addr.live),.lit (.int .i64 x.addr.who),.lit (.int .i64 x.addr.beat),.lit (.bool x.addr.first),.lit (.int .i64 x.addr.by_),.lit (.int .i64 x.addr.left),.lit (.int .i64 x.addr.resp),.lit (.bool x.addr.second),.lit (.bool x.data_.live),.lit (.int .i64 x.data_.who),.lit (.int .i64 x.data_.beat),.lit (.bool x.data_.first),.lit (.int .i64 x.data_.by_),.lit (.int .i64 x.data_.left),.lit (.int .i64 x.data_.resp),.lit (.bool x.data_.second),.tr (x.model.mem.map encI),.tr (x.model.dev.regs.map encI),.lit (.int .i64 x.model.dev.timer),.tr (x.model.dev.fifo.map encI),.lit (.int .i64 x.picks),.tr (x.log.map GDone.enc)]
def GWave.enc (x:GWave):List V:=[.lit (.int .i64 x.cycle),.lit (.int .i64 x.addr),.lit (.int .i64 x.kind),.lit (.int .i64 x.who),.lit (.int .i64 x.data_),.lit (.int .i64 x.from_),.lit (.bool x.ready),.lit (.int .i64 x.resp),.lit (.int .i64 x.got)]
def GBus.ow (x:GBus):List V:=[.own 162 (x.conf.masters.map GMConf.enc),il x.conf.quantum,il x.conf.maxWait,il x.conf.maxRetry,il x.conf.maxSplit,il x.conf.lockMost,il x.now,.own 171 (x.m.map GMst.enc),il x.arb.at_,il x.arb.credit,.own 173 (x.buckets.map GBucket.enc),.own 3 (x.splits.map encI),il x.holder,il x.held,il x.last,bl x.addr.live,il x.addr.who,il x.addr.beat,bl x.addr.first,il x.addr.by_,il x.addr.left,il x.addr.resp,bl x.addr.second,bl x.data_.live,il x.data_.who,il x.data_.beat,bl x.data_.first,il x.data_.by_,il x.data_.left,il x.data_.resp,bl x.data_.second,.own 3 (x.model.mem.map encI),.own 3 (x.model.dev.regs.map encI),il x.model.dev.timer,.own 3 (x.model.dev.fifo.map encI),il x.picks,.own 56 (x.log.map GDone.enc)]
def GBus.rl (x:GBus) (n:Nat):List V:=[.sl (1,n) 0 (x.conf.masters.map GMConf.enc).length,il x.conf.quantum,il x.conf.maxWait,il x.conf.maxRetry,il x.conf.maxSplit,il x.conf.lockMost,il x.now,.sl (1,n+1) 0 (x.m.map GMst.enc).length,il x.arb.at_,il x.arb.credit,.sl (1,n+2) 0 (x.buckets.map GBucket.enc).length,.sl (1,n+3) 0 (x.splits.map encI).length,il x.holder,il x.held,il x.last,bl x.addr.live,il x.addr.who,il x.addr.beat,bl x.addr.first,il x.addr.by_,il x.addr.left,il x.addr.resp,bl x.addr.second,bl x.data_.live,il x.data_.who,il x.data_.beat,bl x.data_.first,il x.data_.by_,il x.data_.left,il x.data_.resp,bl x.data_.second,.sl (1,n+4) 0 (x.model.mem.map encI).length,.sl (1,n+5) 0 (x.model.dev.regs.map encI).length,il x.model.dev.timer,.sl (1,n+6) 0 (x.model.dev.fifo.map encI).length,il x.picks,.sl (1,n+7) 0 (x.log.map GDone.enc).length]
def GBus.bk (x:GBus) (n:Nat):List (Id×Blk):=[((1,n),⟨false,true,true,162,(x.conf.masters.map GMConf.enc)⟩),((1,n+1),⟨false,true,true,171,(x.m.map GMst.enc)⟩),((1,n+2),⟨false,true,true,173,(x.buckets.map GBucket.enc)⟩),((1,n+3),⟨false,true,true,3,(x.splits.map encI)⟩),((1,n+4),⟨false,true,true,3,(x.model.mem.map encI)⟩),((1,n+5),⟨false,true,true,3,(x.model.dev.regs.map encI)⟩),((1,n+6),⟨false,true,true,3,(x.model.dev.fifo.map encI)⟩),((1,n+7),⟨false,true,true,56,(x.log.map GDone.enc)⟩)]
def GBus.ff (n e b:Nat):List (Id×Id):=[((1,n),(e,b)),((1,n+1),(e,b+7)),((1,n+2),(e,b+10)),((1,n+3),(e,b+11)),((1,n+4),(e,b+31)),((1,n+5),(e,b+32)),((1,n+6),(e,b+34)),((1,n+7),(e,b+36))]
def GBus.nm (x:GBus):List O:=[.num (x.conf.masters.map GMConf.enc).length 0 0 [],.num (x.m.map GMst.enc).length 0 0 [],.num (x.buckets.map GBucket.enc).length 0 0 [],.num (x.splits.map encI).length 0 0 [],.num (x.model.mem.map encI).length 0 0 [],.num (x.model.dev.regs.map encI).length 0 0 [],.num (x.model.dev.fifo.map encI).length 0 0 [],.num (x.log.map GDone.enc).length 0 0 []]
theorem GBus.so (x:GBus) {q:List O} {p:Prop} (h:Scr q p):Scr q ((x.conf.masters.map GMConf.enc).length=(x.conf.masters.map GMConf.enc).length∧(x.m.map GMst.enc).length=(x.m.map GMst.enc).length∧(x.buckets.map GBucket.enc).length=(x.buckets.map GBucket.enc).length∧(x.splits.map encI).length=(x.splits.map encI).length∧(x.model.mem.map encI).length=(x.model.mem.map encI).length∧(x.model.dev.regs.map encI).length=(x.model.dev.regs.map encI).length∧(x.model.dev.fifo.map encI).length=(x.model.dev.fifo.map encI).length∧(x.log.map GDone.enc).length=(x.log.map GDone.enc).length∧p):=⟨rfl,rfl,rfl,rfl,rfl,rfl,rfl,rfl,h⟩
theorem GBus.sc (x:GBus) {q:List O} {p:Prop} (h:Scr q p):Scr (GBus.nm x++q) ((x.conf.masters.map GMConf.enc).length=(x.conf.masters.map GMConf.enc).length∧(x.m.map GMst.enc).length=(x.m.map GMst.enc).length∧(x.buckets.map GBucket.enc).length=(x.buckets.map GBucket.enc).length∧(x.splits.map encI).length=(x.splits.map encI).length∧(x.model.mem.map encI).length=(x.model.mem.map encI).length∧(x.model.dev.regs.map encI).length=(x.model.dev.regs.map encI).length∧(x.model.dev.fifo.map encI).length=(x.model.dev.fifo.map encI).length∧(x.log.map GDone.enc).length=(x.log.map GDone.enc).length∧p):=⟨rfl,rfl,rfl,rfl,rfl,rfl,rfl,rfl,h⟩
def GDev.ow (x:GDev):List V:=[.own 3 (x.regs.map encI),il x.timer,.own 3 (x.fifo.map encI)]
def GDev.rl (x:GDev) (n:Nat):List V:=[.sl (1,n) 0 (x.regs.map encI).length,il x.timer,.sl (1,n+1) 0 (x.fifo.map encI).length]
def GDev.bk (x:GDev) (n:Nat):List (Id×Blk):=[((1,n),⟨false,true,true,3,(x.regs.map encI)⟩),((1,n+1),⟨false,true,true,3,(x.fifo.map encI)⟩)]
def GDev.ff (n e b:Nat):List (Id×Id):=[((1,n),(e,b)),((1,n+1),(e,b+2))]
def GDev.nm (x:GDev):List O:=[.num (x.regs.map encI).length 0 0 [],.num (x.fifo.map encI).length 0 0 []]
theorem GDev.so (x:GDev) {q:List O} {p:Prop} (h:Scr q p):Scr q ((x.regs.map encI).length=(x.regs.map encI).length∧(x.fifo.map encI).length=(x.fifo.map encI).length∧p):=⟨rfl,rfl,h⟩
theorem GDev.sc (x:GDev) {q:List O} {p:Prop} (h:Scr q p):Scr (GDev.nm x++q) ((x.regs.map encI).length=(x.regs.map encI).length∧(x.fifo.map encI).length=(x.fifo.map encI).length∧p):=⟨rfl,rfl,h⟩
def GModel.ow (x:GModel):List V:=[.own 3 (x.mem.map encI),.own 3 (x.dev.regs.map encI),il x.dev.timer,.own 3 (x.dev.fifo.map encI)]
def GModel.rl (x:GModel) (n:Nat):List V:=[.sl (1,n) 0 (x.mem.map encI).length,.sl (1,n+1) 0 (x.dev.regs.map encI).length,il x.dev.timer,.sl (1,n+2) 0 (x.dev.fifo.map encI).length]
def GModel.bk (x:GModel) (n:Nat):List (Id×Blk):=[((1,n),⟨false,true,true,3,(x.mem.map encI)⟩),((1,n+1),⟨false,true,true,3,(x.dev.regs.map encI)⟩),((1,n+2),⟨false,true,true,3,(x.dev.fifo.map encI)⟩)]
def GModel.ff (n e b:Nat):List (Id×Id):=[((1,n),(e,b)),((1,n+1),(e,b+1)),((1,n+2),(e,b+3))]
def GModel.nm (x:GModel):List O:=[.num (x.mem.map encI).length 0 0 [],.num (x.dev.regs.map encI).length 0 0 [],.num (x.dev.fifo.map encI).length 0 0 []]
theorem GModel.so (x:GModel) {q:List O} {p:Prop} (h:Scr q p):Scr q ((x.mem.map encI).length=(x.mem.map encI).length∧(x.dev.regs.map encI).length=(x.dev.regs.map encI).length∧(x.dev.fifo.map encI).length=(x.dev.fifo.map encI).length∧p):=⟨rfl,rfl,rfl,h⟩
theorem GModel.sc (x:GModel) {q:List O} {p:Prop} (h:Scr q p):Scr (GModel.nm x++q) ((x.mem.map encI).length=(x.mem.map encI).length∧(x.dev.regs.map encI).length=(x.dev.regs.map encI).length∧(x.dev.fifo.map encI).length=(x.dev.fifo.map encI).length∧p):=⟨rfl,rfl,rfl,h⟩
def GScript.ow (x:GScript):List V:=[.own 73 (x.posts.map GPost.enc),.own 3 (x.waits.map encI),.own 3 (x.says.map encI)]
def GScript.rl (x:GScript) (n:Nat):List V:=[.sl (1,n) 0 (x.posts.map GPost.enc).length,.sl (1,n+1) 0 (x.waits.map encI).length,.sl (1,n+2) 0 (x.says.map encI).length]
def GScript.bk (x:GScript) (n:Nat):List (Id×Blk):=[((1,n),⟨false,true,true,73,(x.posts.map GPost.enc)⟩),((1,n+1),⟨false,true,true,3,(x.waits.map encI)⟩),((1,n+2),⟨false,true,true,3,(x.says.map encI)⟩)]
def GScript.ff (n e b:Nat):List (Id×Id):=[((1,n),(e,b)),((1,n+1),(e,b+1)),((1,n+2),(e,b+2))]
def GScript.nm (x:GScript):List O:=[.num (x.posts.map GPost.enc).length 0 0 [],.num (x.waits.map encI).length 0 0 [],.num (x.says.map encI).length 0 0 []]
theorem GScript.so (x:GScript) {q:List O} {p:Prop} (h:Scr q p):Scr q ((x.posts.map GPost.enc).length=(x.posts.map GPost.enc).length∧(x.waits.map encI).length=(x.waits.map encI).length∧(x.says.map encI).length=(x.says.map encI).length∧p):=⟨rfl,rfl,rfl,h⟩
theorem GScript.sc (x:GScript) {q:List O} {p:Prop} (h:Scr q p):Scr (GScript.nm x++q) ((x.posts.map GPost.enc).length=(x.posts.map GPost.enc).length∧(x.waits.map encI).length=(x.waits.map encI).length∧(x.says.map encI).length=(x.says.map encI).length∧p):=⟨rfl,rfl,rfl,h⟩
def ffi (n:Nat):Nat→List (Id×Id)
 | 0=>[]
 | m+1=>((1,n),(1,n))::ffi (n+1) m
abbrev bx (n:Nat) (r:List V):Id×Blk:=((1,n),⟨true,true,true,0,[r]⟩)
abbrev rx (n t:Nat) (R:List (List V)):Id×Blk:=((1,n),⟨false,true,true,t,R⟩)
end Go.Proofs.YtlcfolgfmlgncaaGreatDoor.Ev
namespace Go.Proofs
open Go.Shelf Go.RowKit Go.Sort Go.Lib
def Tryz.lays156_ren:Go.Shelf.Ren:=⟨fun|156=>53|165=>110|166=>111|169=>112|240=>148|241=>149|276=>182|277=>183|n=>n,fun|31=>65|9=>9|3=>3|4=>4|0=>0|20=>20|72=>131|76=>135|70=>129|37=>22|75=>134|127=>160|164=>189|5=>5|80=>137|n=>n,fun|n=>n⟩
theorem Tryz.lays156:Go.Proofs.Lays.n156 Tryz.prog Tryz.lays156_ren:={
 mixed:=by kernel_rfl
 f156:=Tryz.func53.trans (congrArg some (by kernel_rfl))
 f165:=Tryz.func110.trans (congrArg some (by kernel_rfl))
 f166:=Tryz.func111.trans (congrArg some (by kernel_rfl))
 f169:=Tryz.func112.trans (congrArg some (by kernel_rfl))
 f240:=Tryz.func148.trans (congrArg some (by kernel_rfl))
 f241:=Tryz.func149.trans (congrArg some (by kernel_rfl))
 f276:=Tryz.func182.trans (congrArg some (by kernel_rfl))
 f277:=Tryz.func183.trans (congrArg some (by kernel_rfl))
 t0:=Tryz.underlying0
 a0:=Tryz.isAgg0
 z0:=Tryz.sizeOf0
 v0:=Tryz.zeroValue0
 t3:=Tryz.underlying3
 a3:=Tryz.isAgg3
 z3:=Tryz.sizeOf3
 v3:=Tryz.zeroValue3
 t4:=Tryz.underlying4
 a4:=Tryz.isAgg4
 z4:=Tryz.sizeOf4
 v4:=Tryz.zeroValue4
 t9:=Tryz.underlying9
 a9:=Tryz.isAgg9
 z9:=Tryz.sizeOf9
 v9:=Tryz.zeroValue9
 t20:=Tryz.underlying20
 a20:=Tryz.isAgg20
 z20:=Tryz.sizeOf20
 v20:=Tryz.zeroValue20
 t31:=Tryz.underlying65
 a31:=Tryz.isAgg65
 z31:=Tryz.sizeOf65
 v31:=Tryz.zeroValue65
 t37:=Tryz.underlying22
 a37:=Tryz.isAgg22
 z37:=Tryz.sizeOf22
 v37:=Tryz.zeroValue22
 t70:=Tryz.underlying129
 a70:=Tryz.isAgg129
 z70:=Tryz.sizeOf129
 v70:=Tryz.zeroValue129
 t72:=Tryz.underlying131
 a72:=Tryz.isAgg131
 z72:=Tryz.sizeOf131
 v72:=Tryz.zeroValue131
 t75:=Tryz.underlying134
 a75:=Tryz.isAgg134
 z75:=Tryz.sizeOf134
 v75:=Tryz.zeroValue134
 t76:=Tryz.underlying135
 a76:=Tryz.isAgg135
 z76:=Tryz.sizeOf135
 v76:=Tryz.zeroValue135
 t127:=Tryz.underlying160
 a127:=Tryz.isAgg160
 z127:=Tryz.sizeOf160
 v127:=Tryz.zeroValue160
 t164:=Tryz.underlying189
 a164:=Tryz.isAgg189
 z164:=Tryz.sizeOf189
 v164:=Tryz.zeroValue189}
theorem Tryz.Builder_Extra_156:Builder.Extra Tryz.prog Tryz.lays156_ren:={
 sizeBuilder:=by kernel_rfl
 liesBuilder:=by kernel_rfl
 t5:=Tryz.underlying5
 a5:=Tryz.isAgg5
 z5:=Tryz.sizeOf5
 v5:=Tryz.zeroValue5
 infoByte:=by kernel_rfl
 cellsByte:=by kernel_rfl
 sizeByte:=by kernel_rfl
 neB5:=by decide}
theorem Tryz.strings_Join_none (a:Option Addr) (c:Nat) (sep:ByteArray) (w:World):
  Calls Tryz.prog 53 #[.slice a 0 c,.string sep] w fun e w'=>e=.returned (.string ⟨#[]⟩)∧w'=w:=Any.strings_Join_none Tryz.lays156 Tryz.Builder_Extra_156 a c sep w
theorem Tryz.strings_Join (bk o c:Nat) (xs:List ByteArray) (sep:ByteArray) (w:World) (hcells:∀(j:Nat) x,xs[j]?=some x→w.cell? ⟨bk,o+j,none⟩=some (.string x)) (hbk:bk < w.heap.size) (hN:xs.length≤140737488355328) (hcap:xs.length≤c) (hlen:(Lib.join (xs.map (·.data.toList)) sep.data.toList).length≤140737488355328):
  Calls Tryz.prog 53 #[.slice (some ⟨bk,o,none⟩) xs.length c,.string sep] w fun e w'=>e=.returned (.string ⟨(Lib.join (xs.map (·.data.toList)) sep.data.toList).toArray⟩)∧Below w.heap.size w w':=Any.strings_Join Tryz.lays156 Tryz.Builder_Extra_156 bk o c xs sep w hcells hbk hN hcap hlen
def Tryz.laysM171_ren:Go.Shelf.Ren:=⟨fun|171=>118|243=>153|246=>186|283=>218|284=>219|285=>220|286=>221|129=>233|317=>232|318=>234|319=>235|320=>236|337=>239|338=>240|n=>n,fun|3=>3|9=>9|2=>2|4=>4|171=>214|0=>0|53=>215|37=>22|5=>5|173=>218|212=>237|51=>227|20=>20|213=>238|46=>165|232=>245|233=>246|n=>n,fun|17=>5|18=>6|19=>7|n=>n⟩
theorem Tryz.laysM171:Go.Proofs.LaysM.n171 Tryz.prog Tryz.laysM171_ren:={
 mixed:=by kernel_rfl
 f129:=Tryz.func233.trans (congrArg some (by kernel_rfl))
 f171:=Tryz.func118.trans (congrArg some (by kernel_rfl))
 f243:=Tryz.func153.trans (congrArg some (by kernel_rfl))
 f246:=Tryz.func186.trans (congrArg some (by kernel_rfl))
 f283:=Tryz.func218.trans (congrArg some (by kernel_rfl))
 f284:=Tryz.func219.trans (congrArg some (by kernel_rfl))
 f285:=Tryz.func220.trans (congrArg some (by kernel_rfl))
 f286:=Tryz.func221.trans (congrArg some (by kernel_rfl))
 f317:=Tryz.func232.trans (congrArg some (by kernel_rfl))
 f318:=Tryz.func234.trans (congrArg some (by kernel_rfl))
 f319:=Tryz.func235.trans (congrArg some (by kernel_rfl))
 f320:=Tryz.func236.trans (congrArg some (by kernel_rfl))
 f337:=Tryz.func239.trans (congrArg some (by kernel_rfl))
 f338:=Tryz.func240.trans (congrArg some (by kernel_rfl))
 t0:=Tryz.underlying0
 a0:=Tryz.isAgg0
 z0:=Tryz.sizeOf0
 v0:=Tryz.zeroValue0
 t2:=Tryz.underlying2
 a2:=Tryz.isAgg2
 z2:=Tryz.sizeOf2
 v2:=Tryz.zeroValue2
 t3:=Tryz.underlying3
 a3:=Tryz.isAgg3
 z3:=Tryz.sizeOf3
 v3:=Tryz.zeroValue3
 t4:=Tryz.underlying4
 a4:=Tryz.isAgg4
 z4:=Tryz.sizeOf4
 v4:=Tryz.zeroValue4
 t5:=Tryz.underlying5
 a5:=Tryz.isAgg5
 z5:=Tryz.sizeOf5
 v5:=Tryz.zeroValue5
 t9:=Tryz.underlying9
 a9:=Tryz.isAgg9
 z9:=Tryz.sizeOf9
 v9:=Tryz.zeroValue9
 t20:=Tryz.underlying20
 a20:=Tryz.isAgg20
 z20:=Tryz.sizeOf20
 v20:=Tryz.zeroValue20
 t37:=Tryz.underlying22
 a37:=Tryz.isAgg22
 z37:=Tryz.sizeOf22
 v37:=Tryz.zeroValue22
 t46:=Tryz.underlying165
 a46:=Tryz.isAgg165
 z46:=Tryz.sizeOf165
 v46:=Tryz.zeroValue165
 t51:=Tryz.underlying227
 a51:=Tryz.isAgg227
 z51:=Tryz.sizeOf227
 v51:=Tryz.zeroValue227
 t53:=Tryz.underlying215
 a53:=Tryz.isAgg215
 z53:=Tryz.sizeOf215
 v53:=Tryz.zeroValue215
 t171:=Tryz.underlying214
 a171:=Tryz.isAgg214
 z171:=Tryz.sizeOf214
 v171:=Tryz.zeroValue214
 t173:=Tryz.underlying218
 a173:=Tryz.isAgg218
 z173:=Tryz.sizeOf218
 v173:=Tryz.zeroValue218
 t212:=Tryz.underlying237
 a212:=Tryz.isAgg237
 z212:=Tryz.sizeOf237
 v212:=Tryz.zeroValue237
 t213:=Tryz.underlying238
 a213:=Tryz.isAgg238
 z213:=Tryz.sizeOf238
 t232:=Tryz.underlying245
 a232:=Tryz.isAgg245
 z232:=Tryz.sizeOf245
 v232:=Tryz.zeroValue245
 t233:=Tryz.underlying246
 a233:=Tryz.isAgg246
 z233:=Tryz.sizeOf246
 v233:=Tryz.zeroValue246
 g17:=by kernel_rfl
 g18:=by kernel_rfl
 g19:=by kernel_rfl
 i0:=by kernel_rfl
 i2:=by kernel_rfl
 i3:=by kernel_rfl
 i4:=by kernel_rfl
 i5:=by kernel_rfl
 i9:=by kernel_rfl
 i20:=by kernel_rfl
 i37:=by kernel_rfl
 i46:=by kernel_rfl
 i51:=by kernel_rfl
 i53:=by kernel_rfl
 i171:=by kernel_rfl
 i173:=by kernel_rfl
 i212:=by kernel_rfl
 i232:=by kernel_rfl
 i233:=by kernel_rfl
 m17:=by kernel_rfl
 m18:=by kernel_rfl
 m19:=by kernel_rfl}
theorem Tryz.strconv_Itoa (n:Int) (h0:-9223372036854775808≤n) (h1:n≤9223372036854775807) (w:World) (htab:Lib.TabIs Tryz.prog w "internal/strconv.uint64pow10" .u64 Lib.pow10Tab):
  Calls Tryz.prog 118 #[.int .i64 n] w fun e w'=>e=.returned (.string ⟨(Lib.itoa n).toArray⟩)∧∃k os,w'=grow (w.drewN k) os:=Any.strconv_Itoa Tryz.laysM171 n h0 h1 w htab
end Go.Proofs
namespace Go.Proofs.YtlcfolgfmlgncaaGreatDoor.Ev
open Go Go.Proofs
set_option linter.unusedVariables false
set_option linter.unusedSimpArgs false
def Mo:Hints:=⟨fun f=>(List.lookup f [(24,[.iov,.rd]),(56,[.iov,.rd]),(57,[.iov,.rd]),(119,[.io]),(64,[.io]),(76,[.io]),(66,[.io,.mv]),(77,[.io,.mv]),(120,[.io]),(65,[.io]),(185,[.io]),(157,[.io]),(152,[.io]),(114,[.io]),(115,[.io]),(156,[.io]),(122,[.io,.iov]),(116,[.io,.iov]),(60,[.io]),(75,[.io]),(32,[.io]),(166,[.mv]),(167,[.mv]),(169,[.mv]),(168,[.mv]),(40,[.mv,.rd])]).getD [],fun _=>false⟩
set_option linter.unusedSectionVars false
variable [Anchor]
abbrev Y:=FuncId×List V×V×List V
abbrev RF (fn:Func) (y:Y):Ex→St→Prop:=RetC Tryz.prog Mo y.1 fn y.2.1 y.2.2
theorem Z4r {P:Program} (hm:P.follows .mixedOrders=true) (h:P.funcs.toList.all (fun fn=>(match fn.body with|some c=>X1 fn.ntmps c|none=>true)&&!(fn.name == "runtime.NumGoroutine"))=true):FuncsOk P:=by
 rw[List.all_eq_true] at h
 refine⟨hm,fun f fn c hf hc=>?_,fun f fn hf=>?_⟩
 ·have:=h fn (Array.mem_toList_iff.2 (Array.mem_of_getElem? hf))
  rw[hc] at this
  simp only[Bool.and_eq_true] at this
  exact this.1
 ·have:=h fn (Array.mem_toList_iff.2 (Array.mem_of_getElem? hf))
  simp only[Bool.and_eq_true,Bool.not_eq_true'] at this
  exact this.2
theorem fOk:FuncsOk Tryz.prog:=Z4r (by kernel_rfl) (by kernel_rfl)
theorem bnK {α β:Type} {x:Option α} {f:α→Option β} {b:β} {G:Prop} (h:x.bind f=some b) (k:∀a,x=some a→f a=some b→G):G:=by
 obtain⟨a,h1,h2⟩:=Z9t h;exact k a h1 h2
theorem itK {β:Type} {t:Bool} {x y:Option β} {b:β} {G:Prop} (h:(if t=true then x else y)=some b) (k1:t=true→x=some b→G) (k2:t=false→y=some b→G):G:=by
 rcases Z8x h with⟨h1,h2⟩|⟨h1,h2⟩
 ·exact k1 h1 h2
 ·exact k2 h1 h2
theorem rtQ {α:Type} {F:α→Y} {fn:Func} {a r:α} {p:Prop} {stk:List It} {s:St} (h:some a=some r) (q:List O) (hp:p) (e:told (runK Tryz.prog Mo (F a).1 fn (F a).2.1 100000 stk s q)=some (p,(F a).2.2):=by kernel_rfl):SX Tryz.prog (RF fn (F r)) stk .normal s:=by
 cases h;exact Z3g fOk 100000 q hp e
theorem rtK {α:Type} {F:α→Y} {fn:Func} {a r:α} {p:Prop} {stk:List It} {s:St} {q:List O} (h:some a=some r) (hp:Scr q p) (e:told (runK Tryz.prog Mo (F a).1 fn (F a).2.1 100000 stk s q)=some (p,(F a).2.2):=by kernel_rfl):SX Tryz.prog (RF fn (F r)) stk .normal s:=by
 cases h;exact Z3g fOk 100000 q hp e
theorem cutQ {y:Y} {fn:Func} {stk k2:List It} {s:St} {p:Prop} {l:List (Nat×V)} {h:List (Id×Blk)} {ep:Nat} (f:List (Id×Id)) (n:Nat) (q:List O) (hp:p) (hn:SX Tryz.prog (RF fn y) k2 .normal (mkS l h ep))
  (e:told (cutK Tryz.prog Mo f l h n stk s q)=some (p,(k2,renL f l h)):=by kernel_rfl) (hb:(isC k2&&cutB f l h ep)=true:=by kernel_rfl):SX Tryz.prog (RF fn y) stk .normal s:=Z3u (M:=Mo) fOk f n q hp hn e hb
theorem cutX {y:Y} {fn:Func} {stk k2:List It} {s:St} {p:Prop} {l:List (Nat×V)} {h:List (Id×Blk)} {ep:Nat} {q:List O} (f:List (Id×Id)) (n:Nat) (hp:Scr q p) (hn:SX Tryz.prog (RF fn y) k2 .normal (mkS l h ep))
  (e:told (cutK Tryz.prog Mo f l h n stk s q)=some (p,(k2,renL f l h)):=by kernel_rfl) (hb:(isC k2&&cutB f l h ep)=true:=by kernel_rfl):SX Tryz.prog (RF fn y) stk .normal s:=Z3u (M:=Mo) fOk f n q hp hn e hb
theorem Zd {α:Type} {F:α→Y} {fn:Func} {r:α} (hfn:Tryz.prog.funcs[(F r).1]?=some fn) (h:SX Tryz.prog (RF fn (F r)) [.c (Zp6 fn)] .normal (entS Mo (F r).1 (F r).2.1)) (hc:fn.body=some (Zp6 fn):=by kernel_rfl) (hs:(St.enters ⟨fun _=>.undef,fun _=>none,0⟩ 0 (Mo.modes (F r).1) (F r).2.1).isSome=true:=by kernel_rfl):
  Fine Tryz.prog Mo (F r):=Z9j fOk hfn hc hs h
abbrev CS (y:Y) (fn:Func) (p:List Nat) (l:List (Nat×V)) (h:List (Id×Blk)):Prop:=SX Tryz.prog (RF fn y) (at_ p (Zp6 fn) []) .normal (mkS l h 1)
end Go.Proofs.YtlcfolgfmlgncaaGreatDoor.Ev
namespace Go.Proofs.YtlcfolgfmlgncaaGreatDoor.Ev
open Go Go.Proofs Go.RowKit Go.Sort
set_option linter.unusedVariables false
set_option linter.unusedSimpArgs false
class ExtOk [A:Anchor]:Prop where
 tab:Lib.TabIs Tryz.prog A.w "internal/strconv.uint64pow10" .u64 Lib.pow10Tab
theorem Z8v {P:Program} [A:Anchor] {w:World} {T:Nat→Prop} (hA:Anch w T) {name:String} {cs:Array Value} (h:A.w.var? P name=some cs):w.var? P name=some cs:=by
 unfold World.var? at h ⊢
 obtain⟨g,hg,h⟩:=Option.bind_eq_some_iff.1 h
 rw[hg,Option.bind_some]
 have hlt:g < A.w.heap.size:=by
  rcases Nat.lt_or_ge g A.w.heap.size with h'|h'
  ·exact h'
  ·rw[Array.getElem?_eq_none h'] at h;cases h
 rw[hA.2.1 g hlt];exact h
theorem us1 {us:List Value} (h:us.length=1):∃u,us=[u]:=by
 match us,h with
 | [u],_=>exact⟨u,rfl⟩
theorem us2 {us:List Value} (h:us.length=2):∃u v,us=[u,v]:=by
 match us,h with
 | [u,v],_=>exact⟨u,v,rfl⟩
abbrev Zvf (x0:Int) (r:ByteArray):Y:=(118,[.lit (.int .i64 x0)],.lit (.string r),[.undef])
theorem Zvz [Anchor] [ExtOk] {x0:Int} {r:ByteArray} (h:Zdh x0=some r):Fine Tryz.prog Mo (Zvf x0 r):=by
 unfold Zdh at h
 split at h
 case isFalse=>cases h
 rename_i h0
 injection h with h;subst h
 refine Z3y (xs:=[.lit (.int .i64 x0)]) ⟨_,Tryz.func118,by kernel_rfl⟩ (by kernel_rfl) (Z3j rfl) fun w us ok hA hok hl he=>?_
 obtain⟨u,rfl⟩:=us1 hl
 obtain rfl:=Z69 (he 0 u _ rfl rfl (fun _=>none))
 refine (Tryz.strconv_Itoa x0 h0.1 h0.2 w (Z8v hA ExtOk.tab)).mono fun e w' ⟨he,k,os,hw⟩=>⟨he,?_⟩
 subst hw
 refine⟨rfl,rfl,rfl,?_,fun j hj=>?_⟩
 ·show w.heap.size≤(w.heap++os).size
  rw[Array.size_append];omega
 ·show (w.heap++os)[j]?=w.heap[j]?
  rw[Array.getElem?_append_left hj]
abbrev Zwd (x0:List ByteArray) (x1:ByteArray) (r:ByteArray):Y:=(53,[.tr (x0.map encS),.lit (.string x1)],.lit (.string r),[.undef,.undef])
theorem Zv3 [Anchor] [ExtOk] {x0:List ByteArray} {x1:ByteArray} {r:ByteArray} (h:Jy x0 x1=some r):Fine Tryz.prog Mo (Zwd x0 x1 r):=by
 unfold Jy at h
 split at h
 case isFalse=>cases h
 rename_i h0
 injection h with h;subst h
 refine Z3y (xs:=[.tr (x0.map encS),.lit (.string x1)]) ⟨_,Tryz.func53,by kernel_rfl⟩ (by kernel_rfl) (Z3j rfl) fun w us ok hA hok hl he=>?_
 obtain⟨u,v,rfl⟩:=us2 hl
 obtain rfl:=Z69 (he 1 v _ rfl rfl (fun _=>none))
 rcases Ybk (he 0 u _ rfl rfl (fun _=>none)) with⟨A,c,rfl,rfl⟩|⟨g,o,c,rfl,hg,hc,hcells⟩
 ·refine (Tryz.strings_Join_none A c x1 w).mono fun e w' ⟨he,hw⟩=>⟨he,?_⟩
  subst hw;exact RowKit.Below.refl _ _
 ·exact Tryz.strings_Join g o c x0 x1 w hcells (hok g hg) h0.1 hc h0.2
end Go.Proofs.YtlcfolgfmlgncaaGreatDoor.Ev
