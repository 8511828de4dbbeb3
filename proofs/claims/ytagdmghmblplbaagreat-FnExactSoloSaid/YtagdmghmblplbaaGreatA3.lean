/- A part of the proof of FnExactSolo: see the text YtagdmghmblplbaaGreatLawFnExactSolo for what is proved and its conditions. Conditions here: those in each line. -/
import Derived.Test.YtagdmghmblplbaaGreatA2
import GoSem.ClaimData
set_option linter.unusedSimpArgs false
set_option linter.unusedVariables false
set_option linter.unusedSectionVars false
namespace Go.Proofs.YtagdmghmblplbaaGreat.Ev
open Go Go.RowKit KM
variable [Anchor]
section
variable {P:Program} {M:Yp}
def Yb8 (ts:List (Option TypeId)) (x:V) (s:St):KM (V×St):=
 match x with
 | .agg cs=>bnd (Zrp ts cs s) λy=>ret (.agg y.1,y.2)
 | .ptr id 0 0=>bnd (Zyd s ts id) λy=>ret (.obx y.1,y.2)
 | x=>Zvf s (ts.headD none) x
theorem Yrq {s:St} {ts:List (Option TypeId)} {x:V}:KS (Yb8 ts x s) (s.liftOne ts x):=by
 unfold Yb8;split
 .exact W7 Zvx
 .exact W7 Z1s
 .rename_i _ h1 h2
  have:s.liftOne ts x=s.giveCell (ts.headD none) x:=by
   unfold St.liftOne;split<;>simp_all
  rw[this];exact Zy2
def Ycj (P:Program):List TypeId->List V->(s:St)->KM (List V×St)
 | _,[],s=>ret ([],s)
 | ts,x::r,s=>bnd (Yb8 (Z2d P (ts.headD 0)) x s) λy=>bnd (Ycj P ts.tail r y.2) λz=>ret (y.1::z.1,z.2)
theorem Yqf:∀{xs:List V} {s:St} {ts:List TypeId},KS (Ycj P ts xs s) (s.liftAll P ts xs):=by
 intro xs
 induction xs with
 | nil=>intro s ts;exact W6
 | cons x xs ih=>intro s ts;exact Zhz Yrq λy=>W7 ih
def Zmb (p:Nat):(k:Nat)->List V->(s:St)->KM (List V×St)
 | _,[],s=>ret ([],s)
 | k,x::r,s=>match x with
  | .own e rows=>bnd (Z2g s (0,64*p+k) 0 rows.length) λer=>if er.1=e then bnd (Zmb p (k+1) r (s.kill (0,64*p+k))) λz=>ret (.own er.1 er.2::z.1,z.2) else fail
  | _=>bnd (Zmb p (k+1) r s) λz=>ret (.undef::z.1,z.2)
theorem Z7d {p:Nat}:∀{xs:List V} {k:Nat} {s:St},KS (Zmb p k xs s) (s.outCells p k xs):=by
 intro xs
 induction xs with
 | nil=>intro k s;exact W6
 | cons x xs ih=>
  intro k s;cases x with
  | own e rows=>
   simp only[Zmb,St.outCells];refine Zp Z0q (λer he=>?_);rw[he,ZZa];refine Y1 (λhx=>?_) (λ_=>Zo);rw[ZZj hx];exact W7 ih
  | _=>
   simp only[Zmb,St.outCells];exact W7 ih
def outK (p:Nat) (ts:List (Option TypeId)) (m:Yh) (x:V) (s:St):KM (V×St):=
 match m with
 | .rd|.mv=>ret (.undef,s)
 | .io=>match x with
  | .agg cs=>bnd (Zyd s ts (0,64*p+63)) λy=>if y.1.length=cs.length then ret (.agg y.1,y.2) else fail
  | _=>fail
 | .iov=>match x with
  | .agg cs=>bnd (Zmb p 0 cs s) λy=>ret (.agg y.1,y.2)
  | x=>bnd (Zmb p 0 [x] s) λy=>bnd (opt y.1.head?) λv=>ret (v,y.2)
theorem Y14 {s:St} {p:Nat} {ts:List (Option TypeId)} {m:Yh} {x:V}:KS (outK p ts m x s) (s.out p ts m x):=by
 cases m
 .exact W6
 .cases x with
  | agg cs=>
   simp only[outK,St.out];refine Zp Z1s (λy hy=>?_);rw[hy];simp only[ZZa];refine Y1 (λhx=>?_) (λ_=>Zo);rw[ZZj hx];exact Z0 rfl
  | _=>exact Zo
 .exact W6
 .cases x with
  | agg cs=>exact W7 Z7d
  | _=>simp only[outK,St.out];exact Zhz Z7d λy=>W7 Zqz
def Yto (P:Program):(p:Nat)->List TypeId->List Yh->List V->(s:St)->KM (List V)
 | _,_,_,[],s=>ret []
 | p,ts,ms,x::r,s=>bnd (outK p (Z2d P (ts.headD 0)) (ms.headD .rd) x s) λy=>bnd (Yto P (p+1) ts.tail ms.tail r y.2) λz=>ret (y.1::z)
theorem Yzp:∀{xs:List V} {s:St} {p:Nat} {ts:List TypeId} {ms:List Yh},KS (Yto P p ts ms xs s) (s.outs P p ts ms xs):=by
 intro xs
 induction xs with
 | nil=>intro s p ts ms;exact W6
 | cons x xs ih=>intro s p ts ms;exact Zhz Y14 λy=>W7 ih
def retK (P:Program) (M:Yp) (f:FuncId) (fn:Func) (xs:List V) (s:St):KM (V×List V):=
 bnd (opt (Zqr P s fn.results.toList)) λvs=>bnd (Ycj P fn.resultTypes.toList vs s) λz=>bnd (Yto P 0 fn.params.toList (M.modes f) xs z.2) λos=>ret (Z7i z.1,os)
theorem Yso {f:FuncId} {fn:Func} {xs:List V} {s:St}:KS (retK P M f fn xs s) ((Zqr P s fn.results.toList).bind λvs=>(s.liftAll P fn.resultTypes.toList vs).bind λz=>(z.2.outs P 0 fn.params.toList (M.modes f) xs).map λos=>(Z7i z.1,os)):=
 Zhz Zqz λvs=>Zhz Yqf λz=>W7 Yzp
def Yuy (P:Program) (M:Yp) (s:St) (k:Nat) (g:FuncId) (args:List V):KM (V×St):=
 if args.length<=8 then bnd (Ylx P (((P.funcs[g]?).map (·.params.toList)).getD []) (M.modes g) args s) λy=>bnd (Ydr y.2 (M.modes g) y.1) λxs=>bnd hear λo=>match o with
  | .res r os=>bnd (obl (Zt P M (g,xs,r,os))) λ_=>if ((Z4y r||os.any Zjt)&&!Zmc (M.modes g) args)=true then fail else
   bnd (Yl0 s.ep (M.modes g) (16*k+8) args os y.2) λs'=>opt (s'.takeRes s.ep (16*k) r)
  | _=>fail
 else fail
theorem Yz2 (hP:Yk P) {s:St} {k:Nat} {g:FuncId} {args:List V}:KP (Yuy P M s k g args) (λy=>∃C,Zfg P M C/\Zos P M C s k g args=some y):=by
 unfold Yuy;refine Y1 (λh8=>?_) (λ_=>Zo);refine Zp Yxd (λy hy=>Zp Ywd (λxs hx=>Zp Wb (λo _=>?_)));split
 .rename_i r os
  refine Zp Yd (λ_ hf=>Y1 (λ_=>Zo) (λht=>Zp Yxi (λs' hs=>Qf.mono λz hz=>⟨one (g,xs,r,os),one_ok hP hf,?_⟩)));unfold Zos;rw[ZZj h8,hy,ZZa,hx,ZZa];have h1:one (g,xs,r,os) g xs=some (r,os):=by unfold one;rw[ZZj ⟨rfl,rfl⟩]
  rw[h1,ZZa];simp only;rw[ZZi ht,hs,ZZa,hz]
 .exact Zo
def Ynq (s:St) (all:Bool) (x:V) (m:List (List V)) (lb:Bool):KM St:=
 match x with
 | .sl id off len=>if id.1=s.ep\/all=true then (if lb=true then bnd (Z2g s id off len) λer=>bnd (obl (er.2=m)) λ_=>ret (s.kill id) else match s.heap id with
   | some b=>if b.cl=false then bnd (Zr3 s (.sl id off len)) λrows=>bnd (obl (rows=m)) λ_=>bnd (obl (Zaq m=lb)) λ_=>ret s else fail
   | none=>fail)
  else bnd (Zr3 s x) λrows=>bnd (obl (rows=m)) λ_=>bnd (obl (Zaq m=lb)) λ_=>ret s
 | x=>bnd (Zr3 s x) λrows=>bnd (obl (rows=m)) λ_=>bnd (obl (Zaq m=lb)) λ_=>ret s
theorem Yw9 {s:St} {all:Bool} {x:V} {m:List (List V)} {lb:Bool}:KP (Ynq s all x m lb) (λs1=>s.moved all x=some (m,lb,s1)):=by
 unfold Ynq;split
 .rename_i id off len
  simp only[St.moved];refine Y1 (λhx=>Y1 (λhl=>?_) (λ_=>?_)) (λhn=>?_)
  .refine Zp Z0q (λer he=>Zp Yd (λ_ hm=>Z0 ?_))
   rw[ZZj hx,he,hl];simp only[hm]
  .split
   .rename_i b hb
    refine Y1 (λhc=>?_) (λ_=>Zo);refine Zp Zgn (λrows hr=>Zp Yd (λ_ hm=>Zp Yd (λ_ hl=>Z0 ?_)));have hw:s.whole id off len=none:=by
     unfold St.whole;rw[hb,ZZa,ZZi (λh=>by rw[hc] at h;cases h.2.2.1)]
    rw[ZZj hx,hw,hr];simp only[Var,hm,hl]
   .exact Zo
  .refine Zp Zgn (λrows hr=>Zp Yd (λ_ hm=>Zp Yd (λ_ hl=>Z0 ?_)))
   rw[ZZi hn,hr];simp only[Var,hm,hl]
 .rename_i _ Yf
  refine Zp Zgn (λrows hr=>Zp Yd (λ_ hm=>Zp Yd (λ_ hl=>Z0 ?_)));have:s.moved all x=(s.rowsOf x).map λrows=>(rows,Zaq rows,s):=by
   unfold St.moved;split<;>simp_all
  rw[this,hr];simp only[Var,hm,hl]
def appK (P:Program) (all:Bool) (s:St) (id:Id) (t:TypeId) (b x:V):KM (V×St):=
 bnd (opt (Wd P t)) λe=>bnd hear λo=>match o with
 | .app m lb R n=>bnd (Ynq s all x m lb) λs1=>if Zx P e≠0/\Zq3 P e=true then bnd (obl (Zjw (Zx P e) m=true)) λ_=>
  match b with
  | .lit (.slice none 0 0)=>bnd (obl (m.length*P.bytesOf e<=140737488355328/\m.length<=9223372036854775807)) λ_=>bnd (obl (m=R)) λ_=>bnd (obl (n=R.length)) λ_=>ret (.sl id 0 n,s1.setB id ⟨false,true,lb,e,R⟩)
  | .sl i 0 len=>match s1.heap i with
   | some k=>if k.box=false/\k.own=true/\k.el=e then bnd (obl (len=k.rows.length)) λ_=>bnd (obl ((len+m.length)*P.bytesOf e<=140737488355328/\len+m.length<=9223372036854775807)) λ_=>
     bnd (obl (k.rows++m=R)) λ_=>bnd (obl (n=R.length)) λ_=>ret (.sl id 0 n,(s1.kill i).setB id ⟨false,true,k.cl&&lb,e,R⟩) else fail
   | none=>fail
  | _=>fail
  else fail
 | _=>fail
theorem Y1x {all:Bool} {s:St} {id:Id} {t:TypeId} {b x:V}:KS (appK P all s id t b x) (Zmp P all s id t b x):=by
 unfold appK Zmp;refine Zhz Zqz λe=>Zp Wb (λo _=>?_);split
 .rename_i m lb R n
  refine Zp Yw9 (λs1 hm=>Y1 (λhz=>Zp Yd (λ_ ha=>?_)) (λ_=>Zo));rw[hm,ZZa,ZZj ⟨ha,hz.1,hz.2⟩];split
  .refine Zp Yd (λ_ h1=>Zp Yd (λ_ h2=>Zp Yd (λ_ h3=>Z0 ?_)))
   rw[ZZj h1,h3,h2];rfl
  .rename_i i len
   simp only;split
   .rename_i k hk
    refine Y1 (λhx=>?_) (λ_=>Zo);refine Zp Yd (λ_ h0=>Zp Yd (λ_ h1=>Zp Yd (λ_ h2=>Zp Yd (λ_ h3=>Z0 ?_))));rw[hk,ZZa,ZZj ⟨hx.1,hx.2.1,by omega,hx.2.2,h1⟩,h3,<-h2,List.drop_zero,Vbb,h0]
   .exact Zo
  .exact Zo
 .exact Zo
def Z4d (c:Bool):KM Bool:=bnd hear λo=>match o with
 | .t e=>bnd (obl (c=e)) λ_=>ret e
 | .k=>ret c
 | _=>fail
theorem Zyj {c:Bool}:KP (Z4d c) (λe=>c=e):=by
 unfold Z4d;refine Zp Wb (λo _=>?_);split
 .exact Zp Yd (λ_ h=>Z0 h)
 .exact Z0 rfl
 .exact Zo
def Zyl (p:Prop) [Decidable p]:KM Unit:=bnd hear λo=>match o with
 | .k=>if p then ret () else fail
 | .obl=>obl p
 | _=>fail
theorem Zuy {p:Prop} [Decidable p]:KP (Zyl p) (λ_=>p):=by
 unfold Zyl;refine Zp Wb (λo _=>?_);split
 .exact Y1 (λh=>Z0 h) (λ_=>Zo)
 .exact Yd
 .exact Zo
def Ykk (op:BinOp) (k k':IntKind) (a b:Int):KM V:=
 match op with
 | .shl=>bnd (Zyl (0<=b)) λ_=>ret (.lit (.int k (k.wrap (a*2^min b.toNat k.bits))))
 | .shr=>bnd (Zyl (0<=b)) λ_=>ret (.lit (.int k (a.fdiv (2^min b.toNat k.bits))))
 | .quo=>if k=k' then bnd (Zyl (b≠0)) λ_=>ret (.lit (.int k (k.wrap (a.tdiv b)))) else fail
 | .rem=>if k=k' then bnd (Zyl (b≠0)) λ_=>ret (.lit (.int k (a.tmod b))) else fail
 | op=>opt (Z49 op k k' a b)
theorem Ymi {op:BinOp} {k k':IntKind} {a b:Int}:KS (Ykk op k k' a b) (Z49 op k k' a b):=by
 unfold Ykk;split
 .refine Zp Zuy (λ_ h=>Z0 ?_)
  simp only[Z49];rw[ZZi (by omega)]
 .refine Zp Zuy (λ_ h=>Z0 ?_)
  simp only[Z49];rw[ZZi (by omega)]
 .refine Y1 (λhk=>Zp Zuy (λ_ h=>Z0 ?_)) (λ_=>Zo)
  simp only[Z49];rw[ZZj hk,ZZi h]
 .refine Y1 (λhk=>Zp Zuy (λ_ h=>Z0 ?_)) (λ_=>Zo)
  simp only[Z49];rw[ZZj hk,ZZi h]
 .exact Zqz
def Ykh (op:BinOp) (a b:ByteArray):KM V:=
 match op with
 | .add=>bnd (Zyl (¬((a.size+b.size:Nat):Int) > IntKind.i64.max)) λ_=>ret (.lit (.string (a++b)))
 | op=>opt (binS op a b)
theorem Ymu {op:BinOp} {a b:ByteArray}:KS (Ykh op a b) (binS op a b):=by
 unfold Ykh;split
 .refine Zp Zuy (λ_ h=>Z0 ?_)
  simp only[binS];rw[ZZi h]
 .exact Zqz
def opK (P:Program) (M:Yp) (f:Operand->V) (s:St) (k:Nat) (o:Oper):KM (V×St):=
 match o.op with
 | .binOp op t x y yt=>match f x,f y with
  | .lit (.int k1 a),.lit (.int k2 b)=>bnd (Ykk op k1 k2 a b) λv=>ret (v,s)
  | .lit (.string a),.lit (.string b)=>bnd (Ykh op a b) λv=>ret (v,s)
  | .lit (.bool a),.lit (.bool b)=>match op,P.underlying t with
   | .eql,some .bool=>ret (.lit (.bool (a == b)),s)
   | .neq,some .bool=>ret (.lit (.bool (a != b)),s)
   | _,_=>fail
  | .agg xs,.agg ys=>if (Zbw xs).isSome=true/\(Zbw ys).isSome=true/\Z47 P t xs=true then bnd (opt (Zdk xs ys)) λb=>match op with
   | .eql=>ret (.lit (.bool b),s)
   | .neq=>ret (.lit (.bool (!b)),s)
   | _=>fail
   else fail
  | a,.lit (.slice none 0 0)=>match a with
   | .sl ..|.tr _|.vw _=>if (Wd P t).isSome=true then bnd (Zr3 s a) λrows=>bnd (obl (rows≠[])) λ_=>match op with
    | .eql=>ret (.lit (.bool false),s)
    | .neq=>ret (.lit (.bool true),s)
    | _=>fail
    else fail
   | _=>opt (Xb P M Xk f s k o)
  | _,_=>opt (Xb P M Xk f s k o)
 | .buildSlice t n parts=>bnd (opt (Wd P t)) λe=>bnd (opt (if n*Zx P e=0 then some [] else Zc8 P e)) λz=>
  if Zx P e=0\/n*Zx P e > 1048576\/Zq3 P e=false then fail else
  bnd (opt (Zrd P (λi=>some (i*Zx P e,Zx P e)) (List.replicate n z).flatten (parts.toList.map λp=>(p.1,f p.2)))) λcs=>
   bnd (Z6e (Zsd (Zx P e) n cs) s) λy=>ret (.sl (s.ep,1024*k) 0 n,y.2.2.setB (s.ep,1024*k) ⟨false,true,y.2.1,e,y.1⟩)
 | .pick c a b=>match f c with
  | .lit (.bool t)=>bnd (Z4d t) λe=>if e then ret (f a,s) else ret (f b,s)
  | _=>fail
 | .indexAddr t x ix=>bnd (opt (Wd P t)) λe=>if Zx P e=0 then fail else bnd hear λq=>match q with
  | .row n r=>if r.length=Zx P e then bnd (obl (Xq (f ix)=some n)) λ_=>match f x with
   | .sl i off len=>bnd (obl (n < len)) λ_=>match s.heap i with
    | some b=>bnd (obl (b.rows[offN off n]?=some r)) λ_=>ret (.ptr i (offN off n) 0,s)
    | none=>fail
   | .tr rows=>bnd (obl (rows[n]?=some r)) λ_=>ret (.rp true r 0,s)
   | .vw rows=>bnd (obl (rows[n]?=some r)) λ_=>ret (.rp false r 0,s)
   | _=>fail
   else fail
  | _=>fail
 | .load t a=>match f a with
  | .ptr i j n=>match s.heap i with
   | some b=>match b.box with
    | true=>opt (Xb P M Xk f s k o)
    | false=>bnd hear λq=>match q with
     | .cell row=>bnd (obl (b.rows[j]?=some row)) λ_=>if n+Zx P t<=row.length then bnd (opt (Zkc P t ((row.drop n).take (Zx P t)))) λv=>ret (v,s) else fail
     | _=>fail
   | none=>fail
  | _=>opt (Xb P M Xk f s k o)
 | .store t a x=>match f a with
  | .ptr i j n=>match s.heap i with
   | some b=>match b.box with
    | true=>opt (Xb P M Xk f s k o)
    | false=>bnd hear λq=>match q with
     | .put row R=>bnd (obl (b.rows[j]?=some row)) λ_=>bnd (opt (Zso (f x))) λcs=>if b.own=true/\cs.length=Zx P t/\n+Zx P t<=row.length/\Zx P t≠0 then
       bnd (Zwf cs s) λy=>match y.2.2.heap i with
        | some b=>bnd (obl (b.rows.set j (Jt row n y.1)=R)) λ_=>ret (.undef,y.2.2.setB i ⟨b.box,b.own,b.cl&&y.2.1,b.el,R⟩)
        | none=>fail
       else fail
     | _=>fail
   | none=>fail
  | _=>fail
 | .slice t x lo hi none=>match f x with
  | .sl id off len=>bnd hear λq=>match q with
   | .num l h n R=>bnd (opt (Wd P t)) λe=>bnd (Zr3 s (f x)) λrows=>bnd (obl (match lo with|some z=>Xq (f z)=some l|none=>l=0)) λ_=>bnd (obl (match hi with|some z=>Xq (f z)=some h|none=>rows.length=h)) λ_=>
    bnd (obl (l<=h/\h<=rows.length)) λ_=>bnd (obl (Zjw (Zx P e) rows=true)) λ_=>bnd (obl (n=h - l)) λ_=>if Zx P e≠0 then ret (.sl id (offN off l) n,s) else fail
   | _=>fail
  | .tr _|.vw _=>bnd hear λq=>match q with
   | .num l h n R=>bnd (opt (Wd P t)) λe=>bnd (Zr3 s (f x)) λrows=>bnd (obl (match lo with|some z=>Xq (f z)=some l|none=>l=0)) λ_=>bnd (obl (match hi with|some z=>Xq (f z)=some h|none=>rows.length=h)) λ_=>
    bnd (obl (l<=h/\h<=rows.length)) λ_=>bnd (obl (Zjw (Zx P e) rows=true)) λ_=>bnd (obl ((rows.drop l).take (h - l)=R)) λ_=>if Zx P e≠0 then ret ((match f x with|.tr _=>.tr R|_=>.vw R),s) else fail
   | _=>fail
  | .lit (.string b)=>match P.underlying t with
   | some .string=>bnd hear λq=>match q with
    | .val (.lit (.string c))=>bnd (obl (ssl b (lo.map f) (hi.map f)=some c)) λ_=>ret (.lit (.string c),s)
    | _=>fail
   | _=>fail
  | _=>opt (Xb P M Xk f s k o)
 | .index t x ix=>match f x with
  | .lit (.string b)=>match P.underlying t with
   | some .string=>bnd hear λq=>match q with
    | .val (.lit (.int _ m))=>bnd (obl (sidx b (f ix)=some m)) λ_=>ret (.lit (.int .u8 m),s)
    | _=>fail
   | _=>fail
  | _=>opt (Xb P M Xk f s k o)
 | .convert src dst x=>match f x with
  | .sl ..|.tr _|.vw _=>match P.underlying src,P.underlying dst with
   | some (.slice e),some .string=>match P.underlying e with
    | some (.int .u8)=>bnd (Zr3 s (f x)) λrows=>bnd hear λq=>match q with
     | .val (.lit (.string c))=>bnd (obl (strV rows=some c)) λ_=>ret (.lit (.string c),s)
     | _=>fail
    | _=>fail
   | _,_=>fail
  | _=>opt (Xb P M Xk f s k o)
 | .makeSlice t l c=>bnd hear λq=>match q with
  | .mk n R=>bnd (opt (Wd P t)) λe=>bnd (opt (Zc8 P e)) λz=>bnd (obl (Xq (f l)=some n)) λ_=>bnd (obl (Xq (f c)=some n)) λ_=>bnd (obl (n*P.bytesOf e<=70368744177664/\n<=9223372036854775807)) λ_=>
   bnd (obl (List.replicate n (z.map Zbv)=R)) λ_=>if z.length=Zx P e/\Zx P e≠0 then ret (.sl (s.ep,1024*k) 0 R.length,s.setB (s.ep,1024*k) ⟨false,true,true,e,R⟩) else fail
  | _=>fail
 | .call c=>match c.callee with
  | .value g=>match f g with
   | .fn g caps=>Yuy P M s k g (c.args.toList.map f++caps)
   | _=>fail
  | .builtin .append=>match c.args.toList,c.argTypes.toList with
   | [b,x],[t,t']=>if t=t' then appK P (M.mv o.pos) s (s.ep,1024*k) t (f b) (f x) else fail
   | _,_=>fail
  | .builtin .len=>match c.args.toList,c.argTypes.toList with
   | [x],[t]=>match f x with
    | .sl _ _ n=>bnd hear λq=>match q with
     | .num m _ _ _=>bnd (obl (n=m)) λ_=>if (Wd P t).isSome=true then ret (.lit (.int .i64 m),s) else fail
     | _=>fail
    | .tr rows|.vw rows=>bnd hear λq=>match q with
     | .num m _ _ _=>bnd (obl (rows.length=m)) λ_=>if (Wd P t).isSome=true then ret (.lit (.int .i64 m),s) else fail
     | _=>fail
    | _=>opt (Xb P M Xk f s k o)
   | _,_=>fail
  | .builtin .clear=>match c.args.toList,c.argTypes.toList with
   | [x],[t]=>bnd (opt (Wd P t)) λe=>bnd (opt (Zc8 P e)) λz=>match f x with
    | .sl i off n=>match s.heap i with
     | some b=>bnd hear λq=>match q with
      | .app R _ _ _=>if b.own=true/\b.box=false/\b.el=e/\z.length=Zx P e/\Zx P e≠0 then bnd (obl (off+n<=b.rows.length)) λ_=>
        bnd (obl (b.rows.take off++List.replicate n (z.map Zbv)++b.rows.drop (off+n)=R)) λ_=>ret (.tup [],s.setB i ⟨b.box,b.own,b.cl,b.el,R⟩) else fail
      | _=>fail
     | none=>fail
    | _=>fail
   | _,_=>fail
  | _=>opt (Xb P M Xk f s k o)
 | _=>opt (Xb P M Xk f s k o)
end
section
variable {P:Program} {M:Yp}
def Ztd (P:Program) (M:Yp) (f:Operand->V) (s:St) (k:Nat) (o:Oper) (y:V×St):Prop:=∃C,Zfg P M C/\Xb P M C f s k o=some y
theorem Zff (hP:Yk P) {f:Operand->V} {s:St} {k:Nat} {o:Oper}:KP (opt (Xb P M Xk f s k o)) (Ztd P M f s k o):=Qf.mono λy h=>⟨Xk,Xx hP,h⟩
theorem Yyi (hP:Yk P) {f:Operand->V} {s:St} {k:Nat} {d:Option Tmp} {ty t yt:TypeId} {pos:String} {af:Array Edge} {g:Option (Nat×Bool)} {op:BinOp} {x y:Operand}:KP (opK P M f s k ⟨d,.binOp op t x y yt,ty,pos,af,g⟩) (Ztd P M f s k ⟨d,.binOp op t x y yt,ty,pos,af,g⟩):=by
 have base:∀{v:V},Zke P op t x y (f x) (f y)=some v->(∃a b,f x=.lit a/\f y=.lit b)->Xb P M Xk f s k ⟨d,.binOp op t x y yt,ty,pos,af,g⟩=some (v,s):=λ{v} h ⟨a,b,h1,h2⟩=>by
  have e:Xd P f ⟨d,.binOp op t x y yt,ty,pos,af,g⟩=some v:=by rw[Ykx];exact h
  simp only[Xb,h1,h2,e,Var]
 have base2:∀{v:V},Zke P op t x y (f x) (f y)=some v->(∃a b,f x=.agg a/\f y=.agg b)->Xb P M Xk f s k ⟨d,.binOp op t x y yt,ty,pos,af,g⟩=some (v,s):=λ{v} h ⟨a,b,h1,h2⟩=>by
  have e:Xd P f ⟨d,.binOp op t x y yt,ty,pos,af,g⟩=some v:=by rw[Ykx];exact h
  simp only[Xb,h1,h2,e,Var]
 simp only[opK];split
 .rename_i k1 a k2 b h1 h2
  refine Zp Ymi (λv hv=>Z0 ⟨Xk,Xx hP,base ?_ ⟨_,_,h1,h2⟩⟩);rw[h1,h2,Ylf];exact hv
 .rename_i a b h1 h2
  refine Zp Ymu (λv hv=>Z0 ⟨Xk,Xx hP,base ?_ ⟨_,_,h1,h2⟩⟩);rw[h1,h2,Ym3];exact hv
 .rename_i a b h1 h2
  split
  .rename_i h3
   refine Z0 ⟨Xk,Xx hP,base ?_ ⟨_,_,h1,h2⟩⟩;rw[h1,h2,Ylq h3]
  .rename_i h3
   refine Z0 ⟨Xk,Xx hP,base ?_ ⟨_,_,h1,h2⟩⟩;rw[h1,h2,Ylj h3]
  .exact Zo
 .rename_i xs ys h1 h2
  refine Y1 (λhc=>Zp Qf (λb hb=>?_)) (λ_=>Zo);split
  .exact Z0 ⟨Xk,Xx hP,base2 (by rw[h1,h2,Yyf hc.1 hc.2.1 hc.2.2 hb]) ⟨_,_,h1,h2⟩⟩
  .exact Z0 ⟨Xk,Xx hP,base2 (by rw[h1,h2,Yye hc.1 hc.2.1 hc.2.2 hb]) ⟨_,_,h1,h2⟩⟩
  .exact Zo
 .rename_i hy
  split
  all_goals first
   | exact Zff hP
   | (
     rename_i hx;refine Y1 (λhe=>Zp Zgn (λrows hr=>Zp Yd (λ_ hn=>?_))) (λ_=>Zo);obtain⟨r,l,rfl⟩:=List.exists_cons_of_ne_nil hn;have hf:¬(Wd P t).isSome=false:=by rw[he];decide
     split
     .exact Z0 ⟨Xk,Xx hP,by simp only[Xb,hx,hy];rw[ZZi hf];rw[hx] at hr;rw[hr]⟩
     .exact Z0 ⟨Xk,Xx hP,by simp only[Xb,hx,hy];rw[ZZi hf];rw[hx] at hr;rw[hr]⟩
     .exact Zo)
 .exact Zff hP
theorem Ygp (hP:Yk P) {f:Operand->V} {s:St} {k:Nat} {d:Option Tmp} {ty t:TypeId} {pos:String} {af:Array Edge} {g:Option (Nat×Bool)} {n:Nat} {parts:Array (Nat×Operand)}:KP (opK P M f s k ⟨d,.buildSlice t n parts,ty,pos,af,g⟩) (Ztd P M f s k ⟨d,.buildSlice t n parts,ty,pos,af,g⟩):=by
 simp only[opK];refine Zp Qf (λe he=>Zp Qf (λz hz=>Y1 (λ_=>Zo) (λhc=>Zp Qf (λcs Kj=>Zp Yll (λy hy=>Z0 ⟨Xk,Xx hP,?_⟩)))));simp only[Xb,he,ZZa,hz];rw[ZZi hc,Kj,ZZa,hy];rfl
theorem Yzj (hP:Yk P) {f:Operand->V} {s:St} {k:Nat} {d:Option Tmp} {ty:TypeId} {pos:String} {af:Array Edge} {g:Option (Nat×Bool)} {c a b:Operand}:KP (opK P M f s k ⟨d,.pick c a b,ty,pos,af,g⟩) (Ztd P M f s k ⟨d,.pick c a b,ty,pos,af,g⟩):=by
 simp only[opK];split
 .rename_i t hc
  refine Zp Zyj (λe he=>?_);subst he;cases t with
  | true=>exact Z0 ⟨Xk,Xx hP,by simp only[Xb,hc,if_true]⟩
  | false=>exact Z0 ⟨Xk,Xx hP,by simp only[Xb,hc,ZZf,if_false]⟩
 .exact Zo
theorem Yjv (hP:Yk P) {f:Operand->V} {s:St} {k:Nat} {d:Option Tmp} {ty t:TypeId} {pos:String} {af:Array Edge} {g:Option (Nat×Bool)} {x ix:Operand}:KP (opK P M f s k ⟨d,.indexAddr t x ix,ty,pos,af,g⟩) (Ztd P M f s k ⟨d,.indexAddr t x ix,ty,pos,af,g⟩):=by
 simp only[opK];refine Zp Qf (λe he=>Y1 (λ_=>Zo) (λhz=>Zp Wb (λo _=>?_)));split
 .rename_i n r
  refine Y1 (λhr=>Zp Yd (λ_ hn=>?_)) (λ_=>Zo);split
  .rename_i i off len hx
   refine Zp Yd (λ_ Z5=>?_);split
   .rename_i b hb
    refine Zp Yd (λ_ Yx=>Z0 ⟨Xk,Xx hP,?_⟩);rw[Ysh] at Yx ⊢;simp only[Xb,he,ZZa,hz,if_false,hn,hx,Z5,if_true,hb,Yx,hr]
   .exact Zo
  .rename_i rows hx
   refine Zp Yd (λ_ Yx=>Z0 ⟨Xk,Xx hP,?_⟩);simp only[Xb,he,ZZa,hz,if_false,hn,hx,if_true,Yx,hr]
  .rename_i rows hx
   refine Zp Yd (λ_ Yx=>Z0 ⟨Xk,Xx hP,?_⟩);simp only[Xb,he,ZZa,hz,if_false,hn,hx,if_true,Yx,hr]
  .exact Zo
 .exact Zo
theorem Yzk (hP:Yk P) {f:Operand->V} {s:St} {k:Nat} {d:Option Tmp} {ty t:TypeId} {pos:String} {af:Array Edge} {g:Option (Nat×Bool)} {a:Operand}:KP (opK P M f s k ⟨d,.load t a,ty,pos,af,g⟩) (Ztd P M f s k ⟨d,.load t a,ty,pos,af,g⟩):=by
 simp only[opK];split
 .rename_i i j n ha
  split
  .rename_i b hb
   split
   .exact Zff hP
   .refine Zp Wb (λo _=>?_)
    split
    .rename_i row
     refine Zp Yd (λ_ Yx=>Y1 (λhl=>Zp Qf (λv hv=>Z0 ⟨Xk,Xx hP,?_⟩)) (λ_=>Zo));simp only[Xb,ha,hb,ZZa,Yx,hl,if_true,hv,Var]
    .exact Zo
  .exact Zo
 .exact Zff hP
theorem Yyo (hP:Yk P) {f:Operand->V} {s:St} {k:Nat} {d:Option Tmp} {ty t:TypeId} {pos:String} {af:Array Edge} {g:Option (Nat×Bool)} {a x:Operand}:KP (opK P M f s k ⟨d,.store t a x,ty,pos,af,g⟩) (Ztd P M f s k ⟨d,.store t a x,ty,pos,af,g⟩):=by
 simp only[opK];split
 .rename_i i j n ha
  split
  .rename_i b hb
   split
   .exact Zff hP
   .rename_i hbx
    refine Zp Wb (λo _=>?_);split
    .rename_i row R
     refine Zp Yd (λ_ Yx=>Zp Qf (λcs Kj=>Y1 (λhc=>Zp Ymg (λy hy=>?_)) (λ_=>Zo)));split
     .rename_i b2 hb2
      refine Zp Yd (λ_ hR=>Z0 ⟨Xk,Xx hP,?_⟩);have hc':b.own=true/\cs.length=Zx P t/\n+Zx P t<=row.length/\Zx P t≠0:=hc;simp only[Xb,ha,hb,ZZa,Yx,Kj];rw[ZZj hc',hbx];simp only[ZZf,if_false,hy,ZZa,hb2,hR]
     .exact Zo
    .exact Zo
  .exact Zo
 .exact Zo
def Yl7 (x:V) (l h:Nat):Option V:=match x with
 | .sl id off _=>some (.sl id (off+l) (h - l))
 | .tr rows=>some (.tr ((rows.drop l).take (h - l)))
 | .vw rows=>some (.vw ((rows.drop l).take (h - l)))
 | _=>none
theorem Z33 {s:St} {t e:TypeId} {x:V} {rows:List (List V)} {lo hi:Option Operand} {f:Operand->V} {l h:Nat} (he:Wd P t=some e) (hr:s.rowsOf x=some rows) (hl:match lo with|some z=>Xq (f z)=some l|none=>l=0) (hh:match hi with|some z=>Xq (f z)=some h|none=>rows.length=h)
  (h1:l<=h/\h<=rows.length) (h2:Zjw (Zx P e) rows=true) (h3:Zx P e≠0):Zqd P s t x (lo.map f) (hi.map f)=Yl7 x l h:=by
 have key:∀(a b:Option Nat),a=some l->b=some h->(a.bind λl=>b.bind λh=>if l<=h/\h<=rows.length/\Zjw (Zx P e) rows=true/\Zx P e≠0 then Yl7 x l h else none)=Yl7 x l h:=by
  rintro _ _ rfl rfl;simp only[ZZa];rw[ZZj ⟨h1.1,h1.2,h2,h3⟩]
 unfold Zqd;rw[he,ZZa,hr,ZZa];refine key _ _ ?_ ?_
 .cases lo with
  | none=>simp only at hl;rw[hl];rfl
  | some z=>exact hl
 .cases hi with
  | none=>simp only at hh;rw[<-hh];rfl
  | some z=>exact hh
theorem Yxa (hP:Yk P) {f:Operand->V} {s:St} {k:Nat} {d:Option Tmp} {ty t:TypeId} {pos:String} {af:Array Edge} {g:Option (Nat×Bool)} {x:Operand} {lo hi mx:Option Operand}:KP (opK P M f s k ⟨d,.slice t x lo hi mx,ty,pos,af,g⟩) (Ztd P M f s k ⟨d,.slice t x lo hi mx,ty,pos,af,g⟩):=by
 cases mx with
 | some m=>exact Zff hP
 | none=>
  simp only[opK];split
  .rename_i id off len hx
   refine Zp Wb (λo _=>?_);split
   .rename_i l h n R
    refine Zp Qf (λe he=>Zp Zgn (λrows hr=>Zp Yd (λ_ hl=>Zp Yd (λ_ hh=>Zp Yd (λ_ h1=>Zp Yd (λ_ h2=>Zp Yd (λ_ h4=>Y1 (λh3=>Z0 ⟨Xk,Xx hP,?_⟩) (λ_=>Zo))))))));simp only[Xb,Z33 he hr hl hh h1 h2 h3];rw[hx,h4,Ysh];rfl
   .exact Zo
  .rename_i rws hx
   refine Zp Wb (λo _=>?_);split
   .rename_i l h n R
    refine Zp Qf (λe he=>Zp Zgn (λrows hr=>Zp Yd (λ_ hl=>Zp Yd (λ_ hh=>Zp Yd (λ_ h1=>Zp Yd (λ_ h2=>Zp Yd (λ_ h4=>Y1 (λh3=>Z0 ⟨Xk,Xx hP,?_⟩) (λ_=>Zo))))))));simp only[Xb,Z33 he hr hl hh h1 h2 h3];rw[hx] at hr ⊢;have:rws=rows:=by simpa [St.rowsOf] using hr
    rw[<-h4,<-this];rfl
   .exact Zo
  .rename_i rws hx
   refine Zp Wb (λo _=>?_);split
   .rename_i l h n R
    refine Zp Qf (λe he=>Zp Zgn (λrows hr=>Zp Yd (λ_ hl=>Zp Yd (λ_ hh=>Zp Yd (λ_ h1=>Zp Yd (λ_ h2=>Zp Yd (λ_ h4=>Y1 (λh3=>Z0 ⟨Xk,Xx hP,?_⟩) (λ_=>Zo))))))));simp only[Xb,Z33 he hr hl hh h1 h2 h3];rw[hx] at hr ⊢;have:rws=rows:=by simpa [St.rowsOf] using hr
    rw[<-h4,<-this];rfl
   .exact Zo
  .rename_i b hx
   split
   .rename_i ht
    refine Zp Wb (λq _=>?_);split
    .rename_i c
     refine Zp Yd (λ_ hc=>Z0 ⟨Xk,Xx hP,?_⟩);simp only[Xb,hx,Ywj ht hx hc,Var]
    .exact Zo
   .exact Zo
  .exact Zff hP
theorem Yw1 (hP:Yk P) {f:Operand->V} {s:St} {k:Nat} {d:Option Tmp} {ty t:TypeId} {pos:String} {af:Array Edge} {g:Option (Nat×Bool)} {x ix:Operand}:KP (opK P M f s k ⟨d,.index t x ix,ty,pos,af,g⟩) (Ztd P M f s k ⟨d,.index t x ix,ty,pos,af,g⟩):=by
 simp only[opK];split
 .rename_i b hx
  split
  .rename_i ht
   refine Zp Wb (λq _=>?_);split
   .rename_i k' m
    refine Zp Yd (λ_ hm=>Z0 ⟨Xk,Xx hP,?_⟩);simp only[Xb,Y0g ht hx hm,Var]
   .exact Zo
  .exact Zo
 .exact Zff hP
theorem Ypo (hP:Yk P) {f:Operand->V} {s:St} {k:Nat} {d:Option Tmp} {ty src dst:TypeId} {pos:String} {af:Array Edge} {g:Option (Nat×Bool)} {x:Operand}:KP (opK P M f s k ⟨d,.convert src dst x,ty,pos,af,g⟩) (Ztd P M f s k ⟨d,.convert src dst x,ty,pos,af,g⟩):=by
 simp only[opK];split
 all_goals first
  | exact Zff hP
  | (
    rename_i hx;split
    .rename_i e h1 h2
     split
     .rename_i h3
      refine Zp Zgn (λrows hr=>Zp Wb (λq _=>?_));split
      .rename_i c
       refine Zp Yd (λ_ hc=>Z0 ⟨Xk,Xx hP,?_⟩);unfold strV at hc;obtain⟨bs,hb,hc⟩:=ZZc.1 hc;rw[hx] at hr;simp only[Xb,hx,h1,h2,h3,hr,hb,ZZa,Var,hc]
      .exact Zo
     .exact Zo
    .exact Zo)
theorem Yj2 (hP:Yk P) {f:Operand->V} {s:St} {k:Nat} {d:Option Tmp} {ty t:TypeId} {pos:String} {af:Array Edge} {g:Option (Nat×Bool)} {l c:Operand}:KP (opK P M f s k ⟨d,.makeSlice t l c,ty,pos,af,g⟩) (Ztd P M f s k ⟨d,.makeSlice t l c,ty,pos,af,g⟩):=by
 simp only[opK];refine Zp Wb (λo _=>?_);split
 .rename_i n R
  refine Zp Qf (λe he=>Zp Qf (λz hz=>Zp Yd (λ_ hl=>Zp Yd (λ_ hc=>Zp Yd (λ_ h1=>Zp Yd (λ_ hR=>Y1 (λh2=>Z0 ⟨Xk,Xx hP,?_⟩) (λ_=>Zo)))))));simp only[Xb,he,hz,ZZa,hl,hc];rw[ZZj ⟨by trivial,h1.1,h1.2,h2.1,h2.2⟩,hR,<-hR,Vcw]
 .exact Zo
theorem Yzr (hP:Yk P) {f:Operand->V} {s:St} {k:Nat} {d:Option Tmp} {ty:TypeId} {pos:String} {af:Array Edge} {g:Option (Nat×Bool)} {c:Call}:KP (opK P M f s k ⟨d,.call c,ty,pos,af,g⟩) (Ztd P M f s k ⟨d,.call c,ty,pos,af,g⟩):=by
 simp only[opK];split
 .rename_i x hc
  split
  .rename_i h caps hx
   refine (Yz2 hP).mono λy ⟨C,h1,h2⟩=>⟨C,h1,?_⟩;simp only[Xb,hc,hx,h2]
  .exact Zo
 .rename_i hc
  split
  .rename_i b x t t' ha ht
   refine Y1 (λhe=>Y1x.kp.mono λy hy=>⟨Xk,Xx hP,?_⟩) (λ_=>Zo);simp only[Xb,hc,ha,ht,he,if_true];rw[<-he];exact hy
  .exact Zo
 .rename_i hc
  split
  .rename_i x t ha ht
   split
   .rename_i i off n hx
    refine Zp Wb (λo _=>?_);split
    .refine Zp Yd (λ_ hn=>Y1 (λhe=>Z0 ⟨Xk,Xx hP,?_⟩) (λ_=>Zo))
     simp only[Xb,hc,ha,ht,hx,he,if_true,hn]
    .exact Zo
   .rename_i rows hx
    refine Zp Wb (λo _=>?_);split
    .refine Zp Yd (λ_ hn=>Y1 (λhe=>Z0 ⟨Xk,Xx hP,?_⟩) (λ_=>Zo))
     simp only[Xb,hc,ha,ht,hx,he,if_true,hn]
    .exact Zo
   .rename_i rows hx
    refine Zp Wb (λo _=>?_);split
    .refine Zp Yd (λ_ hn=>Y1 (λhe=>Z0 ⟨Xk,Xx hP,?_⟩) (λ_=>Zo))
     simp only[Xb,hc,ha,ht,hx,he,if_true,hn]
    .exact Zo
   .exact Zff hP
  .exact Zo
 .rename_i hc
  split
  .rename_i x t ha ht
   refine Zp Qf (λe he=>Zp Qf (λz hz=>?_));split
   .rename_i i off n hx
    split
    .rename_i b hb
     refine Zp Wb (λo _=>?_);split
     .refine Y1 (λh=>Zp Yd (λ_ h1=>Zp Yd (λ_ h2=>Z0 ⟨Xk,Xx hP,?_⟩))) (λ_=>Zo)
      simp only[Xb,hc,ha,ht,hx,he,hz,hb,ZZa];rw[ZZj ⟨h.1,h.2.1,h1,h.2.2.1,h.2.2.2.1,h.2.2.2.2⟩,h2]
     .exact Zo
    .exact Zo
   .exact Zo
  .exact Zo
 .exact Zff hP
theorem Yxe (hP:Yk P) {f:Operand->V} {s:St} {k:Nat} {o:Oper}:KP (opK P M f s k o) (Ztd P M f s k o):=by
 obtain⟨d,op,ty,pos,af,g⟩:=o;cases op with
 | binOp op t x y yt=>exact Yyi hP
 | pick c a b=>exact Yzj hP
 | buildSlice t n parts=>exact Ygp hP
 | indexAddr t x ix=>exact Yjv hP
 | load t a=>exact Yzk hP
 | store t a x=>exact Yyo hP
 | slice t x lo hi mx=>exact Yxa hP
 | makeSlice t l c=>exact Yj2 hP
 | index t x ix=>exact Yw1 hP
 | convert src dst x=>exact Ypo hP
 | call c=>exact Yzr hP
 | _=>simp only[opK];exact Zff hP
def Yd7 (s:St) (ops:Array Oper) (o:Oper):KM (Bool×St):=
 match o.guard with
 | none=>ret (true,s)
 | some (j,b)=>match (ops[j]?).bind (·.dst) with
  | some d=>match s.env d with
   | .lit (.bool c)=>bnd hear λo=>match o with
    | .t e=>bnd (obl (c=e)) λ_=>ret (e == b,⟨upd s.env d (.lit (.bool e)),s.heap,s.ep⟩)
    | .k=>ret (c == b,s)
    | _=>fail
   | .tup []=>ret (false,s)
   | _=>fail
  | none=>fail
theorem Yip {s:St} {ops:Array Oper} {o:Oper}:KP (Yd7 s ops o) (λy=>wanted s ops o=some y.1/\y.2=s):=by
 unfold Yd7 wanted;cases o.guard with
 | none=>exact Z0 ⟨rfl,rfl⟩
 | some p=>
  obtain⟨j,b⟩:=p;simp only;cases hd:(ops[j]?).bind (·.dst) with
  | none=>exact Zo
  | some d=>
   simp only[Var];cases he:s.env d with
   | lit v=>cases v with
    | bool c=>
     refine Zp Wb (λq _=>?_);cases q with
     | t e=>
      refine Zp Yd (λ_ hc=>Z0 ⟨by subst hc;rfl,?_⟩);have:upd s.env d (.lit (.bool e))=s.env:=by
       funext t
       unfold upd;split
       .rename_i h;rw[h,he,hc]
       .rfl
      rw[this]
     | k=>exact Z0 ⟨rfl,rfl⟩
     | _=>exact Zo
    | _=>exact Zo
   | tup l=>cases l with
    | nil=>exact Z0 ⟨rfl,rfl⟩
    | cons x l=>exact Zo
   | _=>exact Zo
def opsK (P:Program) (M:Yp) (ops:Array Oper):(k:Nat)->List Oper->(s:St)->KM St
 | _,[],s=>ret s
 | k,o::rest,s=>bnd (Yd7 s ops o) λg=>if g.1 then bnd (opK P M g.2.opV g.2 k o) λy=>opsK P M ops (k+1) rest (y.2.put o.dst y.1) else opsK P M ops (k+1) rest (g.2.put o.dst (.tup []))
theorem Yqu {C C':Nat->Qo} {ops:Array Oper}:∀(l:List Oper) {k:Nat} {s:St},(∀j,k<=j->C j=C' j)->Zg6 P M C ops s k l=Zg6 P M C' ops s k l:=by
 intro l
 induction l with
 | nil=>intros;rfl
 | cons o l ih=>
  intro k s h;simp only[Zg6,h k (Vaw _)];simp only[λs=>ih (k:=k+1) (s:=s) (λj hj=>h j (by omega))]
theorem Ymt {C C':Nat->Qo} {ops:Array Oper}:∀(l:List Oper) {k:Nat} {s:St} {recs:List Rec},(∀j,k<=j->C j=C' j)->Zc1 P M C ops s recs k l=Zc1 P M C' ops s recs k l:=by
 intro l
 induction l with
 | nil=>intros;rfl
 | cons o l ih=>
  intro k s recs h;simp only[Zc1,h k (Vaw _)];simp only[λs recs=>ih (k:=k+1) (s:=s) (recs:=recs) (λj hj=>h j (by omega))]
def Z64 (C:Nat->Qo) (k:Nat) (D:Qo):Nat->Qo:=λj=>if j=k then D else C j
theorem Y1q (hP:Yk P) {ops:Array Oper}:∀(l:List Oper) {k:Nat} {s:St},KP (opsK P M ops k l s) (λs'=>∃C:Nat->Qo,(∀j,Zfg P M (C j))/\Zg6 P M C ops s k l=some s'):=by
 intro l
 induction l with
 | nil=>intro k s;exact Z0 ⟨λ_=>Xk,λ_=>Xx hP,rfl⟩
 | cons o l ih=>
  intro k s;simp only[opsK,Zg6];refine Zp Yip (λg hg=>?_);obtain⟨g,s0⟩:=g;obtain⟨hg,hs0⟩:=hg;simp only at hg hs0;subst hs0;cases g with
  | true=>
   simp only[if_true];refine Zp (Yxe hP) (λy hy=>ih.mono λs' ⟨C,h1,h2⟩=>?_);obtain⟨D,d1,d2⟩:=hy;refine⟨Z64 C k D,λj=>?_,?_⟩
   .unfold Z64;split
    .exact d1
    .exact h1 j
   .rw[hg]
    simp only[ZZa,if_true,Z64];unfold Zyp;rw[d2,ZZa,<-h2];exact Yqu l (λj hj=>by simp only[Z64];rw[ZZi (by omega)])
  | false=>
   simp only[ZZf,if_false];refine ih.mono λs' ⟨C,h1,h2⟩=>⟨C,h1,?_⟩;rw[hg];exact h2
def Yfk (P:Program) (M:Yp) (ops:Array Oper):(recs:List Rec)->(k:Nat)->List Oper->(s:St)->KM St
 | _,_,[],s=>ret s
 | recs,k,o::rest,s=>bnd (Yd7 s ops o) λg=>if g.1 then (if Zob ops g.2.ep recs (Zuk recs o) k o (touch g.2 o) (Zmu M g.2.opV o)=true then
   bnd (opK P M g.2.opV (g.2.only (touch g.2 o)) k o) λy=>Yfk P M ops (recs++[⟨Zuk recs o,touch g.2 o,Zmu M g.2.opV o⟩]) (k+1) rest ((g.2.merge k (touch g.2 o) (Zmu M g.2.opV o) y.2).put o.dst y.1) else fail)
  else if Zob ops g.2.ep recs (Zuk recs o) k o [] false=true then Yfk P M ops (recs++[⟨Zuk recs o,[],false⟩]) (k+1) rest (g.2.put o.dst (.tup [])) else fail
theorem Y0j (hP:Yk P) {ops:Array Oper}:∀(l:List Oper) {k:Nat} {s:St} {recs:List Rec},KP (Yfk P M ops recs k l s) (λs'=>∃C:Nat->Qo,(∀j,Zfg P M (C j))/\Zc1 P M C ops s recs k l=some s'):=by
 intro l
 induction l with
 | nil=>intro k s recs;exact Z0 ⟨λ_=>Xk,λ_=>Xx hP,rfl⟩
 | cons o l ih=>
  intro k s recs;simp only[Yfk,Zc1];refine Zp Yip (λg hg=>?_);obtain⟨g,s0⟩:=g;obtain⟨hg,hs0⟩:=hg;simp only at hg hs0;subst hs0;cases g with
  | true=>
   simp only[if_true];refine Y1 (λha=>Zp (Yxe hP) (λy hy=>ih.mono λs' ⟨C,h1,h2⟩=>?_)) (λ_=>Zo);obtain⟨D,d1,d2⟩:=hy;refine⟨Z64 C k D,λj=>?_,?_⟩
   .unfold Z64;split
    .exact d1
    .exact h1 j
   .rw[hg]
    simp only[ZZa,if_true,Z64,ha];rw[d2,ZZa,<-h2];exact Ymt l (λj hj=>by simp only[Z64];rw[ZZi (by omega)])
  | false=>
   simp only[ZZf,if_false];refine Y1 (λha=>ih.mono λs' ⟨C,h1,h2⟩=>⟨C,h1,?_⟩) (λ_=>Zo);rw[hg];simp only[ZZa,ZZf,if_false,ha,if_true];exact h2
end
inductive It where
 | c (x:Code)
 | blk (i:Nat)
def SX (P:Program) (R:Ex->St->Prop):List It->Ex->St->Prop
 | [],e,s=>R e s
 | .c x::k,.normal,s=>Cx P x s (λe s=>SX P R k e s)
 | .c x::k,.ret,s=>SX P R k .ret s
 | .c x::k,.exit j,s=>SX P R k (.exit j) s
 | .blk i::k,.exit j,s=>if j=i then SX P R k .normal s else SX P R k (.exit j) s
 | .blk i::k,.normal,s=>SX P R k .normal s
 | .blk i::k,.ret,s=>SX P R k .ret s
structure Res where
 stk:List It
 ex:Ex
 st:St
def Zgt (P:Program) (M:Yp):(n:Nat)->List It->Ex->(s:St)->KM Res
 | 0,stk,ex,s=>ret ⟨stk,ex,s⟩
 | n+1,stk,ex,s=>match stk with
  | []=>ret ⟨[],ex,s⟩
  | .blk i::k=>match ex with
   | .exit j=>if j=i then Zgt P M n k .normal s else Zgt P M n k (.exit j) s
   | .normal=>Zgt P M n k .normal s
   | .ret=>Zgt P M n k .ret s
  | .c x::k=>match ex with
   | .ret=>Zgt P M n k .ret s
   | .exit j=>Zgt P M n k (.exit j) s
   | .normal=>match x with
    | .skip=>Zgt P M n k .normal s
    | .ret=>Zgt P M n k .ret s
    | .exit i=>Zgt P M n k (.exit i) s
    | .seq a b=>Zgt P M n (.c a::.c b::k) .normal s
    | .cond c a b=>match s.opV c with
     | .lit (.bool t)=>bnd (Z4d t) λe=>if e then Zgt P M n (.c a::k) .normal s else Zgt P M n (.c b::k) .normal s
     | _=>fail
    | .block i c=>Zgt P M n (.c c::.blk i::k) .normal s
    | .loop c=>Zgt P M n (.c c::.c (.loop c)::k) .normal s
    | .region _ ops d=>match d with
     | false=>bnd (opsK P M ops 0 ops.toList ⟨s.env,s.heap,s.ep+1⟩) λs'=>Zgt P M n k .normal s'
     | true=>if Region.noSelect ops=true then bnd (Yfk P M ops [] 0 ops.toList ⟨s.env,s.heap,s.ep+1⟩) λs'=>Zgt P M n k .normal s' else fail
    | _=>fail
section
variable {P:Program} {M:Yp} {R:Ex->St->Prop}
theorem Y12 (M:Yp) (hP:Yk P) {k:List It} {S:St} {i:Nat} {d0 d1:Tmp} {x0 y:Operand} {t yt e ty0 ty1:TypeId} {p0 p1:String} {af0 af1:Array Edge} (Wx:Wd P t=some e) (hx:S.opV x0=.tr []) (hy:(({S with ep:=S.ep+1}:St).put (some d0) (.tr [])).opV y=.lit (.slice none 0 0))
  (h:∀b,SX P R k .normal ((({S with ep:=S.ep+1}:St).put (some d0) (.tr [])).put (some d1) (.lit (.bool b)))):
  SX P R (.c (.region i #[⟨some d0,.move x0,ty0,p0,af0,none⟩,⟨some d1,.binOp .eql t (.tmp d0) y yt,ty1,p1,af1,none⟩] false)::k) .normal S:=
 Y2o M hP (R:=λe s=>SX P R k e s) Wx hx hy h
def Yxf:List It->Option (Operand×Tmp×Tmp×TypeId×Operand×List It)
 | .c (.region _ ops false)::k=>match ops.toList with
  | [⟨some d0,.move x0,_,_,_,none⟩,⟨some d1,.binOp .eql t (.tmp d) y _,_,_,_,none⟩]=>if d=d0 then some (x0,d0,d1,t,y,k) else none
  | _=>none
 | _=>none
theorem Z4x (M:Yp) (hP:Yk P) {stk k:List It} {S:St} {d0 d1:Tmp} {x0 y:Operand} {t e:TypeId} (hs:Yxf stk=some (x0,d0,d1,t,y,k)) (Wx:Wd P t=some e) (hx:S.opV x0=.tr []) (hy:(({S with ep:=S.ep+1}:St).put (some d0) (.tr [])).opV y=.lit (.slice none 0 0))
  (h:∀b,SX P R k .normal ((({S with ep:=S.ep+1}:St).put (some d0) (.tr [])).put (some d1) (.lit (.bool b)))):SX P R stk .normal S:=by
 unfold Yxf at hs;split at hs
 .rename_i i ops k'
  split at hs
  .rename_i c0 z0 ty0 p0 af0 c1 u d z yt ty1 p1 af1 hl
   split at hs
   .rename_i hd
    simp only[ZZd,ZZe] at hs;obtain⟨rfl,rfl,rfl,rfl,rfl,rfl⟩:=hs;subst hd;obtain rfl:ops=#[⟨some d,.move z0,ty0,p0,af0,none⟩,⟨some c1,.binOp .eql u (.tmp d) z yt,ty1,p1,af1,none⟩]:=by
     apply Array.toList_inj.1;rw[hl]
    exact Y12 M hP Wx hx hy h
   .cases hs
  .cases hs
 .cases hs
theorem Y22 (hP:Yk P):∀(n:Nat) {stk:List It} {ex:Ex} {s:St},KP (Zgt P M n stk ex s) (λr=>SX P R r.stk r.ex r.st->SX P R stk ex s):=by
 intro n
 induction n with
 | zero=>intro stk ex s;exact Z0 id
 | succ n ih=>
  intro stk ex s;simp only[Zgt];split
  .exact Z0 id
  .rename_i i k
   split
   .rename_i j
    refine Y1 (λhj=>ih.mono λr hr h=>?_) (λhj=>ih.mono λr hr h=>?_)
    .simp only[SX];rw[ZZj hj];exact hr h
    .simp only[SX];rw[ZZi hj];exact hr h
   .exact ih.mono λr hr h=>hr h
   .exact ih.mono λr hr h=>hr h
  .rename_i x k
   split
   .exact ih.mono λr hr h=>hr h
   .exact ih.mono λr hr h=>hr h
   .split
    .exact ih.mono λr hr h=>Y11 (hr h)
    .exact ih.mono λr hr h=>Cx_ret (hr h)
    .exact ih.mono λr hr h=>Y2t (hr h)
    .refine ih.mono λr hr h=>Cx_seq (Ygh (hr h) λe s h=>?_)
     cases e<;>exact h
    .rename_i c a b
     split
     .rename_i t hc
      refine Zp Zyj (λe he=>?_);subst he;cases t with
      | true=>exact ih.mono λr hr h=>Ysx hc (hr h)
      | false=>exact ih.mono λr hr h=>Ysx hc (hr h)
     .exact Zo
    .rename_i i c
     refine ih.mono λr hr h=>Yy5 (Ygh (hr h) λe s h=>?_);cases e<;>exact h
    .rename_i c
     refine ih.mono λr hr h=>Y3k (Ygh (hr h) λe s h=>?_);cases e<;>exact h
    .rename_i i ops d
     split
     .refine Zp (Y1q hP _) (λs' hs=>ih.mono λr hr h=>?_)
      obtain⟨C,h1,h2⟩:=hs;exact Cx_ops hP C h1 h2 (hr h)
     .refine Y1 (λhn=>Zp (Y0j hP _) (λs' hs=>ih.mono λr hr h=>?_)) (λ_=>Zo)
      obtain⟨C,h1,h2⟩:=hs;exact Y23 hP C h1 hn h2 (hr h)
    .exact Zo
theorem Ylv (hP:Yk P) (n:Nat) {stk:List It} {ex:Ex} {s:St}:KP (Zgt P M n stk ex s) (λr=>∀R,SX P R r.stk r.ex r.st->SX P R stk ex s):=λq a obs q' e ho R=>Y22 hP n q a obs q' e ho
def endK (P:Program) (M:Yp) (f:FuncId) (fn:Func) (xs:List V) (r:Res):KM (V×List V):=match r.stk with
 | []=>match r.ex with
  | .exit _=>fail
  | .normal=>retK P M f fn xs r.st
  | .ret=>retK P M f fn xs r.st
 | _=>fail
def runK (P:Program) (M:Yp) (f:FuncId) (fn:Func) (xs:List V) (n:Nat) (stk:List It) (s:St):KM (V×List V):=
 bnd (Zgt P M n stk .normal s) (endK P M f fn xs)
theorem Y3e (hP:Yk P) {f:FuncId} {fn:Func} {xs:List V} {n:Nat} {stk:List It} {s:St}:KP (runK P M f fn xs n stk s) (λy=>SX P (Ycn P M f fn xs y) stk .normal s):=by
 refine Zp (Ylv hP n) (λr hr=>?_);obtain⟨st,ex,s1⟩:=r;unfold endK;cases st with
 | cons x l=>exact Zo
 | nil=>cases ex with
  | exit i=>exact Zo
  | normal=>exact Yso.kp.mono λy hy=>hr _ ⟨trivial,hy⟩
  | ret=>exact Yso.kp.mono λy hy=>hr _ ⟨trivial,hy⟩
def Z6k {α:Type} (x:Option (α×List Prop×List O)):Option (Prop×α):=match x with|some (a,obs,[])=>some (All obs,a)|_=>none
theorem Ysn {α:Type} {x:KM α} {q:List O} {Q:α->Prop} {p:Prop} {a:α} (h:KP x Q) (e:Z6k (x q)=some (p,a)) (hp:p):Q a:=by
 unfold Z6k at e;split at e
 .rename_i b obs hx
  injection e with e;injection e with e1 e2;subst e2;exact h q _ _ _ hx (by rw[e1];exact hp)
 .cases e
theorem Yr3 (hP:Yk P) {f:FuncId} {fn:Func} {xs:List V} {y:V×List V} {stk:List It} {s:St} {p:Prop} (n:Nat) (q:List O) (hp:p) (e:Z6k (runK P M f fn xs n stk s q)=some (p,y)):SX P (Ycn P M f fn xs y) stk .normal s:=
 Ysn (x:=runK P M f fn xs n stk s) (Q:=λy=>SX P (Ycn P M f fn xs y) stk .normal s) (Y3e hP) e hp
def Zjq (f:List (Id×Id)):V->V
 | .ptr id i off=>match Zbs f id with|some id'=>.ptr id' i off|none=>.undef
 | .sl id off len=>match Zbs f id with|some id'=>.sl id' off len|none=>(match off,len with|0,0=>.lit (.slice none 0 0)|_,_=>.undef)
 | .lit v=>.lit v
 | .tr rows=>.tr rows
 | .vw rows=>.vw rows
 | .rp sh row off=>.rp sh row off
 | _=>.undef
def renV (f:List (Id×Id)):V->V
 | .agg xs=>.agg (xs.map (Zjq f))
 | .tup xs=>.tup (xs.map (Zjq f))
 | .fn g xs=>.fn g (xs.map (Zjq f))
 | x=>Zjq f x
theorem Ygn {f:List (Id×Id)} {x:V} (h:Zjq f x≠.undef\/x=.undef):VR1 f x (Zjq f x):=by
 cases x with
 | undef=>trivial
 | ptr id i off=>
  simp only[Zjq] at h ⊢;split
  .rename_i id' hr;exact⟨hr,rfl,rfl⟩
  .rename_i hr;rw[hr] at h;simp at h
 | sl id off len=>
  simp only[Zjq] at h ⊢;split
  .rename_i id' hr;exact⟨hr,rfl,rfl⟩
  .rename_i hr
   rw[hr] at h;simp only at h;split
   .exact⟨hr,rfl,rfl⟩
   .rename_i Yf
    exfalso;split at h
    .rename_i h1 h2;exact Yf rfl rfl
    .simp at h
 | lit v=>rfl
 | tr rows=>rfl
 | vw rows=>rfl
 | rp sh row off=>rfl
 | agg _=>simp[Zjq] at h
 | tup _=>simp[Zjq] at h
 | fn _ _=>simp[Zjq] at h
 | own _ _=>simp[Zjq] at h
 | obx _=>simp[Zjq] at h
def okV:V->Bool|.undef=>false|_=>true
theorem okV_ne {x:V} (h:okV x=true):x≠.undef:=by rintro rfl;cases h
theorem Z9b {f:List (Id×Id)}:∀{xs:List V},(xs.map (Zjq f)).all okV=true->VRs f xs (xs.map (Zjq f)):=by
 intro xs
 induction xs with
 | nil=>intro _;trivial
 | cons x xs ih=>
  intro h;simp only[Va7,Va6,ZZg] at h;exact⟨Ygn (.inl (okV_ne h.1)),ih h.2⟩
def okVs:V->Bool
 | .agg xs|.tup xs|.fn _ xs=>xs.all okV
 | x=>okV x
theorem Y15 {f:List (Id×Id)} {x:V} (h:okVs (renV f x)=true):VR f x (renV f x):=by
 cases x with
 | agg xs=>exact Z9b h
 | tup xs=>exact Z9b h
 | fn g xs=>exact⟨rfl,Z9b h⟩
 | undef=>trivial
 | lit v=>rfl
 | tr rows=>rfl
 | vw rows=>rfl
 | rp sh row off=>rfl
 | own e rows=>cases h
 | obx cs=>cases h
 | ptr id i off=>exact Ygn (x:=.ptr id i off) (.inl λe=>by have h2:okVs (Zjq f (.ptr id i off))=true:=h;rw[e] at h2;cases h2)
 | sl id off len=>exact Ygn (x:=.sl id off len) (.inl λe=>by have h2:okVs (Zjq f (.sl id off len))=true:=h;rw[e] at h2;cases h2)
def renB (f:List (Id×Id)) (p:Id×Blk):Option Blk:=match Zbs f p.1 with
 | none=>none
 | some _=>some ⟨p.2.box,p.2.own,p.2.cl,(if p.2.box then 0 else p.2.el),if p.2.box then p.2.rows.map (λr=>r.map (Zjq f)) else p.2.rows⟩
def wasB (f:List (Id×Id)) (S:St) (p:Id×Blk):Option Blk:=match Zbs f p.1 with
 | none=>none
 | some id'=>(S.heap id').map λc=>⟨c.box,c.own,c.cl,(if c.box then 0 else c.el),c.rows⟩
def newB (f:List (Id×Id)) (p:Id×Blk):Bool:=match Zbs f p.1 with
 | none=>!p.2.box&&p.2.own&&(match p.2.rows with|[]=>true|_=>false)
 | some _=>if p.2.box then (match p.2.rows with|[r]=>(r.map (Zjq f)).all okV|_=>false) else true
theorem Y3b {f:List (Id×Id)} {S:St} {p:Id×Blk} (h:wasB f S p=renB f p) (hn:newB f p=true):BR f S p.1 p.2:=by
 obtain⟨id,b⟩:=p;unfold BR;unfold wasB renB at h;unfold newB at hn;simp only at h hn ⊢;split
 .rename_i hr
  rw[hr] at hn;simp only[ZZg,Vb0] at hn;refine⟨hn.1.1,hn.1.2,?_⟩;cases hb:b.rows with
  | nil=>rfl
  | cons x l=>rw[hb] at hn;simp at hn
 .rename_i id' hr
  rw[hr] at h hn;simp only at h hn;obtain⟨c,h1,h2⟩:=ZZc.1 h;injection h2 with e1 e2 e3 e4 e5;refine⟨c,h1,e1,e2,e3,?_⟩;cases hbx:b.box with
  | true=>
   rw[hbx] at hn e1 e5;simp only[if_true] at hn e5 ⊢;cases hb:b.rows with
   | nil=>rw[hb] at hn;cases hn
   | cons r l=>cases l with
    | cons r2 l=>rw[hb] at hn;cases hn
    | nil=>
     rw[hb] at hn e5;exact⟨r,_,rfl,e5,Z9b hn⟩
  | false=>
   rw[hbx] at e1 e4 e5;rw[e1] at e4;simp only[ZZf,if_false] at e4 e5 ⊢;exact⟨e4,e5⟩
def wasL (f:List (Id×Id)) (l:List (Nat×V)) (h:List (Id×Blk)) (S:St):List V×List (Option Blk):=(l.map λp=>S.env p.1,h.map λp=>wasB f S p)
def Ybs (f:List (Id×Id)) (l:List (Nat×V)) (h:List (Id×Blk)):List V×List (Option Blk):=(l.map λp=>renV f p.2,h.map λp=>renB f p)
def cutB (f:List (Id×Id)) (l:List (Nat×V)) (h:List (Id×Blk)) (ep:Nat):Bool:=wkB f l h ep&&(l.all λp=>okVs (renV f p.2))&&h.all λp=>newB f p
theorem Yeo {α β:Type} {g1 g2:α->β} {l:List α} (h:l.map g1=l.map g2):∀x∈l,g1 x=g2 x:=by
 induction l with
 | nil=>intro x hx;simp at hx
 | cons y l ih=>
  simp only[Va7,Vdn] at h;intro x hx;rcases Vav.1 hx with rfl|hx
  .exact h.1
  .exact ih h.2 x hx
theorem Y3j {f:List (Id×Id)} {l:List (Nat×V)} {h:List (Id×Blk)} {ep:Nat} {S:St} (e:wasL f l h S=Ybs f l h) (hb:cutB f l h ep=true):Z1v f S l h ep:=by
 simp only[wasL,Ybs,ZZe] at e;simp only[cutB,ZZg,ZZk] at hb;refine⟨λp hp=>?_,λp hp=>Y3b (Yeo e.2 p hp) (hb.2 p hp),hb.1.1⟩;rw[Yeo e.1 p hp];exact Y15 (hb.1.2 p hp)
def len1:V->KM V
 | .sl id off len=>bnd hear λo=>match o with
  | .num n _ _ _=>bnd (obl (len=n)) λ_=>ret (.sl id off n)
  | _=>fail
 | x=>ret x
theorem Ysp {x:V}:KP (len1 x) (λy=>y=x):=by
 unfold len1;split
 .refine Zp Wb (λo _=>?_)
  split
  .exact Zp Yd (λ_ h=>Z0 (by rw[h]))
  .exact Zo
 .exact Z0 rfl
def lens:List V->KM (List V)
 | []=>ret []
 | x::xs=>bnd (len1 x) λy=>bnd (lens xs) λys=>ret (y::ys)
theorem Yga:∀{xs:List V},KP (lens xs) (λys=>ys=xs):=by
 intro xs
 induction xs with
 | nil=>exact Z0 rfl
 | cons x xs ih=>exact Zp Ysp (λy hy=>Zp ih (λys hys=>Z0 (by rw[hy,hys])))
def lenV:V->KM V
 | .agg xs=>bnd (lens xs) λys=>ret (.agg ys)
 | .fn g xs=>bnd (lens xs) λys=>ret (.fn g ys)
 | x=>len1 x
theorem Y1o {x:V}:KP (lenV x) (λy=>y=x):=by
 unfold lenV;split
 .exact Zp Yga (λy hy=>Z0 (by rw[hy]))
 .exact Zp Yga (λy hy=>Z0 (by rw[hy]))
 .exact Ysp
def Yun (S:St):List (Nat×V)->KM (List V)
 | []=>ret []
 | p::l=>bnd (lenV (S.env p.1)) λy=>bnd (Yun S l) λys=>ret (y::ys)
theorem Y13 {S:St}:∀{l:List (Nat×V)},KP (Yun S l) (λys=>ys=l.map λp=>S.env p.1):=by
 intro l
 induction l with
 | nil=>exact Z0 rfl
 | cons p l ih=>exact Zp Y1o (λy hy=>Zp ih (λys hys=>Z0 (by rw[hy,hys];rfl)))
def lenB:Option Blk->KM (Option Blk)
 | some ⟨true,own,cl,el,[row]⟩=>bnd (lens row) λr=>ret (some ⟨true,own,cl,el,[r]⟩)
 | x=>ret x
theorem Y2m {x:Option Blk}:KP (lenB x) (λy=>y=x):=by
 unfold lenB;split
 .exact Zp Yga (λr hr=>Z0 (by rw[hr]))
 .exact Z0 rfl
def lenH (f:List (Id×Id)) (S:St):List (Id×Blk)->KM (List (Option Blk))
 | []=>ret []
 | p::l=>bnd (lenB (wasB f S p)) λy=>bnd (lenH f S l) λys=>ret (y::ys)
theorem Y2u {f:List (Id×Id)} {S:St}:∀{l:List (Id×Blk)},KP (lenH f S l) (λys=>ys=l.map λp=>wasB f S p):=by
 intro l
 induction l with
 | nil=>exact Z0 rfl
 | cons p l ih=>exact Zp Y2m (λy hy=>Zp ih (λys hys=>Z0 (by rw[hy,hys];rfl)))
def Ywe (f:List (Id×Id)) (l:List (Nat×V)) (h:List (Id×Blk)) (r:Res):KM (List It×List V×List (Option Blk)):=match r.ex with
 | .normal=>bnd (Yun r.st l) λvs=>bnd (lenH f r.st h) λbs=>ret (r.stk,vs,bs)
 | _=>fail
def cutK (P:Program) (M:Yp) (f:List (Id×Id)) (l:List (Nat×V)) (h:List (Id×Blk)) (n:Nat) (stk:List It) (s:St):KM (List It×List V×List (Option Blk)):=
 bnd (Zgt P M n stk .normal s) (Ywe f l h)
def isC:List It->Bool
 | .c _::_=>true
 | _=>false
theorem Ysl (hP:Yk P) {stk k2:List It} {s:St} {p:Prop} {l:List (Nat×V)} {h:List (Id×Blk)} {ep:Nat} (f:List (Id×Id)) (n:Nat) (q:List O) (hp:p) (hn:SX P R k2 .normal (mkS l h ep))
  (e:Z6k (cutK P M f l h n stk s q)=some (p,(k2,Ybs f l h))) (hb:(isC k2&&cutB f l h ep)=true):SX P R stk .normal s:=by
 simp only[ZZg] at hb;refine Ysn (x:=cutK P M f l h n stk s) (Q:=λy=>y=(k2,Ybs f l h)->SX P R stk .normal s) ?_ e hp rfl;refine Zp (Ylv hP n) (λr hr=>?_);obtain⟨st,ex,s1⟩:=r;unfold Ywe;cases ex with
 | normal=>
  refine Zp Y13 (λvs hvs=>Zp Y2u (λbs hbs=>Z0 λhy=>hr _ ?_));simp only[ZZe] at hy;simp only;rw[hy.1];have hy2:wasL f l h s1=Ybs f l h:=by
   rw[<-hy.2,hvs,hbs];rfl
  cases k2 with
  | nil=>cases hb.1
  | cons x k=>cases x with
   | blk i=>cases hb.1
   | c x=>exact Y1s f (Y3j hy2 hb.2) hn
 | ret=>exact Zo
 | exit i=>exact Zo
end
end Go.Proofs.YtagdmghmblplbaaGreat.Ev
namespace Go.Proofs.YtagdmghmblplbaaGreat.Ev
open Go
section
variable {α:Type}
def idx (xs:List α) (i:Int):Option α:=if 0<=i then xs[i.toNat]? else none
def Xt (sz:Nat) (xs ys:List α):Option (List α):=if (xs.length+ys.length)*sz<=140737488355328/\xs.length+ys.length<=9223372036854775807 then some (xs++ys) else none
def mkI (sz:Nat) (n:Int) (z:α):Option (List α):=if 0<=n/\n.toNat*sz<=70368744177664/\n.toNat<=9223372036854775807 then some (List.replicate n.toNat z) else none
def J4 (xs:List α) (l h:Int):Option (List α):=if 0<=l/\l<=h/\h.toNat<=xs.length then some ((xs.drop l.toNat).take (h.toNat - l.toNat)) else none
def Z1m (z:α) (xs:List α) (l h:Int):Option (List α):=if l.toNat+(h.toNat - l.toNat)<=xs.length then some (xs.take l.toNat++List.replicate (h.toNat - l.toNat) z++xs.drop (l.toNat+(h.toNat - l.toNat))) else none
def Qn (xs:List α) (i:Int) (a:α):Option (List α):=some (xs.set i.toNat a)
end
def strL (l:List UInt8):ByteArray:=⟨l.toArray⟩
def FU:Nat:=18446744073709551616
def w64 (n:Int):Int:=IntKind.i64.wrap n
def Zu (a b:Int):Int:=IntKind.i64.wrap (a+b)
def Y9 (a b:Int):Int:=IntKind.i64.wrap (a - b)
def Jm (a b:Int):Int:=IntKind.i64.wrap (a*b)
def Zq4 (a b:Int):Int:=IntKind.i64.wrap (a.tdiv b)
def Zdh (a b:Int):Int:=a.tmod b
def andW (a b:Int):Int:=IntKind.i64.wrap ((BitVec.ofInt IntKind.i64.bits a &&& BitVec.ofInt IntKind.i64.bits b).toNat)
def orW (a b:Int):Int:=IntKind.i64.wrap ((BitVec.ofInt IntKind.i64.bits a ||| BitVec.ofInt IntKind.i64.bits b).toNat)
def Ybx (a b:Int):Int:=IntKind.i64.wrap (a*2^min b.toNat IntKind.i64.bits)
def shrW (a b:Int):Int:=a.fdiv (2^min b.toNat IntKind.i64.bits)
def Zi4 (x y:Int):Int:=if y < x then y else x
def Zkh (x y:Int):Int:=if y > x then y else x
def nzI (b:Int):Option Unit:=if b=0 then none else some ()
def nnI (b:Int):Option Unit:=if 0<=b then some () else none
theorem w64_of {n:Int} (h1:-9223372036854775808<=n) (h2:n < 9223372036854775808):w64 n=n:=by
 simp[w64,IntKind.wrap,IntKind.bits,IntKind.signed];omega
end Go.Proofs.YtagdmghmblplbaaGreat.Ev
namespace Go.Proofs.YtagdmghmblplbaaGreat.Ev
open Go Go.RowKit KM
variable [Anchor]
abbrev il (n:Int):V:=.lit (.int .i64 n)
abbrev bl (b:Bool):V:=.lit (.bool b)
section
variable {P:Program} {M:Yp}
def entS (M:Yp) (f:FuncId) (xs:List V):St:=(St.enters ⟨λ_=>.undef,λ_=>none,0⟩ 0 (M.modes f) xs).getD ⟨λ_=>.undef,λ_=>none,0⟩
theorem Yz0 (hP:Yk P) {f:FuncId} {fn:Func} {c:Code} {xs:List V} {r:V} {os:List V} (hfn:P.funcs[f]?=some fn) (hc:fn.body=some c) (hs:(St.enters ⟨λ_=>.undef,λ_=>none,0⟩ 0 (M.modes f) xs).isSome=true)
  (h:SX P (Ycn P M f fn xs (r,os)) [.c c] .normal (entS M f xs)):Zt P M (f,xs,r,os):=by
 obtain⟨s1,h1⟩:=Val.1 hs;refine Y2z hP hfn hc h1 ?_;have:entS M f xs=s1:=by unfold entS;rw[h1];rfl
 rw[<-this];exact h
end
theorem aa {p q:Prop} (h:p) (k:q):p/\q:=⟨h,k⟩
theorem tt:True:=trivial
theorem Yzw {α β:Type} {x:Option α} {f:α->Option β} {b:β} (h:x.bind f=some b):∃a,x=some a/\f a=some b:=ZZb.1 h
theorem Y0a {β:Type} {t:Bool} {x y:Option β} {b:β} (h:(if t=true then x else y)=some b):(t=true/\x=some b)\/(t=false/\y=some b):=by
 cases t with
 | true=>exact .inl ⟨rfl,h⟩
 | false=>exact .inr ⟨rfl,h⟩
section
variable {α:Type}
theorem ixn {xs:List α} {i:Int} {a:α} (h:idx xs i=some a):Xq (il i)=some i.toNat:=by
 unfold idx at h;split at h
 .rename_i h0;simp[Xq,h0]
 .cases h
theorem ixr (e:α->List V) {xs:List α} {i:Int} {a:α} (h:idx xs i=some a):(xs.map e)[i.toNat]?=some (e a):=by
 unfold idx at h;split at h
 .rw[Va8,h];rfl
 .cases h
theorem ixl (e:α->List V) {xs:List α} {i:Int} {a:α} (h:idx xs i=some a):i.toNat < (xs.map e).length:=(ZZh.1 (ixr e h)).1
theorem Yg3 (e:α->List V) (xs:List α):(xs.map e).length=xs.length:=Vcg ..
theorem Z68 (e:α->List V) (xs:List α):(xs.map e).length=(xs.map e).length:=rfl
theorem alr (n:Nat) {e:α->List V} (he:∀a,(e a).length=n) (xs:List α):Zjw n (xs.map e)=true:=by
 unfold Zjw;rw[ZZk];intro r hr;obtain⟨a,_,rfl⟩:=Vbd.1 hr;simp[he]
theorem ltr {e:α->List V} (he:∀a,(e a).all Zwq=true) (xs:List α):Zaq (xs.map e)=true:=by
 unfold Zaq;rw[ZZk];intro r hr;obtain⟨a,_,rfl⟩:=Vbd.1 hr;exact he a
theorem apm (e:α->List V) {sz:Nat} {xs ys zs:List α} (h:Xt sz xs ys=some zs):xs.map e++ys.map e=zs.map e:=by
 unfold Xt at h;split at h
 .injection h with h;rw[<-h,Vcn]
 .cases h
theorem apl (e:α->List V) {sz:Nat} {xs ys zs:List α} (h:Xt sz xs ys=some zs):((xs.map e).length+(ys.map e).length)*sz<=140737488355328/\(xs.map e).length+(ys.map e).length<=9223372036854775807:=by
 unfold Xt at h;split at h
 .rename_i hh;simpa using hh
 .cases h
theorem apm0 (e:α->List V) {sz:Nat} {ys zs:List α} (h:Xt sz [] ys=some zs):ys.map e=zs.map e:=apm e h
theorem mkn {sz:Nat} {n:Int} {z:α} {xs:List α} (h:mkI sz n z=some xs):Xq (il n)=some n.toNat:=by
 unfold mkI at h;split at h
 .rename_i h0;simp[Xq,h0.1]
 .cases h
theorem mkl {sz:Nat} {n:Int} {z:α} {xs:List α} (h:mkI sz n z=some xs):n.toNat*sz<=70368744177664/\n.toNat<=9223372036854775807:=by
 unfold mkI at h;split at h
 .rename_i h0;exact h0.2
 .cases h
theorem mkr (e:α->List V) {sz:Nat} {n:Int} {z:α} {xs:List α} (h:mkI sz n z=some xs):List.replicate n.toNat (e z)=xs.map e:=by
 unfold mkI at h;split at h
 .injection h with h;rw[<-h,List.map_replicate]
 .cases h
theorem sln {xs ys:List α} {l h:Int} (e:J4 xs l h=some ys):Xq (il l)=some l.toNat/\Xq (il h)=some h.toNat:=by
 unfold J4 at e;split at e
 .rename_i h0
  refine⟨by simp[Xq,h0.1],?_⟩;have:0<=h:=by omega
  simp[Xq,this]
 .cases e
theorem sll (en:α->List V) {xs ys:List α} {l h:Int} (e:J4 xs l h=some ys):l.toNat<=h.toNat/\h.toNat<=(xs.map en).length:=by
 unfold J4 at e;split at e
 .rename_i h0
  rw[Vcg];omega
 .cases e
theorem slr (en:α->List V) {xs ys:List α} {l h:Int} (e:J4 xs l h=some ys):((xs.map en).drop l.toNat).take (h.toNat - l.toNat)=ys.map en:=by
 unfold J4 at e;split at e
 .injection e with e;rw[<-e,List.map_take,List.map_drop]
 .cases e
end
def Ze (n:Int):List V:=[.lit (.int .i64 n)]
def Z9 (b:Bool):List V:=[.lit (.bool b)]
def encS (b:ByteArray):List V:=[.lit (.string b)]
theorem Zaf (n:Int):(Ze n).length=1:=rfl
theorem Zmt (n:Bool):(Z9 n).length=1:=rfl
theorem Zpx (n:Int):(Ze n).all Zwq=true:=rfl
abbrev ss (b:ByteArray):V:=.lit (.string b)
section
variable {α:Type}
theorem Zxx (e:α->List V) {xs ys:List α} {i:Int} {a:α} (h:Qn xs i a=some ys):(xs.map e).set i.toNat (e a)=ys.map e:=by
 unfold Qn at h;injection h with h;rw[<-h,List.map_set]
theorem Q5 (e:α->List V) {xs ys:List α} {i:Int} {a:α} (h:Qn xs i a=some ys):(xs.map e).length=(ys.map e).length:=by
 rw[<-Zxx e h,Vbh]
theorem sla (en:α->List V) {xs ys:List α} {l h:Int} (e:J4 xs l h=some ys):l.toNat+(h.toNat - l.toNat)<=(xs.map en).length:=by
 have:=sll en e;omega
end
section
variable {α:Type}
theorem Z4l {sz:Nat} {r:List α} (h:Xt sz [] []=some r):[]=r:=by
 unfold Xt at h;split at h
 .injection h
 .cases h
theorem apz (n:Nat):(0+0)*n<=140737488355328/\0+0<=9223372036854775807:=by simp
theorem clrl (e:α->List V) {z:α} {xs ys:List α} {l h:Int} (q:Z1m z xs l h=some ys):l.toNat+(h.toNat - l.toNat)<=(xs.map e).length:=by
 unfold Z1m at q;split at q
 .rwa [Vcg]
 .cases q
theorem clrr (e:α->List V) {z:α} {xs ys:List α} {l h:Int} (q:Z1m z xs l h=some ys):(xs.map e).take l.toNat++List.replicate (h.toNat - l.toNat) (e z)++(xs.map e).drop (l.toNat+(h.toNat - l.toNat))=ys.map e:=by
 unfold Z1m at q;split at q
 .injection q with q;rw[<-q];simp
 .cases q
theorem clrs (e:α->List V) {z:α} {xs ys:List α} {l h:Int} (q:Z1m z xs l h=some ys):(xs.map e).length=(ys.map e).length:=by
 unfold Z1m at q;split at q
 .injection q with q;rw[<-q];simp;omega
 .cases q
end
def ks:Nat->List O->List O
 | 0,l=>l
 | n+1,l=>.k::ks n l
def Scr (q:List O) (p:Prop):Prop:=p
theorem ee:Scr [] True:=trivial
section
variable {q:List O} {p:Prop} {α:Type}
theorem kk (n:Nat) (k:Scr q p):Scr (ks n q) p:=k
theorem gg {c b:Bool} (h:c=b) (k:Scr q p):Scr (.t b::q) (c=b/\p):=⟨h,k⟩
theorem rr {P:Program} {M:Yp} {y:FuncId×List V×V×List V} (h:Zt P M y) (k:Scr q p):Scr (.res y.2.2.1 y.2.2.2::q) (Zt P M y/\p):=⟨h,k⟩
theorem xb (e:α->List V) {xs:List α} {i:Int} {a:α} (h:idx xs i=some a) (k:Scr q p):Scr (.row i.toNat (e a)::q) (Xq (il i)=some i.toNat/\(xs.map e)[i.toNat]?=some (e a)/\p):=⟨ixn h,ixr e h,k⟩
theorem xd (e:α->List V) {xs:List α} {i:Int} {a:α} (h:idx xs i=some a) (k:Scr q p):Scr (.row i.toNat (e a)::.cell (e a)::q) (Xq (il i)=some i.toNat/\i.toNat < (xs.map e).length/\(xs.map e)[i.toNat]?=some (e a)/\(xs.map e)[i.toNat]?=some (e a)/\p):=⟨ixn h,ixl e h,ixr e h,ixr e h,k⟩
theorem xp (e:α->List V) {xs ys:List α} {i:Int} {a b:α} (h:idx xs i=some a) (h2:Qn xs i b=some ys) (k:Scr q p):Scr (.row i.toNat (e a)::.put (e a) (ys.map e)::q) (Xq (il i)=some i.toNat/\i.toNat < (xs.map e).length/\(xs.map e)[i.toNat]?=some (e a)/\(xs.map e)[i.toNat]?=some (e a)/\(xs.map e).set i.toNat (e b)=ys.map e/\p):=⟨ixn h,ixl e h,ixr e h,ixr e h,Zxx e h2,k⟩
theorem xq (e:α->List V) {xs:List α} {i:Int} {a:α} (h:idx xs i=some a) (ys:List α) (k:Scr q p):Scr (.row i.toNat (e a)::.put (e a) (ys.map e)::q) (Xq (il i)=some i.toNat/\i.toNat < (xs.map e).length/\(xs.map e)[i.toNat]?=some (e a)/\(xs.map e)[i.toNat]?=some (e a)/\p):=⟨ixn h,ixl e h,ixr e h,ixr e h,k⟩
theorem ln (e:α->List V) (xs:List α) (k:Scr q p):Scr (.num (xs.map e).length 0 0 []::q) ((xs.map e).length=(xs.map e).length/\p):=⟨rfl,k⟩
theorem lr (e:α->List V) (xs:List α) (k:Scr q p):Scr (.num xs.length 0 0 []::q) ((xs.map e).length=xs.length/\p):=⟨Yg3 e xs,k⟩
theorem tp (x:O) (k:Scr q p):Scr (x::q) p:=k
theorem tq (l:List O) (k:Scr q p):Scr (l++q) p:=k
theorem ta (e:α->List V) (ys zs:List α) (k:Scr q p):Scr (.app (ys.map e) true (zs.map e) (zs.map e).length::q) p:=k
theorem oa (n:Nat) {e:α->List V} (he:∀a,(e a).length=n) (x:α) (k:Scr q p):Scr q (1=([x].map e).length/\[x].map e=[x].map e/\Zjw n ([x].map e)=true/\p):=⟨rfl,rfl,alr n he [x],k⟩
theorem ol (n:Nat) {e:α->List V} (he:∀a,(e a).length=n) (hl:∀a,(e a).all Zwq=true) (ys:List α) (k:Scr q p):Scr q (ys.map e=ys.map e/\Zaq (ys.map e)=true/\Zjw n (ys.map e)=true/\0=(([]:List α).map e).length/\p):=⟨rfl,ltr hl ys,alr n he ys,rfl,k⟩
theorem ox (e:α->List V) {sz:Nat} {xs ys zs:List α} (h:Xt sz xs ys=some zs) (k:Scr q p):Scr q ((xs.map e).length=(xs.map e).length/\(((xs.map e).length+(ys.map e).length)*sz<=140737488355328/\(xs.map e).length+(ys.map e).length<=9223372036854775807)/\xs.map e++ys.map e=zs.map e/\p):=⟨rfl,apl e h,apm e h,k⟩
theorem oe (e:α->List V) (xs:List α) (k:Scr q p):Scr q ((xs.map e).length=(xs.map e).length/\p):=⟨rfl,k⟩
theorem ob {a:Prop} (h:a) (k:Scr q p):Scr q (a/\p):=⟨h,k⟩
end
theorem nz0 {b:Int} {u:Unit} (h:nzI b=some u):b≠0:=by
 unfold nzI at h;split at h
 .cases h
 .assumption
theorem nn0 {b:Int} {u:Unit} (h:nnI b=some u):0<=b:=by
 unfold nnI at h;split at h
 .assumption
 .cases h
def Qw (f:Func):Code:=f.body.getD .skip
def at_:List Nat->Code->List It->List It
 | 0::p,.seq a b,k=>at_ p a (.c b::k)
 | _::p,.seq _ b,k=>at_ p b k
 | 0::p,.cond _ a _,k=>at_ p a k
 | _::p,.cond _ _ b,k=>at_ p b k
 | _::p,.block i c,k=>at_ p c (.blk i::k)
 | _::p,.loop c,k=>at_ p c (.c (.loop c)::k)
 | _,c,k=>.c c::k
end Go.Proofs.YtagdmghmblplbaaGreat.Ev
namespace Go.Proofs.YtagdmghmblplbaaGreat.Ev
open Go Go.RowKit
variable [Anchor]
section
variable {P:Program} {M:Yp} {w:World} {ok top:Nat->Prop}
end
inductive LV where
 | und
 | lit (v:Value)
 | ob (i:Nat)
 | nc (i j off sz:Nat)
 | agg (cs:List LV)
 | tup (cs:List LV)
 | bp (b off:Nat)
 | op (i j off sz:Nat)
 | fn (f:FuncId)
 deriving Inhabited
structure LO where
 own:Bool
 sz:Nat
 el:TypeId
 rows:List (List V)
structure LS where
 env:Nat->LV
 ob:Nat->Option LO
 bk:Nat->Option Nat
 bx:Nat->List LV
 used:List Nat
def Zfn:LV->Bool
 | .lit _|.ob _=>true
 | _=>false
structure Nm where
 us:Nat->Value
 fps:Nat->List Nat
 bs:Nat->Nat
 U:List Nat
structure Nm.Ext (n n':Nm):Prop where
 us:∀i,i / 1000∈n.U->n'.us i=n.us i
 fps:∀i,i / 1000∈n.U->n'.fps i=n.fps i
 bs:∀b,b∈n.U->n'.bs b=n.bs b
 U:∀d,d∈n.U->d∈n'.U
theorem Nm.Ext.refl (n:Nm):n.Ext n:=⟨λ_ _=>rfl,λ_ _=>rfl,λ_ _=>rfl,λ_ h=>h⟩
theorem Nm.Ext.trans {a b c:Nm} (h:a.Ext b) (k:b.Ext c):a.Ext c:=
 ⟨λi hi=>(k.us i (h.U _ hi)).trans (h.us i hi),λi hi=>(k.fps i (h.U _ hi)).trans (h.fps i hi),λi hi=>(k.bs i (h.U _ hi)).trans (h.bs i hi),λd hd=>k.U d (h.U d hd)⟩
inductive LvR (w:World) (n:Nm):Value->LV->Prop
 | und {v:Value}:LvR w n v .und
 | lit {v:Value} (h:Q8 v=true):LvR w n v (.lit v)
 | ob {i:Nat} (hU:i / 1000∈n.U) (h:(n.us i).oneCell'=true):LvR w n (n.us i) (.ob i)
 | nc {i j off sz g o m c:Nat} {v:Value} (hU:i / 1000∈n.U) (h:n.us i=.slice (some ⟨g,o,none⟩) m c) (hg:g∈n.fps i) (hv:w.cell? ⟨g,o+j*sz+off,none⟩=some v):LvR w n v (.nc i j off sz)
 | agg {vs:Array Value} {cs:List LV} (hl:vs.size=cs.length) (hc:∀x∈cs,Zfn x=true) (hr:∀(k:Nat) (v:Value) (x:LV),vs[k]?=some v->cs[k]?=some x->LvR w n v x):LvR w n (.agg vs) (.agg cs)
 | tup {vs:Array Value} {cs:List LV} (hl:vs.size=cs.length) (hr:∀(k:Nat) (v:Value) (x:LV),vs[k]?=some v->cs[k]?=some x->LvR w n v x):LvR w n (.tuple vs) (.tup cs)
 | bp {b off:Nat} (hU:b∈n.U):LvR w n (.pointer (some ⟨n.bs b,off,none⟩)) (.bp b off)
 | op {i j off sz g o m c:Nat} (hU:i / 1000∈n.U) (h:n.us i=.slice (some ⟨g,o,none⟩) m c):LvR w n (.pointer (some ⟨g,o+j*sz+off,none⟩)) (.op i j off sz)
 | fn {f:FuncId}:LvR w n (.func (.func f) #[] #[]) (.fn f)
def OwZ (w:World) (sz:Nat) (e:TypeId) (u:Value) (rows:List (List V)) (fp:List Nat):Prop:=
 (∃A,u=.slice A 0 0/\rows=[]/\fp=[])\/
 ∃g o c cur fp',u=.slice (some ⟨g,o,none⟩) rows.length c/\w.heap[g]?=some (.cells cur e (0,0))/\rows.length<=c/\c<=maxLen/\(∀r∈rows,r.length=sz)/\o+c*sz=cur.size/\
  OwL w ((cur.toList.drop o).take (rows.length*sz)) rows.flatten fp'/\fp=g::fp'
def ObR (P:Program) (w0:World) (io:Nat->Prop) (w:World) (o:LO) (u:Value) (fp:List Nat):Prop:=
 match o.own with
 | true=>OwZ w o.sz o.el u o.rows fp
 | false=>fp=[]/\Rd w (λg=>g < w0.heap.size/\¬io g) u (.tr o.rows)
def BxR (w:World) (n:Nm) (b m:Nat) (row:List LV):Prop:=
 ∃cur e,w.heap[n.bs b]?=some (.cells cur e (0,0))/\cur.size=m/\(row≠[]->row.length=m/\∀(k:Nat) (v:Value) (x:LV),cur[k]?=some v->row[k]?=some x->Zfn x=true/\LvR w n v x)
structure Xn (P:Program) (w0:World) (io:Nat->Prop) (w:World) (tmps:Array Value) (s:LS) (n:Nm):Prop where
 env:∀(t:Nat) (v:Value),tmps[t]?=some v->LvR w n v (s.env t)
 out:∀t,tmps.size<=t->s.env t=.und
 obs:∀i o,s.ob i=some o->ObR P w0 io w o (n.us i) (n.fps i)
 noO:∀i,s.ob i=none->n.fps i=[]
 noB:∀b,s.bk b=none->s.bx b=[]
 box:∀b m,s.bk b=some m->BxR w n b m (s.bx b)
 mineO:∀i,∀g∈n.fps i,(io g\/w0.heap.size<=g)/\g < w.heap.size
 mineB:∀b m,s.bk b=some m->w0.heap.size<=n.bs b
 apO:∀i j,i≠j->∀g∈n.fps i,g ∉ n.fps j
 once:∀i,(n.fps i).Nodup
 apB:∀b b' m m',s.bk b=some m->s.bk b'=some m'->b≠b'->n.bs b≠n.bs b'
 apOB:∀i b m,s.bk b=some m->n.bs b ∉ n.fps i
 usedO:∀i o,s.ob i=some o->i / 1000∈n.U
 usedB:∀b m,s.bk b=some m->b∈n.U
 used:∀d,d∈n.U->d∈s.used
 left:Wm w0.heap.size io w0 w
 base:Zxe w0.heap.size io w
section
variable {P:Program} {w0:World} {io:Nat->Prop} {w w':World} {tmps:Array Value} {s s':LS} {n n':Nm}
theorem OwZ.ow {sz:Nat} {e:TypeId} {u:Value} {rows:List (List V)} {fp:List Nat} (h:OwZ w sz e u rows fp):Ow w u (.tr rows) fp:=by
 rcases h with⟨A,rfl,rfl,rfl⟩|⟨g,o,c,cur,fp',rfl,hg,hl,hm,hu,hz,hO,rfl⟩
 .exact .emp
 .exact .tr hg rfl hl hm hu hz hO
theorem OwZ.lt {sz:Nat} {e:TypeId} {u:Value} {rows:List (List V)} {fp:List Nat} (h:OwZ w sz e u rows fp):∀g∈fp,g < w.heap.size:=h.ow.lt
theorem OwZ.frame {sz:Nat} {e:TypeId} {u:Value} {rows:List (List V)} {fp:List Nat} (h:OwZ w sz e u rows fp) (hw:∀g∈fp,w'.heap[g]?=w.heap[g]?):OwZ w' sz e u rows fp:=by
 rcases h with h|⟨g,o,c,cur,fp',h1,h2,h3,h4,h5,h6,h7,rfl⟩
 .exact .inl h
 .exact .inr ⟨g,o,c,cur,fp',h1,by rw[hw g Vab];exact h2,h3,h4,h5,h6,h7.frame λk hk=>hw k (Vad _ hk),rfl⟩
theorem OwZ.one {sz:Nat} {e:TypeId} {u:Value} {rows:List (List V)} {fp:List Nat} (h:OwZ w sz e u rows fp):u.oneCell'=true:=h.ow.one
theorem OwT.z {e:TypeId} {u:Value} {rows:List (List V)} {fp:List Nat} (h:OwT P w e u rows fp):OwZ w (P.cellsOf e) e u rows fp:=h
theorem ObR.frame {o:LO} {u:Value} {fp:List Nat} (h:ObR P w0 io w o u fp) (hl:Wm w0.heap.size io w0 w) (hl':Wm w0.heap.size io w0 w') (hw:∀g∈fp,w'.heap[g]?=w.heap[g]?):ObR P w0 io w' o u fp:=by
 unfold ObR at h ⊢;split
 .rename_i ho;rw[ho] at h;exact h.frame hw
 .rename_i ho;rw[ho] at h
  exact⟨h.1,h.2.mono (λg hg _=>by rw[hl'.block g hg.1 hg.2,hl.block g hg.1 hg.2]) (λ_ h=>h)⟩
theorem LvR.frame {v:Value} {x:LV} (h:LvR w n v x) (he:n.Ext n') (hc:∀i g m u,i / 1000∈n.U->g∈n.fps i->w.cell? ⟨g,m,none⟩=some u->w'.cell? ⟨g,m,none⟩=some u):LvR w' n' v x:=by
 induction h with
 | und=>exact .und
 | lit h=>exact .lit h
 | @ob i hU h=>rw[<-he.us i hU] at h ⊢;exact .ob (he.U _ hU) h
 | nc hU h hg hv=>exact .nc (he.U _ hU) (by rw[he.us _ hU];exact h) (by rw[he.fps _ hU];exact hg) (hc _ _ _ _ hU hg hv)
 | agg hl hc' hr ih=>exact .agg hl hc' ih
 | tup hl hr ih=>exact .tup hl ih
 | bp hU=>rw[<-he.bs _ hU];exact .bp (he.U _ hU)
 | op hU h=>exact .op (he.U _ hU) (by rw[he.us _ hU];exact h)
 | fn=>exact .fn
theorem LvR.cell {v:Value} {x:LV} (h:LvR w n v x) (hx:Zfn x=true) (he:n.Ext n'):LvR w' n' v x:=by
 cases h with
 | lit h=>exact .lit h
 | @ob i hU h=>rw[<-he.us i hU] at h ⊢;exact .ob (he.U _ hU) h
 | _=>simp[Zfn] at hx
theorem LvR.one {v:Value} {x:LV} (h:LvR w n v x) (hx:Zfn x=true):v.oneCell'=true:=by
 cases h with
 | lit h=>cases v<;>simp_all [Q8,Value.oneCell']
 | ob hU h=>exact h
 | _=>simp[Zfn] at hx
theorem LvR.grow {v:Value} {x:LV} (h:LvR w n v x) (he:n.Ext n') (hw:∀g,g < w.heap.size->w'.heap[g]?=w.heap[g]?):LvR w' n' v x:=
 h.frame he λi g m u _ _ hc=>by rw[Z8z (hw g (Z81 hc))];exact hc
theorem Xn.grow (h:Xn P w0 io w tmps s n) (hl:Wm w.heap.size (λ_=>False) w w'):Xn P w0 io w' tmps s n:=by
 have hw:∀g,g < w.heap.size->w'.heap[g]?=w.heap[g]?:=λg hg=>hl.block g hg id;have hl2:Wm w0.heap.size io w w':=⟨hl.os,hl.tape,hl.output,hl.size,λk hk _=>hw k (Va9 hk h.base.base)⟩;have hl':Wm w0.heap.size io w0 w':=h.left.trans hl2;exact {h with
  env:=λt v hv=>(h.env t v hv).grow (.refl n) hw
  obs:=λi o ho=>(h.obs i o ho).frame h.left hl' λg hg=>hw g (h.mineO i g hg).2
  box:=λb m hb=>by
   obtain⟨cur,e,h1,h2,h3⟩:=h.box b m hb;exact⟨cur,e,by rw[hw _ (Vam.1 h1).1];exact h1,h2,λhn=>⟨(h3 hn).1,λk v x hv hx=>⟨((h3 hn).2 k v x hv hx).1,((h3 hn).2 k v x hv hx).2.cell ((h3 hn).2 k v x hv hx).1 (.refl n)⟩⟩⟩
  mineO:=λi g hg=>⟨(h.mineO i g hg).1,Va9 (h.mineO i g hg).2 hl.size⟩
  left:=hl'
  base:=h.base.left hl2}
def LS.put (s:LS) (dst:Option Tmp) (v:LV):LS:=match dst with|some d=>⟨upd s.env d v,s.ob,s.bk,s.bx,s.used⟩|none=>s
theorem Xn.put {a:Act} (h:Xn P w0 io w a.tmps s n) {dst:Option Tmp} {u:Value} {v:LV} (hd:∀d,dst=some d->d < a.tmps.size) (hv:LvR w n u v):Xn P w0 io w (a.put dst u).tmps (s.put dst v) n:=by
 cases dst with
 | none=>exact h
 | some d=>
  have Z5:=hd d rfl;exact {h with
   env:=λt x hx=>by
    simp only[Act.put] at hx;simp only[LS.put,upd];by_cases e:t=d
    .subst e
     rw[Vbe,ZZj rfl,ZZj Z5] at hx;injection hx with hx;subst hx;rw[ZZj rfl];exact hv
    .rw[Vbe,ZZi (λhh=>e hh.symm)] at hx
     rw[ZZi e];exact h.env t x hx
   out:=λt ht=>by
    simp only[Act.put,Vd4] at ht;simp only[LS.put,upd];rw[ZZi (λe=>absurd Z5 (by rw[<-e];exact Nat.not_lt.2 ht))];exact h.out t ht}
theorem Xn.less (h:Xn P w0 io w tmps s n) {env:Nat->LV} {used:List Nat} (he:∀t,env t=.und\/env t=s.env t) (hu:∀d∈s.used,d∈used):Xn P w0 io w tmps ⟨env,s.ob,s.bk,s.bx,used⟩ n:=
 {h with
  env:=λt v hv=>by
   rcases he t with e|e
   .simp only;rw[e];exact .und
   .simp only;rw[e];exact h.env t v hv
  out:=λt ht=>by
   rcases he t with e|e
   .exact e
   .simp only;rw[e];exact h.out t ht
  used:=λd hd=>hu d (h.used d hd)}
def opL (s:LS):Operand->LV
 | .tmp t=>s.env t
 | .const v=>if Q8 v then .lit v else .und
 | .func f=>.fn f
 | .global _=>.und
theorem Xn.opL {a:Act} (h:Xn P w0 io w a.tmps s n) (x:Operand):LvR w n (a.eval x) (Ev.opL s x):=by
 cases x with
 | tmp t=>
  simp only[Ev.opL,Act.eval];by_cases ht:t < a.tmps.size
  .have h1:a.tmps[t]?=some a.tmps[t]:=Vaf ht
   have:=h.env t a.tmps[t] h1;rw[Vbg,h1];exact this
  .rw[h.out t (Vde ht)];exact .und
 | const v=>
  simp only[Ev.opL,Act.eval];split
  .rename_i hs;exact .lit hs
  .exact .und
 | global g=>exact .und
 | func f=>exact .fn
end
def toV:LV->V
 | .lit v=>.lit v
 | _=>.undef
def Yci (P:Program) (t:TypeId) (cs:List LV):Option LV:=
 if (P.underlying t).isSome then if Zeo P t then some (.agg cs) else match cs with|[x]=>some x|_=>none else none
inductive Zmw (P:Program) (s:LS) (o:Oper):LV->Prop
 | move {x:Operand} {v:LV} (ho:o.op=.move x\/o.op=.assign x) (hx:opL s x=v):Zmw P s o v
 | pick {c x y:Operand} {t:Bool} {v:LV} (ho:o.op=.pick c x y) (hc:opL s c=.lit (.bool t)) (hx:(if t then opL s x else opL s y)=v):Zmw P s o v
 | extract {t:Operand} {i:Nat} {vs:List LV} {v:LV} (ho:o.op=.extract t i) (ht:opL s t=.tup vs) (hv:vs[i]?=some v):Zmw P s o v
 | plain {v:Value} (h:Xd P (λx=>toV (opL s x)) o=some (.lit v)):Zmw P s o (.lit v)
 | len {x:Operand} {t:TypeId} {i:Nat} {b:LO} (ho:o.op=.call {callee:=.builtin .len,args:=#[x],argTypes:=#[t]}) (ht:(Wd P t).isSome=true) (hx:opL s x=.ob i) (hb:s.ob i=some b):Zmw P s o (.lit (.int .i64 b.rows.length))
 | fieldB {t:TypeId} {x:Operand} {f off b m:Nat} (ho:o.op=.fieldAddr t x f) (hf:Zu7 P t f=some off) (hx:opL s x=.bp b m):Zmw P s o (.bp b (m+off))
 | fieldO {t:TypeId} {x:Operand} {f off i j m sz:Nat} (ho:o.op=.fieldAddr t x f) (hf:Zu7 P t f=some off) (hx:opL s x=.op i j m sz):Zmw P s o (.op i j (m+off) sz)
 | index {t e:TypeId} {x ix:Operand} {i m:Nat} {b:LO} {row:List V} (ho:o.op=.indexAddr t x ix) (ht:Wd P t=some e) (hz:Zx P e≠0) (hn:Xq (toV (opL s ix))=some m) (hx:opL s x=.ob i) (hb:s.ob i=some b) (hl:b.rows[m]?=some row) (hr:row.length=Zx P e) (Q2:b.own=true):Zmw P s o (.op i m 0 (Zx P e))
 | loadB {t:TypeId} {x:Operand} {b m:Nat} {n:Nat} {v:LV} (ho:o.op=.load t x) (hx:opL s x=.bp b m) (hk:s.bk b=some n) (hl:m+Zx P t<=(s.bx b).length) (Yf:s.bx b≠[]) (hv:Yci P t (((s.bx b).drop m).take (Zx P t))=some v):Zmw P s o v
 | loadL {t:TypeId} {x:Operand} {i j m sz:Nat} {b:LO} {row:List V} {v:Value} (ho:o.op=.load t x) (hx:opL s x=.op i j m sz) (hb:s.ob i=some b) (Yc:b.own=true) (hz:row.length=sz) (h1:Zx P t=1) (ha:Zeo P t=false) (hu:(P.underlying t).isSome=true) (hj:b.rows[j]?=some row) (hv:row[m]?=some (.lit v)):Zmw P s o (.lit v)
 | loadN {t:TypeId} {x:Operand} {i j m sz:Nat} {b:LO} {row:List V} {r:List (List V)} (ho:o.op=.load t x) (hx:opL s x=.op i j m sz) (hb:s.ob i=some b) (Yc:b.own=true) (hz:row.length=sz) (h1:Zx P t=1) (ha:Zeo P t=false) (hu:(P.underlying t).isSome=true) (hj:b.rows[j]?=some row) (hv:row[m]?=some (.tr r)):Zmw P s o (.nc i j m sz)
section
variable {P:Program} {w0:World} {io:Nat->Prop} {w w':World} {a:Act} {s s':LS} {n n':Nm} {o:Oper} {v:LV}
theorem Ybp {t:TypeId} {x:Operand} {g m:Nat} {us:List Value} (ho:o.op=.load t x) (hx:a.eval x=.pointer (some ⟨g,m,none⟩)) (hl:us.length=Zx P t) (hs:(P.underlying t).isSome=true) (h1:Zeo P t=false->us.length=1)
  (hc:∀j u,us[j]?=some u->w.cell? ⟨g,m+j,none⟩=some u):∃u,(execOp a.eval o).run P w=.ok (.value u) w/\(Zeo P t=true->u=.agg us.toArray)/\(Zeo P t=false->us=[u]):=by
 obtain⟨d,hu⟩:=Val.1 hs;cases Zh3:Zeo P t with
 | true=>
  obtain⟨ti,hti⟩:∃ti,P.info? t=some ti:=by
   unfold Program.underlying at hu;split at hu
   .rename_i h;exact⟨_,h⟩
   .rename_i h;exact⟨_,h⟩
   .cases hu
  have Ws:ti.size=us.length:=by rw[hl];simp[Zx,Program.cellsOf,hti]
  have Yt:=run_loadCells_list (P:=P) (w:=w) ⟨g,m,none⟩ us (λj u hj=>by rw[Zah];exact hc j u hj);rw[<-Ws] at Yt;refine⟨.agg us.toArray,?_,λ_=>rfl,λh=>by cases h⟩;cases d<;>simp[Zeo,hu] at Zh3<;>simp[execOp,ho,hx,Instr.loadAt,Instr.sureAddr,loadVar,isAgg,underlying,hu,Go.sizeOf,typeInfo,hti,Yt]
 | false=>
  match us,h1 Zh3 with
  | [u],_=>
   refine⟨u,?_,λh=>(by cases h),λ_=>rfl⟩;have h0:=hc 0 u rfl;simp only[Va3] at h0;cases d<;>simp[Zeo,hu] at Zh3<;>simp[execOp,ho,hx,Instr.loadAt,Instr.sureAddr,loadVar,isAgg,underlying,hu,load,Sem.run,h0]
theorem Z5n {t:TypeId} {x:Operand} {f off:Nat} (ho:o.op=.fieldAddr t x f) (hf:Zu7 P t f=some off) {g m:Nat} (hx:a.eval x=.pointer (some ⟨g,m,none⟩)):
  (execOp a.eval o).run P w=.ok (.value (.pointer (some ⟨g,m+off,none⟩))) w:=by
 unfold Zu7 at hf;split at hf
 .rename_i fs hu
  obtain⟨fl,Q9,hf⟩:=ZZb.1 hf;split at hf
  .cases hf
  .rename_i Ws
   simp only[ZZd] at hf;subst hf;have Yvr:∃ti,P.info? fl.type=some ti/\ti.size≠0:=by
    unfold Program.cellsOf at Ws;cases hq:P.info? fl.type with
    | none=>rw[hq] at Ws;simp at Ws
    | some ti=>rw[hq] at Ws;exact⟨ti,rfl,by simpa using Ws⟩
   obtain⟨ti,hti,Yf⟩:=Yvr;rw[<-Zah];simp[execOp,ho,hx,Instr.fieldAt,underlying,hu,Q9,Instr.sureAddr,fieldPlace,Go.sizeOf,typeInfo,hti,Yf]
 .cases hf
theorem Yj3 {t e:TypeId} {x ix:Operand} {m len c:Nat} {kd:IntKind} {g q:Nat} (ho:o.op=.indexAddr t x ix) (ht:Wd P t=some e) (hz:Zx P e≠0) (hi:a.eval ix=.int kd (m:Int)) (hx:a.eval x=.slice (some ⟨g,q,none⟩) len c) (hl:m < len):
  (execOp a.eval o).run P w=.ok (.value (.pointer (some ⟨g,q+m*Zx P e,none⟩))) w:=by
 have hu:=Zbi ht;obtain⟨ti,hti,Ws⟩:∃ti,P.info? e=some ti/\ti.size=Zx P e:=by
  unfold Zx Program.cellsOf at hz ⊢;cases hq:P.info? e with
  | none=>rw[hq] at hz;simp at hz
  | some ti=>exact⟨ti,rfl,rfl⟩
 have h1:(0:Int)<=(m:Int)/\(m:Int) < (len:Int):=⟨by omega,by omega⟩;rw[<-Zah];simp[execOp,ho,hx,hi,Instr.indexAt,asIntOf,underlying,hu,Go.sizeOf,typeInfo,hti,Ws,hl]
theorem Zl0 {u v:Value} (h:LvR w n u (.lit v)):u=v:=by cases h;rfl
theorem Xn.litV (h:Xn P w0 io w a.tmps s n) {x:Operand} {u:Value} (hx:Xu (toV (Ev.opL s x))=some u):a.eval x=u:=by
 have h1:=h.opL x;cases hq:Ev.opL s x<;>rw[hq] at hx h1<;>simp only[toV,Xu] at hx<;>try cases hx
 exact Zl0 h1
theorem OwZ.top {sz:Nat} {e:TypeId} {u:Value} {rows:List (List V)} {fp:List Nat} (h:OwZ w sz e u rows fp) (Yf:rows≠[]):∃g q c cur fp',u=.slice (some ⟨g,q,none⟩) rows.length c/\w.heap[g]?=some (.cells cur e (0,0))/\rows.length<=c/\c<=maxLen/\(∀r∈rows,r.length=sz)/\q+c*sz=cur.size/\
  OwL w ((cur.toList.drop q).take (rows.length*sz)) rows.flatten fp'/\fp=g::fp':=by
 rcases h with⟨A,_,h,_⟩|h
 .exact absurd h Yf
 .exact h
theorem OwZ.cell {sz:Nat} {e:TypeId} {u:Value} {rows:List (List V)} {fp:List Nat} (h:OwZ w sz e u rows fp) {j m:Nat} {row:List V} {x:V} (hj:rows[j]?=some row) (hm:row[m]?=some x):
  ∃g q c cur fp' y f,u=.slice (some ⟨g,q,none⟩) rows.length c/\w.heap[g]?=some (.cells cur e (0,0))/\fp=g::fp'/\w.cell? ⟨g,q+j*row.length+m,none⟩=some y/\Ow w y x f/\(∀k∈f,k∈fp')/\cur[q+j*row.length+m]?=some y:=by
 obtain⟨g,q,c,cur,fp',h1,h2,h3,h4,h5,h6,h7,h8⟩:=h.top (λe=>by rw[e] at hj;simp at hj);have hrl:=h5 row (Vag hj);have hk:=Zdx h5 hj hm;obtain⟨y,f,hy,hO,hf⟩:=h7.get _ _ hk;have hc:cur[q+(j*sz+m)]?=some y:=by
  rw[Vai] at hy;split at hy
  .simpa using hy
  .cases hy
 rw[hrl];refine⟨g,q,c,cur,fp',y,f,h1,h2,h8,?_,hO,hf,by rw[Nat.add_assoc];exact hc⟩;rw[Nat.add_assoc,cell_of_row w g _ cur e (0,0) h2];exact hc
theorem Zmw.ok (h:Xn P w0 io w a.tmps s n) (hop:Zmw P s o v):∃u,(execOp a.eval o).run P w=.ok (.value u) w/\LvR w n u v:=by
 cases hop with
 | @move x _ ho hx=>
  subst hx;refine⟨a.eval x,?_,h.opL x⟩;rcases ho with ho|ho<;>simp[execOp,ho]
 | @pick c x y t _ ho hc hx=>
  subst hx;have h1:=h.opL c;rw[hc] at h1;have hb:=Zl0 h1;refine⟨if t then a.eval x else a.eval y,?_,?_⟩
  .cases t<;>simp[execOp,ho,hb,asBool]
  .cases t
   .exact h.opL y
   .exact h.opL x
 | @extract t i vs _ ho ht hv=>
  have h1:=h.opL t;rw[ht] at h1;generalize hb:a.eval t=b at h1;cases h1 with
  | @tup us _ hl hr=>
   have hi:=(ZZh.1 hv).1;have hu:us[i]?=some us[i]:=Vaf (by omega);exact⟨us[i],by simp[execOp,ho,hb,Instr.extract,hu],hr i _ _ hu hv⟩
 | @plain v' he=>
  unfold Xd at he;split at he
  .rename_i hc
   rw[ZZg] at hc;obtain⟨hp,Qy⟩:=hc;split at he
   .rename_i val hev
    have hcg:execOp a.eval o=execOp (λx=>(Xu (toV (Ev.opL s x))).getD undef) o:=Ztq hp (λx hx=>by
     have h1:=ZZk.1 Qy x hx;obtain⟨u,hu⟩:=Val.1 h1;rw[hu];exact h.litV hu)
    refine⟨val,by rw[hcg];exact Ymn hev w,?_⟩;have hv:∀(w:World),En w (λ_=>True) (λ_=>none) val (.lit v'):=λw=>Yck he;cases hv w with
    | lit hs=>exact .lit hs
   .cases he
  .cases he
 | @len x t i b ho ht hx hb=>
  obtain⟨e,Wx⟩:=Val.1 ht;have hu:=Zbi Wx;have hq:∃A c,a.eval x=.slice A b.rows.length c:=by
   have h1:=h.opL x;rw[hx] at h1;generalize Yb:a.eval x=q at h1;cases h1;have hO:=h.obs i b hb;unfold ObR at hO;split at hO
   .rcases hO with⟨A,h1,h2,_⟩|⟨g,o,c,cur,fp',h1,_⟩
    .exact⟨A,0,by rw[h1,h2];rfl⟩
    .exact⟨_,_,h1⟩
   .have:=hO.2
    generalize b.rows=R at this ⊢;generalize n.us i=z at this ⊢;cases this with
    | emp=>exact⟨_,_,rfl⟩
    | tr hn=>exact⟨_,_,by rw[hn]⟩
  obtain⟨A,c,hq⟩:=hq;refine⟨.int .i64 b.rows.length,?_,.lit rfl⟩;simp[execOp,ho,resolve,invoke,builtin,hq,Builtin.len_,underlying,hu,goInt]
 | @fieldB t x f off b m ho hf hx=>
  have h1:=h.opL x;rw[hx] at h1;generalize hb:a.eval x=q at h1;cases h1 with
  | bp hU=>exact⟨_,Z5n ho hf hb,.bp hU⟩
 | @fieldO t x f off i j m sz ho hf hx=>
  have h1:=h.opL x;rw[hx] at h1;generalize hb:a.eval x=q at h1;cases h1 with
  | op hU hi=>exact⟨_,Z5n ho hf hb,by rw[Nat.add_assoc];exact .op hU hi⟩
 | @index t e x ix i m b row ho ht hz hn hx hb Yx hrl Yc=>
  have hl:=(ZZh.1 Yx).1;have h1:=h.opL x;rw[hx] at h1;generalize hq:a.eval x=q at h1;cases h1 with
  | ob hU Yh1=>
   have hO:=h.obs i b hb;unfold ObR at hO;rw[Yc] at hO;obtain⟨g,q,c,cur,fp',h1,_⟩:=hO.top (λe=>by rw[e] at hl;simp at hl);have hi:∃kd,a.eval ix=.int kd (m:Int):=by
    have h2:=h.opL ix;cases hq2:Ev.opL s ix<;>rw[hq2] at hn h2<;>simp only[toV,Xq] at hn<;>try cases hn
    rename_i v2;rw[Zl0 h2];split at hn
    .rename_i kd k hk
     injection hk with hk;split at hn
     .rename_i h0
      simp only[ZZd] at hn;exact⟨kd,by rw[hk,<-hn,Int.toNat_of_nonneg h0]⟩
     .cases hn
    .cases hn
   obtain⟨kd,hi⟩:=hi;exact⟨_,Yj3 ho ht hz hi (hq.trans h1) hl,.op (off:=0) hU h1⟩
 | @loadB t x b m k _ ho hx hk hl Yf hv=>
  have h1:=h.opL x;rw[hx] at h1;generalize hq:a.eval x=q at h1;cases h1 with
  | bp hU=>
   obtain⟨cur,e,hg,Ws,hc⟩:=h.box b k hk;obtain⟨Yl,hc⟩:=hc Yf;have X8:cur.size=(s.bx b).length:=by omega
   have hsz2:(((s.bx b).drop m).take (Zx P t)).length=Zx P t:=by simp;omega
   have hul:((cur.toList.drop m).take (Zx P t)).length=Zx P t:=by simp;omega
   have Zcq:∀j u,((cur.toList.drop m).take (Zx P t))[j]?=some u->cur[m+j]?=some u/\j < Zx P t:=λj u hj=>by
    rw[Vai] at hj;split at hj
    .rename_i Z5
     exact⟨by simpa using hj,Z5⟩
    .cases hj
   have Yx:∀j y,(((s.bx b).drop m).take (Zx P t))[j]?=some y->(s.bx b)[m+j]?=some y:=λj y hj=>by
    rw[Vai] at hj;split at hj
    .simpa using hj
    .cases hj
   unfold Yci at hv;split at hv
   case isFalse=>cases hv
   rename_i Zxi;obtain⟨u,hr,Y4,Ka⟩:=Ybp (P:=P) (w:=w) (us:=(cur.toList.drop m).take (Zx P t)) ho hq hul Zxi (λhf=>by
    rw[hf] at hv;simp only[ZZf,if_false] at hv;split at hv
    .rename_i y hy
     rw[hul,<-hsz2,hy];rfl
    .cases hv) (λj u hj=>by rw[cell_of_row w _ _ cur e (0,0) hg];exact (Zcq j u hj).1)
   refine⟨u,hr,?_⟩;cases Zh3:Zeo P t with
   | true=>
    rw[Zh3] at hv;simp only[if_true,ZZd] at hv;subst hv;rw[Y4 Zh3];refine .agg (by rw[List.size_toArray,hul,hsz2]) (λy hy=>?_) (λj u y hu hy=>?_)
    .obtain⟨j,hj⟩:=Va1 hy
     have Z5:m+j < cur.size:=by
      have:=(ZZh.1 (Yx j y hj)).1;omega
     exact (hc (m+j) cur[m+j] y (Vaf Z5) (Yx j y hj)).1
    .exact (hc (m+j) u y (Zcq j u (by simpa using hu)).1 (Yx j y hy)).2
   | false=>
    rw[Zh3] at hv;simp only[ZZf,if_false] at hv;split at hv
    .rename_i y hy
     simp only[ZZd] at hv;subst hv;have hu:=Ka Zh3;exact (hc (m+0) u y (Zcq 0 u (by rw[hu];rfl)).1 (Yx 0 y (by rw[hy];rfl))).2
    .cases hv
 | @loadL t x i j m sz b row v' ho hx hb Yc hz h1 ha hu hj hv=>
  have h2:=h.opL x;rw[hx] at h2;generalize hq:a.eval x=q at h2;cases h2 with
  | @op _ _ _ _ g q' n' c hU hi=>
   have hO:=h.obs i b hb;unfold ObR at hO;rw[Yc] at hO;obtain⟨g2,q2,c2,cur,fp',y,f,e1,e2,e3,e4,e5,e6,_⟩:=hO.cell hj hv;rw[hi] at e1;injection e1 with e1;injection e1 with e1;injection e1 with e1 e1';subst e1;subst e1';subst hz;obtain⟨u,hr,_,Ka⟩:=Ybp (P:=P) (w:=w) (us:=[y]) ho hq (by rw[h1];rfl) hu (λ_=>rfl) (λk u hk=>by
    cases k with
    | zero=>simp only[Vbc,ZZd] at hk;subst hk;exact e4
    | succ k=>simp at hk)
   have:=Ka ha;injection this with this _;subst this;refine⟨_,hr,?_⟩;cases e5 with|lit hs=>exact .lit hs
 | @loadN t x i j m sz b row r ho hx hb Yc hz h1 ha hu hj hv=>
  have h2:=h.opL x;rw[hx] at h2;generalize hq:a.eval x=q at h2;cases h2 with
  | @op _ _ _ _ g q' n' c hU hi=>
   have hO:=h.obs i b hb;unfold ObR at hO;rw[Yc] at hO;obtain⟨g2,q2,c2,cur,fp',y,f,e1,e2,e3,e4,e5,e6,_⟩:=hO.cell hj hv;rw[hi] at e1;injection e1 with e1;injection e1 with e1;injection e1 with e1 e1';subst e1;subst e1';subst hz;obtain⟨u,hr,_,Ka⟩:=Ybp (P:=P) (w:=w) (us:=[y]) ho hq (by rw[h1];rfl) hu (λ_=>rfl) (λk u hk=>by
    cases k with
    | zero=>simp only[Vbc,ZZd] at hk;subst hk;exact e4
    | succ k=>simp at hk)
   have:=Ka ha;injection this with this _;subst this;exact⟨_,hr,.nc hU hi (by rw[e3];exact Vab) e4⟩
end
structure LPt where
 bk:Nat->Option Nat
 bx:Nat->Option (List LV)
 ob:Nat->Option LO
def no1 {α:Type}:Nat->Option α:=λ_=>none
def at1 {α:Type} (d:Nat) (x:α):Nat->Option α:=λi=>if i=d then some x else none
def LPt.no:LPt:=⟨no1,no1,no1⟩
def LS.add (s:LS) (p:LPt) (used:List Nat):LS:=⟨s.env,λi=>(p.ob i).or (s.ob i),λb=>(p.bk b).or (s.bk b),λb=>(p.bx b).getD (s.bx b),used⟩
def Zzl:LV->Option (List LV)
 | .agg cs=>some cs
 | .lit v=>some [.lit v]
 | .ob i=>some [.ob i]
 | _=>none
def rdC (s:LS):LV->Option V
 | .lit (.slice none 0 0)=>some (.tr [])
 | .lit v=>some (.lit v)
 | .ob i=>(s.ob i).map λb=>.tr b.rows
 | _=>none
def rdCs (s:LS):List LV->Option (List V)
 | []=>some []
 | x::r=>(rdC s x).bind λy=>(rdCs s r).map (y::·)
def rdA (s:LS):LV->Option V
 | .agg cs=>(rdCs s cs).map .agg
 | x=>rdC s x
def rdAs (s:LS):List LV->Option (List V)
 | []=>some []
 | x::r=>(rdA s x).bind λy=>(rdAs s r).map (y::·)
def tkC (P:Program) (d k:Nat):V->Option (LV×List LO)
 | .lit v=>some (.lit v,[])
 | .own e rows=>some (.ob (1000*d+k),[⟨true,P.cellsOf e,e,rows⟩])
 | _=>none
def tkCs (P:Program) (d:Nat):Nat->List V->Option (List LV×List LO)
 | _,[]=>some ([],[])
 | k,x::r=>(tkC P d k x).bind λy=>(tkCs P d (k+y.2.length) r).map λz=>(y.1::z.1,y.2++z.2)
def tkO (P:Program) (d k:Nat):V->Option (LV×List LO)
 | .agg cs=>(tkCs P d k cs).map λy=>(.agg y.1,y.2)
 | x=>tkC P d k x
def tkOs (P:Program) (d:Nat):Nat->List V->Option (List LV×List LO)
 | _,[]=>some ([],[])
 | k,x::r=>(tkO P d k x).bind λy=>(tkOs P d (k+y.2.length) r).map λz=>(y.1::z.1,y.2++z.2)
def tkR (P:Program) (d:Nat):V->Option (LV×List LO)
 | .tup vs=>(tkOs P d 0 vs).map λy=>(.tup y.1,y.2)
 | x=>tkO P d 0 x
def Zkz (d:Nat) (l:List LO):Nat->Option LO:=λi=>if i / 1000=d then l[i % 1000]? else none
def Zus (l:List Yh):Bool:=l.all λm=>m == .rd
inductive LOp (P:Program) (M:Yp) (s:LS) (o:Oper):LV->LPt->Prop
 | look {v:LV} (h:Zmw P s o v):LOp P M s o v .no
 | alloc {t:TypeId} {z:List V} {d:Nat} (ho:o.op=.alloc t) (hz:Zc8 P t=some z) (hd:o.dst=some d):LOp P M s o (.bp d 0) ⟨at1 d z.length,no1,no1⟩
 | box {t:TypeId} {x:Operand} {cs:List LV} {d:Nat} (ho:o.op=.box t x) (hc:Zzl (opL s x)=some cs) (hd:o.dst=some d):LOp P M s o (.bp d 0) ⟨at1 d cs.length,at1 d cs,no1⟩
 | store {t:TypeId} {x y:Operand} {b:Nat} {cs:List LV} (ho:o.op=.store t x y) (hx:opL s x=.bp b 0) (hb:s.bk b=some cs.length) (hc:Zzl (opL s y)=some cs) (hl:cs.length=Zx P t) (hz:Zx P t≠0):LOp P M s o .und ⟨no1,at1 b cs,no1⟩
 | call {f:Operand} {ars:Array Operand} {ts:Array TypeId} {g:FuncId} {d:Nat} {xs:List V} {r:V} {os:List V} {v:LV} {l:List LO} (ho:o.op=.call {callee:=.value f,args:=ars,argTypes:=ts}) (hf:opL s f=.fn g) (ha:rdAs s (ars.toList.map (opL s))=some xs)
   (hm:Zus (M.modes g)=true) (hg:Zt P M (g,xs,r,os)) (hr:tkR P d r=some (v,l)) (hl:l.length<=1000) (hd:o.dst=some d):LOp P M s o v ⟨no1,no1,Zkz d l⟩
def Ks (o:Oper):Bool:=
 match o.op with
 | .alloc _|.box ..=>true
 | .call c=>match c.callee with|.value _=>true|_=>false
 | _=>false
def LPost (P:Program) (w0:World) (io:Nat->Prop) (tmps:Array Value) (s:LS) (n:Nm) (o:Oper) (v:LV) (p:LPt) (val:Value) (w':World):Prop:=
 ∃n',n.Ext n'/\(∀d∈n'.U,d∈n.U\/o.dst=some d/\Ks o=true)/\LvR w' n' val v/\∀used,(∀d∈n'.U,d∈used)->Xn P w0 io w' tmps (s.add p used) n'
section
variable {P:Program} {M:Yp} {w0:World} {io:Nat->Prop} {w w':World} {a:Act} {tmps:Array Value} {s s':LS} {n n':Nm} {o:Oper} {v:LV} {p:LPt}
theorem Yiw {u:Value} {x:LV} {cs:List LV} (h:LvR w n u x) (hc:Zzl x=some cs):u.cells.size=cs.length/\∀(j:Nat) (v:Value) (y:LV),u.cells[j]?=some v->cs[j]?=some y->Zfn y=true/\LvR w n v y:=by
 have one:(∀vs,u≠.agg vs)->Zfn x=true->cs=[x]->u.cells.size=cs.length/\∀(j:Nat) (v:Value) (y:LV),u.cells[j]?=some v->cs[j]?=some y->Zfn y=true/\LvR w n v y:=by
  rintro hu hx rfl;have huc:u.cells=#[u]:=by
   cases u<;>first|rfl|exact absurd rfl (hu _)
  rw[huc];refine⟨rfl,λj v y hv hy=>?_⟩;cases j with
  | zero=>
   have h1:u=v:=by simpa using hv
   have h2:x=y:=by simpa using hy
   subst h1;subst h2;exact⟨hx,h⟩
  | succ j=>simp at hy
 cases x<;>simp only[Zzl,ZZd] at hc<;>try cases hc
 case agg=>cases h with|agg hl hce hr=>exact⟨hl,λj v y hv hy=>⟨hce _ (Vag hy),hr j v y hv hy⟩⟩
 case lit v=>cases h with|lit hs=>exact one (by rintro vs rfl;simp[Q8] at hs) rfl rfl
 case ob i=>cases h with|ob hU h1=>exact one (by rintro vs e;rw[e] at h1;simp[Value.oneCell'] at h1) rfl rfl
theorem Wm.new (w:World) (ob:Obj):Wm w.heap.size (λ_=>False) w (w.alloc ob):=
 ⟨rfl,rfl,rfl,by rw[Zn8];omega,λk hk _=>Below.heap_alloc w ob k hk⟩
theorem BxR.ext {b m:Nat} {row:List LV} (h:BxR w n b m row) (he:n.Ext n') (hb:b∈n.U):BxR w n' b m row:=by
 obtain⟨cur,e,h1,h2,h3⟩:=h;exact⟨cur,e,by rw[he.bs b hb];exact h1,h2,λhn=>⟨(h3 hn).1,λk v x hv hx=>⟨((h3 hn).2 k v x hv hx).1,((h3 hn).2 k v x hv hx).2.cell ((h3 hn).2 k v x hv hx).1 he⟩⟩⟩
theorem Xn.newBox (h:Xn P w0 io w tmps s n) {d:Nat} (hd:d ∉ n.U) {us:Array Value} {e:TypeId} {bx:Nat->Option (List LV)} (hbx:bx=no1\/∃cs,bx=at1 d cs/\us.size=cs.length/\∀(j:Nat) (v:Value) (y:LV),us[j]?=some v->cs[j]?=some y->Zfn y=true/\LvR w n v y):
  ∃n',n.Ext n'/\(∀x∈n'.U,x∈n.U\/x=d)/\LvR (w.alloc (.cells us e)) n' (.pointer (some ⟨w.heap.size,0,none⟩)) (.bp d 0)/\∀used,(∀x∈n'.U,x∈used)->Xn P w0 io (w.alloc (.cells us e)) tmps (s.add ⟨at1 d us.size,bx,no1⟩ used) n':=by
 have hg:=h.grow (Wm.new w (.cells us e))
 let n':Nm:=⟨n.us,n.fps,upd n.bs d w.heap.size,d::n.U⟩
 have he:n.Ext n':=⟨λ_ _=>rfl,λ_ _=>rfl,λb hb=>Yo (λe=>hd (e▸hb)),λx hx=>Vad _ hx⟩;have hbd:n'.bs d=w.heap.size:=Z1 _ _ _;have hdn:s.bk d=none:=by
  cases hk:s.bk d with
  | none=>rfl
  | some m=>exact absurd (h.usedB d m hk) hd
 have hbk:∀b m,(s.add ⟨at1 d us.size,bx,no1⟩ []).bk b=some m->(b=d/\m=us.size)\/(b≠d/\s.bk b=some m):=λb m hb=>by
  simp only[LS.add,at1] at hb;by_cases e:b=d
  .rw[ZZj e] at hb
   simp only[Option.some_or,ZZd] at hb;exact .inl ⟨e,hb.symm⟩
  .rw[ZZi e] at hb
   exact .inr ⟨e,by simpa using hb⟩
 have Zh6:∀b m,s.bk b=some m->b∈n.U/\b≠d/\n'.bs b=n.bs b/\n.bs b < w.heap.size:=λb m hb=>by
  have hU:=h.usedB b m hb;obtain⟨cur,e,h1,_⟩:=h.box b m hb;exact⟨hU,λe=>hd (e▸hU),he.bs b hU,(Vam.1 h1).1⟩
 refine⟨n',he,λx hx=>by rcases Vav.1 hx with h|h;exact .inr h;exact .inl h,?_,λused hu=>?_⟩
 .have:=LvR.bp (w:=w.alloc (.cells us e)) (n:=n') (b:=d) (off:=0) Vab
  rw[hbd] at this;exact this
 .refine {env:=λt v hv=>(hg.env t v hv).grow he (λ_ _=>rfl),out:=hg.out,obs:=λi o ho=>?_,noO:=λi hi=>?_,noB:=λb hb=>?_,box:=λb m hb=>?_,mineO:=hg.mineO,mineB:=λb m hb=>?_,apO:=hg.apO,once:=hg.once,apB:=λb b' m m' hb Yb Yf=>?_,apOB:=λi b m hb=>?_,usedO:=λi o ho=>?_,usedB:=λb m hb=>?_,used:=hu,left:=hg.left,base:=hg.base}
  .simp only[LS.add,no1,Vcx] at ho;exact hg.obs i o ho
  .simp only[LS.add,no1,Vcx] at hi;exact hg.noO i hi
  .have Yf:b≠d:=λe=>by subst e;simp[LS.add,at1] at hb
   have Yb:s.bk b=none:=by simpa [LS.add,at1,Yf] using hb
   have e1:(bx b).getD (s.bx b)=s.bx b:=by
    rcases hbx with rfl|⟨cs,rfl,_⟩
    .rfl
    .simp[at1,Yf]
   exact e1.trans (h.noB b Yb)
  .rcases hbk b m hb with⟨rfl,rfl⟩|⟨Yf,Yb⟩
   .show BxR _ n' b us.size ((bx b).getD (s.bx b))
    refine⟨us,e,by rw[hbd];exact Z4n w _,rfl,λhn=>?_⟩;rcases hbx with rfl|⟨cs,rfl,hl,hc⟩
    .exact absurd (h.noB b hdn) hn
    .have e1:((at1 b cs b).getD (s.bx b))=cs:=by simp[at1]
     rw[e1];exact⟨hl.symm,λk v x hv hx=>⟨(hc k v x hv hx).1,(hc k v x hv hx).2.cell (hc k v x hv hx).1 he⟩⟩
   .have e1:(bx b).getD (s.bx b)=s.bx b:=by
     rcases hbx with rfl|⟨cs,rfl,_⟩
     .rfl
     .simp[at1,Yf]
    show BxR _ n' b m ((bx b).getD (s.bx b));rw[e1];exact (hg.box b m Yb).ext he (Zh6 b m Yb).1
  .rcases hbk b m hb with⟨rfl,rfl⟩|⟨Yf,Yb⟩
   .rw[hbd];exact h.base.base
   .rw[(Zh6 b m Yb).2.2.1];exact h.mineB b m Yb
  .rcases hbk b m hb with⟨rfl,rfl⟩|⟨h1,h2⟩<;>rcases hbk b' m' Yb with⟨rfl,rfl⟩|⟨h3,h4⟩
   .exact absurd rfl Yf
   .rw[hbd,(Zh6 b' m' h4).2.2.1];have:=(Zh6 b' m' h4).2.2.2;omega
   .rw[hbd,(Zh6 b m h2).2.2.1];have:=(Zh6 b m h2).2.2.2;omega
   .rw[(Zh6 b m h2).2.2.1,(Zh6 b' m' h4).2.2.1];exact h.apB b b' m m' h2 h4 Yf
  .rcases hbk b m hb with⟨rfl,rfl⟩|⟨h1,h2⟩
   .rw[hbd];intro Z7;have:=(h.mineO i _ Z7).2;omega
   .rw[(Zh6 b m h2).2.2.1];exact h.apOB i b m h2
  .simp only[LS.add,no1,Vcx] at ho;exact Vad _ (h.usedO i o ho)
  .rcases hbk b m hb with⟨rfl,rfl⟩|⟨h1,h2⟩
   .exact Vab
   .exact Vad _ (h.usedB b m h2)
theorem Xn.rdC_ok (h:Xn P w0 io w tmps s n) {u:Value} {x:LV} {y:V} (hu:LvR w n u x) (hx:Zfn x=true) (hr:rdC s x=some y):Rd w (λg=>g < w.heap.size) u y:=by
 unfold rdC at hr;split at hr
 .simp only[ZZd] at hr;subst hr;rw[Zl0 hu];exact .emp
 .simp only[ZZd] at hr;subst hr;cases hu with|lit hs=>exact .lit hs
 .rename_i i
  obtain⟨b,hb,rfl⟩:=ZZc.1 hr;cases hu with
  | ob hU h1=>
   have hO:=h.obs i b hb;unfold ObR at hO;split at hO
   .exact hO.ow.rd λg hg=>hO.lt g hg
   .exact hO.2.mono (λ_ _ _=>rfl) (λg hg=>Va9 hg.1 h.base.base)
 .cases hr
theorem Yl9 {x:LV} {y:V} (hr:rdC s x=some y):Zfn x=true:=by
 unfold rdC at hr;split at hr<;>first|rfl|cases hr
theorem Xn.rdCs_ok (h:Xn P w0 io w tmps s n):∀{xs:List LV} {ys:List V},rdCs s xs=some ys->ys.length=xs.length/\∀(j:Nat) (u:Value) (x:LV) (y:V),xs[j]?=some x->ys[j]?=some y->LvR w n u x->Rd w (λg=>g < w.heap.size) u y:=by
 intro xs
 induction xs with
 | nil=>
  intro ys hr;simp only[rdCs,ZZd] at hr;subst hr;exact⟨rfl,λj u x y hx=>by simp at hx⟩
 | cons x xs ih=>
  intro ys hr;simp only[rdCs] at hr;obtain⟨y,h1,hr⟩:=ZZb.1 hr;obtain⟨zs,h2,rfl⟩:=ZZc.1 hr;obtain⟨l,e⟩:=ih h2;refine⟨by simp[l],λj u x' y' hx hy hu=>?_⟩;cases j with
  | zero=>
   have e1:x=x':=by simpa using hx
   have e2:y=y':=by simpa using hy
   subst e1;subst e2;exact h.rdC_ok hu (Yl9 h1) h1
  | succ j=>exact e j u x' y' (by simpa using hx) (by simpa using hy) hu
theorem Xn.rdA_ok (h:Xn P w0 io w tmps s n) {u:Value} {x:LV} {y:V} (hu:LvR w n u x) (hr:rdA s x=some y) (ρ:Rho):En w (λg=>g < w.heap.size) ρ u y:=by
 unfold rdA at hr;split at hr
 .rename_i cs
  obtain⟨ys,h1,rfl⟩:=ZZc.1 hr;cases hu with
  | @agg vs _ hl hc hr=>
   obtain⟨l,e⟩:=h.rdCs_ok h1;have key:∀(j:Nat) (y:V),ys[j]?=some y->∃v,vs[j]?=some v/\Rd w (λg=>g < w.heap.size) v y:=λj y hy=>by
    have Z5:=(ZZh.1 hy).1;have hv:vs[j]?=some vs[j]:=Vaf (by omega);have hx:cs[j]?=some (cs[j]'(by omega)):=Vac (by omega);exact⟨_,hv,e j _ _ y hx hy (hr j _ _ hv hx)⟩
   refine .agg (by omega) (λy hy=>?_) (λj v y hv hy=>?_)
   .obtain⟨j,hj⟩:=Va1 hy
    obtain⟨v,_,h2⟩:=key j y hj;exact h2.cellish
   .obtain⟨v',h1,h2⟩:=key j y hy
    rw[hv] at h1;injection h1 with h1;subst h1;exact h2.en
 .exact (h.rdC_ok hu (Yl9 hr) hr).en
theorem Z6s {ms:List Yh} (h:Zus ms=true):ms.headD .rd=.rd/\Zus ms.tail=true:=by
 cases ms with
 | nil=>exact⟨rfl,rfl⟩
 | cons m ms=>
  simp only[Zus,Va6,ZZg,beq_iff_eq] at h;exact⟨h.1,h.2⟩
theorem Xn.rdAs_ok (h:Xn P w0 io w a.tmps s n) {top:Nat->Prop}:∀{xs:List Operand} {ys:List V} {ms:List Yh},Zus ms=true->rdAs s (xs.map (Ev.opL s))=some ys->Zt6 P w (λg=>g < w.heap.size) top ms (xs.map a.eval) ys []:=by
 intro xs
 induction xs with
 | nil=>
  intro ys ms _ hr;simp only[Vck,rdAs,ZZd] at hr;subst hr;exact .nil
 | cons x xs ih=>
  intro ys ms hm hr;simp only[Va7,rdAs] at hr;obtain⟨y,h1,hr⟩:=ZZb.1 hr;obtain⟨zs,h2,rfl⟩:=ZZc.1 hr;obtain⟨hm1,hm2⟩:=Z6s hm;have:=Zt6.cons (P:=P) (w:=w) (ok:=λg=>g < w.heap.size) (top:=top) (ms:=ms) (u:=a.eval x) (x:=y) (f1:=[]) (by rw[hm1];exact⟨λρ=>h.rdA_ok (h.opL x) h1 ρ,rfl⟩) (ih hm2 h2);exact this
end
def Tk (P:Program) (w:World) (d k:Nat) (l:List LO) (fp:List Nat) (R:Nm->Prop):Prop:=
 ∃W:List (Value×List Nat),W.length=l.length/\(∀(j:Nat) (o:LO) (p:Value×List Nat),l[j]?=some o->W[j]?=some p->o.own=true/\OwZ w o.sz o.el p.1 o.rows p.2)/\fp=(W.map (·.2)).flatten/\
  ∀n':Nm,d∈n'.U->k+l.length<=1000->(∀(j:Nat) (p:Value×List Nat),W[j]?=some p->n'.us (1000*d+(k+j))=p.1)->R n'
section
variable {P:Program} {M:Yp} {w0:World} {io:Nat->Prop} {w w':World} {a:Act} {tmps:Array Value} {s s':LS} {n n':Nm} {o:Oper} {v:LV} {p:LPt} {d k:Nat} {l l1 l2:List LO} {fp f1 f2:List Nat} {R R1 R2:Nm->Prop} {okv top:Nat->Prop}
theorem Tk.nil (h:∀n',R n'):Tk P w d k [] [] R:=⟨[],rfl,λj o p hj=>by simp at hj,rfl,λn' _ _ _=>h n'⟩
theorem Tk.mono (h:Tk P w d k l fp R1) (hR:∀n',R1 n'->R2 n'):Tk P w d k l fp R2:=by
 obtain⟨W,h1,h2,h3,h4⟩:=h;exact⟨W,h1,h2,h3,λn' a b c=>hR n' (h4 n' a b c)⟩
theorem Tk.app (h1:Tk P w d k l1 f1 R1) (h2:Tk P w d (k+l1.length) l2 f2 R2):Tk P w d k (l1++l2) (f1++f2) (λn'=>R1 n'/\R2 n'):=by
 obtain⟨W1,a1,a2,a3,a4⟩:=h1;obtain⟨W2,b1,b2,b3,b4⟩:=h2;refine⟨W1++W2,by simp[a1,b1],λj o p hl hW=>?_,by rw[a3,b3];simp,λn' hd hk hn=>⟨a4 n' hd (by simp at hk;omega) (λj p hj=>hn j p ?_),b4 n' hd (by simp at hk;omega) (λj p hj=>?_)⟩⟩
 .by_cases hj:j < l1.length
  .rw[Vaj hj] at hl
   rw[Vaj (by omega)] at hW;exact a2 j o p hl hW
  .rw[Vah (by omega)] at hl
   rw[Vah (by omega),a1] at hW;exact b2 _ o p hl hW
 .rw[Vaj (ZZh.1 hj).1];exact hj
 .have:=hn (l1.length+j) p (by rw[Vah (by omega),a1,Vbp];exact hj)
  rw[<-Nat.add_assoc k] at this;exact this
theorem Yyc {u:Value} {x:V} {y:LV} (h:Giv P w okv top u x fp) (ht:tkC P d k x=some (y,l)):Tk P w d k l fp (λn'=>Zfn y=true/\∀w',LvR w' n' u y):=by
 unfold tkC at ht;split at ht
 .simp only[ZZd,ZZe] at ht
  obtain⟨rfl,rfl⟩:=ht;cases h with
  | lit hs=>exact .nil λn'=>⟨rfl,λw'=>.lit hs⟩
 .rename_i e rows
  simp only[ZZd,ZZe] at ht;obtain⟨rfl,rfl⟩:=ht;cases h with
  | own hO hg=>
   refine⟨[(u,fp)],rfl,λj o p hl hW=>?_,by simp,λn' hd hk hn=>⟨rfl,λw'=>?_⟩⟩
   .cases j with
    | zero=>
     simp only[Vbc,ZZd] at hl hW;subst hl;subst hW;exact⟨rfl,hO⟩
    | succ j=>simp at hl
   .have h1:=hn 0 (u,fp) rfl
    simp only[Va3] at h1;have hdiv:(1000*d+k) / 1000=d:=by simp at hk;omega
    have:=LvR.ob (w:=w') (n:=n') (i:=1000*d+k) (by rw[hdiv];exact hd) (by rw[h1];exact (OwT.z hO).one);rw[h1] at this;exact this
 .cases ht
theorem Y2y {us:List Value} {xs:List V} (h:Zkf P w okv top us xs fp):∀{k:Nat} {ys:List LV} {l:List LO},tkCs P d k xs=some (ys,l)->ys.length=xs.length/\Tk P w d k l fp (λn'=>∀(j:Nat) (u:Value) (y:LV),us[j]?=some u->ys[j]?=some y->Zfn y=true/\∀w',LvR w' n' u y):=by
 induction h with
 | nil=>
  intro k ys l ht;simp only[tkCs,ZZd,ZZe] at ht;obtain⟨rfl,rfl⟩:=ht;exact⟨rfl,.nil λn' j u y hj=>by simp at hj⟩
 | cons hx _ ih=>
  intro k ys l ht;simp only[tkCs] at ht;obtain⟨⟨y,l1⟩,h1,ht⟩:=ZZb.1 ht;obtain⟨⟨zs,l2⟩,h2,ht⟩:=ZZc.1 ht;simp only[ZZe] at ht;obtain⟨rfl,rfl⟩:=ht;obtain⟨a,b⟩:=ih h2;refine⟨by simp[a],((Yyc hx h1).app b).mono λn' hR j u y' hu hy=>?_⟩;cases j with
  | zero=>
   simp only[Vbc,ZZd] at hu hy;subst hu;subst hy;exact hR.1
  | succ j=>exact hR.2 j u y' (by simpa using hu) (by simpa using hy)
theorem Ywu {u:Value} {x:V} {y:LV} (h:Zcd P w okv top u x fp) (ht:tkO P d k x=some (y,l)):Tk P w d k l fp (λn'=>∀w',LvR w' n' u y):=by
 unfold tkO at ht;split at ht
 .rename_i cs
  obtain⟨⟨ys,l1⟩,h1,ht⟩:=ZZc.1 ht;simp only[ZZe] at ht;obtain⟨rfl,rfl⟩:=ht;obtain⟨us,rfl,hL⟩:=h;obtain⟨a,b⟩:=Y2y hL h1;have Yl:=hL.length;refine b.mono λn' hR w'=>.agg (by simp at Yl;omega) (λy hy=>?_) (λj u y hu hy=>(hR j u y (by simpa using hu) hy).2 w');obtain⟨j,hj⟩:=Va1 hy;have Z5:=(ZZh.1 hj).1;have hu:us.toList[j]?=some us[j]!:=by
   rw[Vac (by omega)];simp[getElem!_def,show j < us.size by simp at Yl;omega]
  exact (hR j _ y hu hj).1
 .rename_i hx
  have h':Giv P w okv top u x fp:=by
   unfold Zcd at h;split at h
   .exact absurd rfl (hx _)
   .rename_i cs;simp[tkC] at ht
   .exact h
  exact (Yyc h' ht).mono λn' hR=>hR.2
theorem Y2a {us:List Value} {xs:List V} (h:Ze1 P w okv top us xs fp):∀{k:Nat} {ys:List LV} {l:List LO},tkOs P d k xs=some (ys,l)->ys.length=xs.length/\Tk P w d k l fp (λn'=>∀(j:Nat) (u:Value) (y:LV),us[j]?=some u->ys[j]?=some y->∀w',LvR w' n' u y):=by
 induction h with
 | nil=>
  intro k ys l ht;simp only[tkOs,ZZd,ZZe] at ht;obtain⟨rfl,rfl⟩:=ht;exact⟨rfl,.nil λn' j u y hj=>by simp at hj⟩
 | cons hx _ ih=>
  intro k ys l ht;simp only[tkOs] at ht;obtain⟨⟨y,l1⟩,h1,ht⟩:=ZZb.1 ht;obtain⟨⟨zs,l2⟩,h2,ht⟩:=ZZc.1 ht;simp only[ZZe] at ht;obtain⟨rfl,rfl⟩:=ht;obtain⟨a,b⟩:=ih h2;refine⟨by simp[a],((Ywu hx h1).app b).mono λn' hR j u y' hu hy=>?_⟩;cases j with
  | zero=>
   simp only[Vbc,ZZd] at hu hy;subst hu;subst hy;exact hR.1
  | succ j=>exact hR.2 j u y' (by simpa using hu) (by simpa using hy)
theorem tkR_ok {u:Value} {x:V} {y:LV} (h:Zp8 P w okv top u x fp) (ht:tkR P d x=some (y,l)):Tk P w d 0 l fp (λn'=>∀w',LvR w' n' u y):=by
 unfold tkR at ht;split at ht
 .obtain⟨⟨ys,l1⟩,h1,ht⟩:=ZZc.1 ht
  simp only[ZZe] at ht;obtain⟨rfl,rfl⟩:=ht;obtain⟨us,rfl,hL⟩:=h;obtain⟨a,b⟩:=Y2a hL h1;have Yl:=hL.length;exact b.mono λn' hR w'=>.tup (by simp at Yl;omega) (λj u y hu hy=>hR j u y (by simpa using hu) hy w')
 .rename_i hx
  have h':Zcd P w okv top u x fp:=by
   unfold Zp8 at h;split at h
   .exact absurd rfl (hx _)
   .exact h
  exact Ywu h' ht
theorem Z4s {i:Nat} {b:LO} (h:Zkz d l i=some b):i / 1000=d/\l[i % 1000]?=some b:=by
 unfold Zkz at h;split at h
 .exact⟨by assumption,h⟩
 .cases h
theorem Ycb {W:List (Value×List Nat)} {j:Nat} {p:Value×List Nat} (h:W[j]?=some p):∀g∈p.2,g∈(W.map (·.2)).flatten:=λg hg=>
 Vbw.2 ⟨p.2,Vbd.2 ⟨p,Vag h,rfl⟩,hg⟩
theorem Yvh {W:List (Value×List Nat)} (h:(W.map (·.2)).flatten.Nodup) {i j:Nat} {p q:Value×List Nat} (hi:W[i]?=some p) (hj:W[j]?=some q) (Yf:i≠j):∀g∈p.2,g ∉ q.2:=by
 induction W generalizing i j with
 | nil=>simp at hi
 | cons x W ih=>
  simp only[Va7,Vaz] at h;obtain⟨h1,h2,h3⟩:=Vap.1 h;cases i with
  | zero=>
   cases j with
   | zero=>exact absurd rfl Yf
   | succ j=>
    simp only[Vbc,ZZd] at hi;subst hi;exactλg hg hq=>h3 g hg g (Ycb (by simpa using hj) g hq) rfl
  | succ i=>
   cases j with
   | zero=>
    simp only[Vbc,ZZd] at hj;subst hj;exactλg hg hq=>h3 g hq g (Ycb (by simpa using hi) g hg) rfl
   | succ j=>exact ih h2 (by simpa using hi) (by simpa using hj) (by omega)
theorem Yyp {W:List (Value×List Nat)} (h:(W.map (·.2)).flatten.Nodup) {i:Nat} {p:Value×List Nat} (hi:W[i]?=some p):p.2.Nodup:=by
 induction W generalizing i with
 | nil=>simp at hi
 | cons x W ih=>
  simp only[Va7,Vaz] at h;obtain⟨h1,h2,h3⟩:=Vap.1 h;cases i with
  | zero=>
   simp only[Vbc,ZZd] at hi;subst hi;exact h1
  | succ i=>exact ih h2 (by simpa using hi)
theorem Xn.take (h:Xn P w0 io w tmps s n) (hd:d ∉ n.U) (ht:Tk P w d 0 l fp R) (hl:l.length<=1000) (hn:fp.Nodup) (hf:∀g∈fp,g < w.heap.size/\w0.heap.size<=g/\(∀i,g ∉ n.fps i)/\∀b m,s.bk b=some m->n.bs b≠g):
  ∃n',n.Ext n'/\(∀x∈n'.U,x∈n.U\/x=d)/\R n'/\∀used,(∀x∈n'.U,x∈used)->Xn P w0 io w tmps (s.add ⟨no1,no1,Zkz d l⟩ used) n':=by
 obtain⟨W,hW,hO,rfl,hR⟩:=ht
 let new:Nat->Option (Value×List Nat):=λi=>if i / 1000=d then W[i % 1000]? else none
 let n':Nm:=⟨λi=>((new i).map (·.1)).getD (n.us i),λi=>((new i).map (·.2)).getD (n.fps i),n.bs,d::n.U⟩
 have Y3:∀i p,new i=some p->i / 1000=d/\W[i % 1000]?=some p:=λi p hi=>by
  simp only[new] at hi;split at hi
  .exact⟨by assumption,hi⟩
  .cases hi
 have Zh6:∀i,i / 1000∈n.U->new i=none:=λi hi=>by
  simp only[new];exact ZZi (show ¬i / 1000=d fromλe=>hd (e▸hi))
 have hus:∀i,new i=none->n'.us i=n.us i/\n'.fps i=n.fps i:=λi hi=>by simp only[n',hi,Vc1,Vce,and_self]
 have Yo5:∀i p,new i=some p->n'.us i=p.1/\n'.fps i=p.2:=λi p hi=>by simp only[n',hi,Var,Va0,and_self]
 have he:n.Ext n':=⟨λi hi=>(hus i (Zh6 i hi)).1,λi hi=>(hus i (Zh6 i hi)).2,λ_ _=>rfl,λx hx=>Vad _ hx⟩;have hobs:∀i,(s.add ⟨no1,no1,Zkz d l⟩ []).ob i=(Zkz d l i).or (s.ob i):=λi=>rfl;have hnl:∀i,new i=none↔Zkz d l i=none:=λi=>by
  simp only[new,Zkz];split
  .rw[Vc2,Vc2,hW]
  .simp
 have Ztn:∀i p,new i=some p->∀g∈p.2,g∈(W.map (·.2)).flatten:=λi p hi g hg=>Ycb (Y3 i p hi).2 g hg;have Yv9:∀i g,g∈n'.fps i->(∃p,new i=some p/\g∈p.2)\/(new i=none/\g∈n.fps i):=λi g hg=>by
  cases hi:new i with
  | none=>rw[(hus i hi).2] at hg;exact .inr ⟨rfl,hg⟩
  | some p=>rw[(Yo5 i p hi).2] at hg;exact .inl ⟨p,rfl,hg⟩
 refine⟨n',he,λx hx=>by rcases Vav.1 hx with h|h;exact .inr h;exact .inl h,hR n' Vab (by omega) (λj p hj=>?_),λused hu=>?_⟩
 .have Z5:=(ZZh.1 hj).1
  have hi:new (1000*d+(0+j))=some p:=by
   simp only[new];rw[ZZj (by omega),show (1000*d+(0+j)) % 1000=j by omega];exact hj
  exact (Yo5 _ p hi).1
 .refine {env:=λt v hv=>(h.env t v hv).grow he (λ_ _=>rfl),out:=h.out,obs:=λi b hb=>?_,noO:=λi hi=>?_,noB:=h.noB,box:=λb m hb=>(h.box b m hb).ext he (h.usedB b m hb),mineO:=λi g hg=>?_,mineB:=h.mineB,apO:=λi j Yf g hg Z7=>?_,once:=λi=>?_,apB:=h.apB,apOB:=λi b m hb hg=>?_,usedO:=λi b hb=>?_,usedB:=λb m hb=>Vad _ (h.usedB b m hb),used:=hu,left:=h.left,base:=h.base}
  .have Yb:(Zkz d l i).or (s.ob i)=some b:=hb
   cases hi:new i with
   | none=>
    rw[(hnl i).1 hi,Vcx] at Yb;rw[(hus i hi).1,(hus i hi).2];exact h.obs i b Yb
   | some p=>
    obtain⟨h1,h2⟩:=Y3 i p hi;rw[(Yo5 i p hi).1,(Yo5 i p hi).2];cases hob:Zkz d l i with
    | none=>rw[(hnl i).2 hob] at hi;cases hi
    | some b'=>
     rw[hob,Option.some_or] at Yb;injection Yb with Yb;subst Yb;obtain⟨h3,h4⟩:=hO _ _ _ (Z4s hob).2 h2;unfold ObR;rw[h3];exact h4
  .have Yj:(Zkz d l i).or (s.ob i)=none:=hi
   rw[Option.or_eq_none_iff] at Yj;rw[(hus i ((hnl i).2 Yj.1)).2];exact h.noO i Yj.2
  .rcases Yv9 i g hg with⟨p,h1,h2⟩|⟨_,h2⟩
   .have:=hf g (Ztn i p h1 g h2)
    exact⟨.inr this.2.1,this.1⟩
   .exact h.mineO i g h2
  .rcases Yv9 i g hg with⟨p,h1,h2⟩|⟨_,h2⟩<;>rcases Yv9 j g Z7 with⟨q,h3,h4⟩|⟨_,h4⟩
   .obtain⟨a1,a2⟩:=Y3 i p h1
    obtain⟨b1,b2⟩:=Y3 j q h3;exact Yvh hn a2 b2 (by omega) g h2 h4
   .exact (hf g (Ztn i p h1 g h2)).2.2.1 j h4
   .exact (hf g (Ztn j q h3 g h4)).2.2.1 i h2
   .exact h.apO i j Yf g h2 h4
  .cases hi:new i with
   | none=>rw[(hus i hi).2];exact h.once i
   | some p=>rw[(Yo5 i p hi).2];exact Yyp hn (Y3 i p hi).2
  .rcases Yv9 i _ hg with⟨p,h1,h2⟩|⟨_,h2⟩
   .exact (hf _ (Ztn i p h1 _ h2)).2.2.2 b m hb rfl
   .exact h.apOB i b m hb h2
  .have Yb:(Zkz d l i).or (s.ob i)=some b:=hb
   cases hob:Zkz d l i with
   | some b'=>rw[(Z4s hob).1];exact Vab
   | none=>rw[hob,Vcx] at Yb;exact Vad _ (h.usedO i b Yb)
theorem LS.add_no (used:List Nat):s.add .no used=⟨s.env,s.ob,s.bk,s.bx,used⟩:=by
 simp only[LS.add,LPt.no,no1,Vcx,Vce]
theorem LOp.ok (hP:Yk P) (h:Xn P w0 io w a.tmps s n) (hop:LOp P M s o v p) (hf:Ks o=true->∀d,o.dst=some d->d ∉ n.U):OpW P o a w (LPost P w0 io a.tmps s n o v p):=by
 cases hop with
 | look hl=>
  obtain⟨u,hr,hv⟩:=hl.ok h;refine (OpR.value hr ⟨n,.refl n,λd hd=>.inl hd,hv,λused hu=>?_⟩).toW;rw[LS.add_no];exact {h with used:=hu}
 | @alloc t z d ho hz hd=>
  unfold Zc8 at hz;obtain⟨zv,hzv,hz⟩:=ZZb.1 hz;obtain⟨ti,hti,X9⟩:=ZZb.1 hzv;split at hz
  .simp only[ZZd] at hz
   subst hz;have hr:(execOp a.eval o).run P w=.ok (.value (.pointer (some ⟨w.heap.size,0,none⟩))) (w.alloc (.cells zv.cells t)):=by
    simp[execOp,ho,Instr.alloc,zeroValue,typeInfo,hti,X9,newVar,newRow]
   obtain⟨n',h1,h2,h3,h4⟩:=h.newBox (hf (by simp[Ks,ho]) d hd) (us:=zv.cells) (e:=t) (bx:=no1) (.inl rfl);refine (OpR.value hr ⟨n',h1,λx hx=>(h2 x hx).imp (λh=>h) (λe=>⟨by rw[e];exact hd,by simp[Ks,ho]⟩),h3,λused hu=>?_⟩).toW;have:=h4 used hu;rw[show (zv.cells.toList.map V.lit).length=zv.cells.size by simp];exact this
  .cases hz
 | @box t x cs d ho hc hd=>
  obtain⟨c1,c2⟩:=Yiw (h.opL x) hc;have hr:(execOp a.eval o).run P w=.ok (.value (.pointer (some ⟨w.heap.size,0,none⟩))) (w.alloc (.cells (a.eval x).cells t)):=by
   simp[execOp,ho,Instr.box,newVar,newRow]
  obtain⟨n',h1,h2,h3,h4⟩:=h.newBox (hf (by simp[Ks,ho]) d hd) (us:=(a.eval x).cells) (e:=t) (bx:=at1 d cs) (.inr ⟨cs,rfl,c1,c2⟩);refine (OpR.value hr ⟨n',h1,λx hx=>(h2 x hx).imp (λh=>h) (λe=>⟨by rw[e];exact hd,by simp[Ks,ho]⟩),h3,λused hu=>?_⟩).toW;have:=h4 used hu;rw[c1] at this;exact this
 | @store t x y b cs ho hx hb hc hl hz=>
  have hx':=h.opL x;rw[hx] at hx';generalize hq:a.eval x=q at hx';cases hx' with
  | bp hU=>
   obtain⟨c1,c2⟩:=Yiw (h.opL y) hc;obtain⟨cur,e,hg,Ws,_⟩:=h.box b _ hb;have Yt:=Z0v (P:=P) (a:=a) (w:=w) ho hq (by rw[c1,hl]) hz hg (by omega) (λu hu=>by
    obtain⟨m,hm⟩:=Va1 hu;have hm':(a.eval y).cells[m]?=some u:=by simpa using hm
    have Z5:m < cs.length:=by have:=(Vam.1 hm').1;omega
    obtain⟨a1,a2⟩:=c2 m u _ hm' (Vac Z5);exact a2.one a1)
   have Y3:(cur.toList.take 0++(a.eval y).cells.toList++cur.toList.drop (0+(a.eval y).cells.toList.length)).toArray=(a.eval y).cells:=by
    rw[Vcq (by simp;omega)];simp
   rw[Y3] at Yt;have hB:=h.mineB b _ hb;have Zc2:∀g,g≠n.bs b->(w.setRow (n.bs b) (a.eval y).cells).heap[g]?=w.heap[g]?:=λg Z7=>setRow_other w _ g _ Z7;have hl2:Wm w0.heap.size io w (w.setRow (n.bs b) (a.eval y).cells):=⟨rfl,rfl,rfl,by simp,λk hk _=>Zc2 k (by omega)⟩;refine (OpR.skip Yt ⟨n,.refl n,λd hd=>.inl hd,.und,λused hu=>?_⟩).toW;refine {env:=λt v hv=>(h.env t v hv).frame (.refl n) (λi g m u _ Z7 Zcq=>?_),out:=h.out,obs:=λi o Q2=>?_,noO:=λi hi=>?_,noB:=λb' Yb=>?_,box:=λb' m Yb=>?_,mineO:=λi g Z7=>⟨(h.mineO i g Z7).1,by simpa using (h.mineO i g Z7).2⟩,mineB:=λb' m Yb=>?_,apO:=h.apO,once:=h.once,apB:=λb1 b2 m1 m2 h1 h2=>?_,apOB:=λi b' m Yb=>?_,usedO:=λi o Q2=>?_,usedB:=λb' m Yb=>?_,used:=hu,left:=h.left.trans hl2,base:=h.base.left hl2}
   .rw[Z8z (Zc2 g (λe=>h.apOB i b _ hb (e▸Z7)))];exact Zcq
   .have ho2:s.ob i=some o:=by simpa [LS.add,no1] using Q2
    exact (h.obs i o ho2).frame h.left (h.left.trans hl2) λg Z7=>Zc2 g (λe=>h.apOB i b _ hb (e▸Z7))
   .exact h.noO i (by simpa [LS.add,no1] using hi)
   .have hb2:s.bk b'=none:=by simpa [LS.add,no1] using Yb
    have Yf:b'≠b:=λe=>by subst e;rw[hb] at hb2;cases hb2
    show (at1 b cs b').getD (s.bx b')=[];simp only[at1,ZZi Yf,Vce];exact h.noB b' hb2
   .have hb2:s.bk b'=some m:=by simpa [LS.add,no1] using Yb
    show BxR _ n b' m ((at1 b cs b').getD (s.bx b'));by_cases e2:b'=b
    .subst e2
     rw[hb] at hb2;injection hb2 with hb2;subst hb2;simp only[at1,if_true,Va0];exact⟨_,e,setRow_heap w _ cur _ e (0,0) hg,c1,λ_=>⟨rfl,λk v x hv hx=>⟨(c2 k v x hv hx).1,(c2 k v x hv hx).2.cell (c2 k v x hv hx).1 (.refl n)⟩⟩⟩
    .simp only[at1,ZZi e2,Vce]
     obtain⟨cur',e',g1,g2,g3⟩:=h.box b' m hb2;exact⟨cur',e',by rw[Zc2 _ (h.apB b' b _ _ hb2 hb e2)];exact g1,g2,λhn=>⟨(g3 hn).1,λk v x hv hx=>⟨((g3 hn).2 k v x hv hx).1,((g3 hn).2 k v x hv hx).2.cell ((g3 hn).2 k v x hv hx).1 (.refl n)⟩⟩⟩
   .exact h.mineB b' m (by simpa [LS.add,no1] using Yb)
   .exact h.apB b1 b2 m1 m2 (by simpa [LS.add,no1] using h1) (by simpa [LS.add,no1] using h2)
   .exact h.apOB i b' m (by simpa [LS.add,no1] using Yb)
   .exact h.usedO i o (by simpa [LS.add,no1] using Q2)
   .exact h.usedB b' m (by simpa [LS.add,no1] using Yb)
 | @call f ars ts g d xs r os _ l ho hfn ha hm hg hr hl hd=>
  have hfv:=h.opL f;rw[hfn] at hfv;generalize hq:a.eval f=q at hfv;cases hfv;obtain⟨⟨fn,h1,h2⟩,hc⟩:=hg;have hb:fn.body.isNone=false:=by cases hbb:fn.body with
   | none=>rw[hbb] at h2;cases h2
   | some c=>rfl
  have Yt:(execOp a.eval o).run P w=.ok (.enter g (ars.map a.eval)) w:=by
   have h3':¬fn.name = "runtime.NumGoroutine" := by simpa using hP.name g fn h1
   have Yb:¬fn.body=none:=λhh=>by rw[hh] at h2;cases h2
   simp[execOp,ho,resolve,hq,Deferred.ofValue,invoke,callFunc,h1,h3',Yb]
  have Zs0:=hc w (ars.map a.eval) [] (λ_=>False) (λ_=>False) (λg=>g < w.heap.size) ⟨h.base.anch.1,h.base.anch.2.1,λg hg=>hg.elim⟩ (by
   have:=h.rdAs_ok (top:=λ_=>False) hm ha;simpa using this) Vcv (λg hg=>by cases hg) (λg hg=>⟨hg,id,id⟩) (λg hg=>hg.elim)
  intro K Q hK;unfold Oper.wp;rw[Yt,Oper.upon_enter];refine Zs0.mono ?_;rintro e w'' ⟨val,rfl,Yf0⟩;obtain⟨Ze2,ok',top',fr,fo,Z8u,Yf5,hnd,Yh3,_,_⟩:=Yf0;have Z7:=h.grow Ze2;obtain⟨n',q1,q2,q3,q4⟩:=Z7.take (hf (by simp[Ks,ho]) d hd) (tkR_ok (d:=d) Z8u hr) hl (Vap.1 hnd).1 (λg hg=>by
   obtain⟨a1,a2⟩:=Yh3 g (Vae _ hg);have hge:w.heap.size<=g:=by
    rcases a2 with a2|a2
    .cases a2
    .exact a2
   refine⟨a1,Vb4 h.base.base hge,λi hi=>?_,λb m hb e=>?_⟩
   .have:=(h.mineO i g hi).2;omega
   .obtain⟨cur,e',h1,_⟩:=h.box b m hb
    have:=(Vam.1 h1).1;omega)
  exact hK _ _ ⟨n',q1,λx hx=>(q2 x hx).imp (λh=>h) (λe=>⟨by rw[e];exact hd,by simp[Ks,ho]⟩),q3 w'',q4⟩
end
inductive MkA (w:World) (ts:Nat->Nat×TypeId):Nat->List Value->List V->List (List Nat)->Prop
 | nil {k:Nat}:MkA w ts k [] [] []
 | lit {k:Nat} {v:Value} {us:List Value} {xs:List V} {fps:List (List Nat)} (h:Q8 v=true) (hs:MkA w ts (k+1) us xs fps):MkA w ts k (v::us) (.lit v::xs) ([]::fps)
 | ow {k:Nat} {u:Value} {rows:List (List V)} {f:List Nat} {us:List Value} {xs:List V} {fps:List (List Nat)} (h:OwZ w (ts k).1 (ts k).2 u rows f) (hs:MkA w ts (k+1) us xs fps):MkA w ts k (u::us) (.tr rows::xs) (f::fps)
def Zww (agg:Bool) (us:List Value):Value:=if agg then .agg us.toArray else us.headD undef
def Zix (P:Program) (g:FuncId) (agg:Bool) (xs xs':List V) (k k':Int):Prop:=
 (∃fn,P.funcs[g]?=some fn/\fn.body.isSome=true)/\
 ∀(w:World) (us:List Value) (ts:Nat->Nat×TypeId) (fps:List (List Nat)),MkA w ts 0 us xs fps->fps.flatten.Nodup->Anch w (λg=>g∈fps.flatten)->
  Calls P g #[Zww agg us,.int .i64 k] w (λe w'=>e=.returned (.int .i64 k')/\Wm w.heap.size (λg=>g∈fps.flatten) w w'/\MkA w' ts 0 us xs' fps)
def Zy6:LV->Option (Bool×List LV)
 | .ob i=>some (false,[.ob i])
 | .agg cs=>some (true,cs)
 | _=>none
def mkX (s:LS):List LV->Option (List V)
 | []=>some []
 | .lit v::cs=>(mkX s cs).map (.lit v::·)
 | .ob i::cs=>(s.ob i).bind λb=>if b.own=true then (mkX s cs).map (.tr b.rows::·) else none
 | _::_=>none
def Zox (f:Nat->Option LO):List LV->List V->Nat->Option LO
 | .ob i::cs,.tr r::xs=>upd (Zox f cs xs) i ((f i).map λb=>⟨b.own,b.sz,b.el,r⟩)
 | _::cs,_::xs=>Zox f cs xs
 | _,_=>f
def Zby:List LV->List Nat
 | []=>[]
 | .ob i::cs=>i::Zby cs
 | _::cs=>Zby cs
def Z2p:List V->List V->Bool
 | [],[]=>true
 | .lit _::xs,.lit _::ys=>Z2p xs ys
 | .tr _::xs,.tr _::ys=>Z2p xs ys
 | _,_=>false
def Z6m (s:LS) (i:Nat):Nat×TypeId:=((s.ob i).map λb=>(b.sz,b.el)).getD (0,0)
def tsOf (s:LS) (cs:List LV):Nat->Nat×TypeId:=λj=>match cs[j]? with|some (.ob i)=>Z6m s i|_=>(0,0)
def fpC (n:Nm):LV->List Nat
 | .ob i=>n.fps i
 | _=>[]
def Zsr:LV->LV
 | .nc ..=>.und
 | .tup _=>.und
 | x=>x
inductive Ycq (P:Program) (s:LS) (o:Oper):LV->LS->Prop
 | store {t:TypeId} {x y:Operand} {i j m:Nat} {b:LO} {row:List V} {u u0:Value} {R:List (List V)} (ho:o.op=.store t x y) (hx:opL s x=.op i j m row.length) (hb:s.ob i=some b) (Yc:b.own=true) (hj:b.rows[j]?=some row) (hm:row[m]?=some (.lit u0)) (hy:opL s y=.lit u) (h1:Zx P t=1)
   (hR:b.rows.set j (row.set m (.lit u))=R):Ycq P s o .und ⟨λt=>Zsr (s.env t),upd s.ob i (some ⟨true,b.sz,b.el,R⟩),s.bk,s.bx,s.used⟩
 | mark {f x y:Operand} {ts:Array TypeId} {g:FuncId} {agg:Bool} {cs:List LV} {xs xs':List V} {k k':Int} (ho:o.op=.call {callee:=.value f,args:=#[x,y],argTypes:=ts}) (hf:opL s f=.fn g) (hx:Zy6 (opL s x)=some (agg,cs)) (hX:mkX s cs=some xs) (hn:(Zby cs).Nodup) (hs:Z2p xs xs'=true) (hy:opL s y=.lit (.int .i64 k))
   (hM:Zix P g agg xs xs' k k'):Ycq P s o (.lit (.int .i64 k')) ⟨λt=>Zsr (s.env t),Zox s.ob cs xs',s.bk,s.bx,s.used⟩
 | markN {f x y:Operand} {ts:Array TypeId} {g:FuncId} {i j m:Nat} {b:LO} {row:List V} {r r':List (List V)} {R:List (List V)} {k k':Int} (ho:o.op=.call {callee:=.value f,args:=#[x,y],argTypes:=ts}) (hf:opL s f=.fn g) (hx:opL s x=.nc i j m row.length) (hb:s.ob i=some b) (Yc:b.own=true) (hj:b.rows[j]?=some row) (hm:row[m]?=some (.tr r)) (hy:opL s y=.lit (.int .i64 k))
   (hM:Zix P g false [.tr r] [.tr r'] k k') (hR:b.rows.set j (row.set m (.tr r'))=R):Ycq P s o (.lit (.int .i64 k')) ⟨λt=>Zsr (s.env t),upd s.ob i (some ⟨true,b.sz,b.el,R⟩),s.bk,s.bx,s.used⟩
section
variable {P:Program} {M:Yp} {w0:World} {io:Nat->Prop} {w w':World} {a:Act} {tmps:Array Value} {s s':LS} {n n':Nm} {o:Oper} {v:LV}
theorem LvR.kill {u:Value} {x:LV} (h:LvR w n u x):LvR w' n u (Zsr x):=by
 cases h with
 | und=>exact .und
 | lit h=>exact .lit h
 | ob hU h=>exact .ob hU h
 | nc=>exact .und
 | agg hl hc hr=>exact .agg hl hc λk v x hv hx=>(hr k v x hv hx).cell (hc x (Vag hx)) (.refl n)
 | tup=>exact .und
 | bp hU=>exact .bp hU
 | op hU h=>exact .op hU h
 | fn=>exact .fn
theorem Xn.write (h:Xn P w0 io w tmps s n) (I S:Nat->Prop) (hS:∀g,S g->∃i,I i/\g∈n.fps i) (hl:Wm w.heap.size S w w') {ob':Nat->Option LO} (hI:∀i b,ob' i=some b->(I i/\(∃b,s.ob i=some b)/\ObR P w0 io w' b (n.us i) (n.fps i))\/(¬I i/\s.ob i=some b))
  (Zdd:∀i,ob' i=none->s.ob i=none):Xn P w0 io w' tmps ⟨λt=>Zsr (s.env t),ob',s.bk,s.bx,s.used⟩ n:=by
 have Z09:∀g,g < w.heap.size->¬S g->w'.heap[g]?=w.heap[g]?:=λg hg hs=>hl.block g hg hs;have hl2:Wm w0.heap.size io w w':=⟨hl.os,hl.tape,hl.output,hl.size,λk hk hio=>Z09 k (Va9 hk h.base.base) λhs=>by
  obtain⟨i,_,hg⟩:=hS k hs;rcases (h.mineO i k hg).1 with h1|h1
  .exact hio h1
  .omega⟩
 have Zxi:∀i b,ob' i=some b->∃b,s.ob i=some b:=λi b hb=>by
  rcases hI i b hb with⟨_,h1,_⟩|⟨_,h1⟩
  .exact h1
  .exact⟨b,h1⟩
 refine {env:=λt v hv=>(h.env t v hv).kill,out:=λt ht=>by simp only;rw[h.out t ht];rfl,obs:=λi b hb=>?_,noO:=λi hi=>h.noO i (Zdd i hi),noB:=h.noB,box:=λb m hb=>?_,mineO:=λi g hg=>⟨(h.mineO i g hg).1,Va9 (h.mineO i g hg).2 hl.size⟩,mineB:=h.mineB,apO:=h.apO,once:=h.once,apB:=h.apB,apOB:=h.apOB,usedO:=λi b hb=>?_,usedB:=h.usedB,used:=h.used,left:=h.left.trans hl2,base:=h.base.left hl2}
 .rcases hI i b hb with⟨_,_,h1⟩|⟨hn,h1⟩
  .exact h1
  .refine (h.obs i b h1).frame h.left (h.left.trans hl2) λg hg=>Z09 g (h.mineO i g hg).2 λhs=>?_
   obtain⟨j,hj,hgj⟩:=hS g hs;exact h.apO i j (λe=>hn (e▸hj)) g hg hgj
 .obtain⟨cur,e,h1,h2,h3⟩:=h.box b m hb
  have hq:¬S (n.bs b):=λhs=>by
   obtain⟨j,_,hgj⟩:=hS _ hs;exact h.apOB j b m hb hgj
  exact⟨cur,e,by rw[Z09 _ (Vam.1 h1).1 hq];exact h1,h2,λhn=>⟨(h3 hn).1,λk v x hv hx=>⟨((h3 hn).2 k v x hv hx).1,((h3 hn).2 k v x hv hx).2.cell ((h3 hn).2 k v x hv hx).1 (.refl n)⟩⟩⟩
 .obtain⟨b',Yb⟩:=Zxi i b hb
  exact h.usedO i b' Yb
theorem Ylo {α:Type} {sz:Nat}:∀{rows:List (List α)} {j m:Nat} {row:List α} {x:α},(∀r∈rows,r.length=sz)->rows[j]?=some row->m < row.length->(rows.set j (row.set m x)).flatten=rows.flatten.set (j*sz+m) x:=by
 intro rows
 induction rows with
 | nil=>intro j m row x _ hj;simp at hj
 | cons r rs ih=>
  intro j m row x hu hj hm;have hr:r.length=sz:=hu r Vab;cases j with
  | zero=>
   have e:r=row:=by simpa using hj
   subst e;simp only[Vdr,Vaz,Vdj,Vbk];rw[List.set_append_left _ _ hm]
  | succ j=>
   simp only[List.set_cons_succ,Vaz];rw[ih (λr hr=>hu r (Vad _ hr)) (by simpa using hj) hm,Veg _ _ (by rw[hr,Vbv];omega)]
   congr 2
   rw[hr,Vbv];omega
theorem Yro {α:Type} {sz:Nat} {rows:List (List α)} {j m:Nat} {row:List α} {x:α} (hu:∀r∈rows,r.length=sz) (hj:rows[j]?=some row):∀r∈rows.set j (row.set m x),r.length=sz:=λr hr=>by
 rcases Vb9 hr with h|rfl
 .exact hu r h
 .rw[Vbh];exact hu row (Vag hj)
theorem OwL.split1 {vs:List Value} {xs:List V} {fp:List Nat} (h:OwL w vs xs fp):∀{k:Nat} {x:V},xs[k]?=some x->∃y f f1 f2,vs[k]?=some y/\Ow w y x f/\fp=f1++(f++f2)/\
  ∀(w':World) (y':Value) (x':V),(∀g∈f1++f2,w'.heap[g]?=w.heap[g]?)->Ow w' y' x' f->OwL w' (vs.set k y') (xs.set k x') fp:=by
 induction xs generalizing vs fp with
 | nil=>intro k x hk;simp at hk
 | cons z zs ih=>
  intro k x hk;cases h with
  | @cons v _ vs _ g1 g2 h hs=>
   cases k with
   | zero=>
    have e:z=x:=by simpa using hk
    subst e;refine⟨v,g1,[],g2,rfl,h,rfl,λw' y' x' hw hy=>?_⟩;exact .cons hy (hs.frame λg hg=>hw g (by simpa using hg))
   | succ k=>
    obtain⟨y,f,f1,f2,a1,a2,rfl,a4⟩:=ih hs (by simpa using hk);refine⟨y,f,g1++f1,f2,by simpa using a1,a2,by simp,λw' y' x' hw hy=>?_⟩;exact .cons (h.frame λg hg=>hw g (by simp[hg])) (a4 w' y' x' (λg hg=>hw g (by
     rcases Vat.1 hg with h|h<;>simp[h])) hy)
theorem OwZ.split {sz:Nat} {e:TypeId} {u:Value} {rows:List (List V)} {fp:List Nat} (h:OwZ w sz e u rows fp) {j m:Nat} {row:List V} {x:V} (hj:rows[j]?=some row) (hm:row[m]?=some x):
  ∃g q c cur y f f1 f2,u=.slice (some ⟨g,q,none⟩) rows.length c/\w.heap[g]?=some (.cells cur e (0,0))/\fp=g::(f1++(f++f2))/\cur[q+j*row.length+m]?=some y/\Ow w y x f/\
   ∀(w':World) (y':Value) (x':V),(∀k∈f1++f2,w'.heap[k]?=w.heap[k]?)->w'.heap[g]?=some (.cells (cur.setIfInBounds (q+j*row.length+m) y') e (0,0))->Ow w' y' x' f->OwZ w' sz e u (rows.set j (row.set m x')) fp:=by
 obtain⟨g,q,c,cur,fp',h1,h2,h3,h4,h5,h6,h7,h8⟩:=h.top (λe=>by rw[e] at hj;simp at hj);have hrl:=h5 row (Vag hj);have hk:=Zdx h5 hj hm;obtain⟨y,f,f1,f2,a1,a2,a3,a4⟩:=h7.split1 hk;have hml:=(ZZh.1 hm).1;have hc:cur[q+j*row.length+m]?=some y:=by
  rw[hrl,Nat.add_assoc];rw[Vai] at a1;split at a1
  .simpa using a1
  .cases a1
 refine⟨g,q,c,cur,y,f,f1,f2,h1,h2,by rw[h8,a3],hc,a2,λw' y' x' hw hg hy=>.inr ⟨g,q,c,cur.setIfInBounds (q+j*row.length+m) y',fp',by rw[Vbh];exact h1,hg,by rw[Vbh];exact h3,h4,Yro h5 hj,by simpa using h6,?_,h8⟩⟩;have:=a4 w' y' x' hw hy;rw[Ylo h5 hj hml,Vbh];have e1:((cur.setIfInBounds (q+j*row.length+m) y').toList.drop q).take (rows.length*sz)=((cur.toList.drop q).take (rows.length*sz)).set (j*sz+m) y':=by
  rw[Vdx,List.drop_set,ZZi (by omega),List.take_set,hrl]
  congr 1
  omega
 rw[e1];exact this
theorem Yl2 {u:Value} (h:Q8 u=true):u.cells=#[u]:=by cases u<;>simp_all [Q8,Value.cells]
theorem lit_sc {u v:Value} (h:LvR w n u (.lit v)):Q8 v=true:=by cases h with|lit h=>exact h
theorem Ywf (h:Xn P w0 io w a.tmps s n) {t:TypeId} {x y:Operand} {i j m:Nat} {b:LO} {row:List V} {u u0:Value} {R:List (List V)} (ho:o.op=.store t x y) (hx:Ev.opL s x=.op i j m row.length) (hb:s.ob i=some b) (Yc:b.own=true) (hj:b.rows[j]?=some row) (hm:row[m]?=some (.lit u0)) (hy:Ev.opL s y=.lit u) (h1:Zx P t=1)
  (hR:b.rows.set j (row.set m (.lit u))=R):OpW P o a w (λval w'=>LvR w' n val .und/\Xn P w0 io w' a.tmps ⟨λt=>Zsr (s.env t),upd s.ob i (some ⟨true,b.sz,b.el,R⟩),s.bk,s.bx,s.used⟩ n):=by
 have hyv:=h.opL y;rw[hy] at hyv;have hu:Q8 u=true:=lit_sc hyv;have hye:=Zl0 hyv;have hxv:=h.opL x;rw[hx] at hxv;generalize hq:a.eval x=qv at hxv;cases hxv with
 | @op _ _ _ _ g q nn c hU hi=>
  have hO:=h.obs i b hb;unfold ObR at hO;rw[Yc] at hO;obtain⟨g2,q2,c2,cur,yv,f,f1,f2,e1,e2,e3,e4,e5,e6⟩:=hO.split hj hm;rw[hi] at e1;injection e1 with e1;injection e1 with e1;injection e1 with e1 e1';subst e1;subst e1';have hf:f=[]:=by cases e5;rfl
  subst hf;have Z5:q+j*row.length+m < cur.size:=(Vam.1 e4).1;have Kj:(a.eval y).cells=#[u]:=by rw[hye];exact Yl2 hu
  have Yt:=Z0v (P:=P) (a:=a) (w:=w) ho hq (by rw[Kj,h1];rfl) (by omega) e2 (by omega) (λv hv=>by
   rw[Kj] at hv;have:v=u:=by simpa using hv
   rw[this];exact Yea hu)
  have Y3:(cur.toList.take (q+j*row.length+m)++(a.eval y).cells.toList++cur.toList.drop (q+j*row.length+m+(a.eval y).cells.toList.length)).toArray=cur.setIfInBounds (q+j*row.length+m) u:=by
   apply Vdk;rw[Kj,Vdx,List.set_eq_take_append_cons_drop,ZZj (by simpa using Z5)];simp
  rw[Y3] at Yt;have hnd:=h.once i;rw[e3] at hnd;have hgn:∀k∈f1++f2,k≠g:=λk hk e=>by
   subst e;exact (Vay.1 hnd).1 (by simpa using hk)
  have Zc2:∀k,k≠g->(w.setRow g (cur.setIfInBounds (q+j*row.length+m) u)).heap[k]?=w.heap[k]?:=λk hk=>setRow_other w g k _ hk;have Yf8:=e6 (w.setRow g (cur.setIfInBounds (q+j*row.length+m) u)) u (.lit u) (λk hk=>Zc2 k (hgn k hk)) (setRow_heap w g cur _ b.el (0,0) e2) (.lit hu);rw[hR] at Yf8;refine (OpR.skip Yt ⟨.und,?_⟩).toW;refine h.write (w':=w.setRow g (cur.setIfInBounds (q+j*row.length+m) u)) (λk=>k=i) (λk=>k=g) (λk hk=>⟨i,rfl,by rw[hk,e3];exact Vab⟩) ⟨rfl,rfl,rfl,by simp,λk _ hk=>Zc2 k hk⟩ (λk b' Yb=>?_) (λk hk=>?_)
  .by_cases e:k=i
   .subst e
    rw[Z1] at Yb;injection Yb with Yb;subst Yb;exact .inl ⟨rfl,⟨b,hb⟩,Yf8⟩
   .rw[Yo e] at Yb
    exact .inr ⟨e,Yb⟩
  .by_cases e:k=i
   .subst e;rw[Z1] at hk;cases hk
   .rw[Yo e] at hk;exact hk
theorem Yh9 (hP:Yk P) {f:Operand} {ars:Array Operand} {ts:Array TypeId} {g:FuncId} (ho:o.op=.call {callee:=.value f,args:=ars,argTypes:=ts}) (hf:LvR w n (a.eval f) (.fn g)) (hg:∃fn,P.funcs[g]?=some fn/\fn.body.isSome=true):
  (execOp a.eval o).run P w=.ok (.enter g (ars.map a.eval)) w:=by
 generalize hq:a.eval f=q at hf;cases hf;obtain⟨fn,h1,h2⟩:=hg;have h3':¬fn.name = "runtime.NumGoroutine" := by simpa using hP.name g fn h1
 have Yb:¬fn.body=none:=λhh=>by rw[hh] at h2;cases h2
 simp[execOp,ho,resolve,hq,Deferred.ofValue,invoke,callFunc,h1,h3',Yb]
theorem Xn.mkX_ok (h:Xn P w0 io w tmps s n) {ts:Nat->Nat×TypeId}:∀{cs:List LV} {k:Nat} {us:List Value} {xs:List V},us.length=cs.length->(∀(j:Nat) (u:Value) (x:LV),us[j]?=some u->cs[j]?=some x->LvR w n u x)->(∀j i,cs[j]?=some (.ob i)->ts (k+j)=Z6m s i)->mkX s cs=some xs->MkA w ts k us xs (cs.map (fpC n)):=by
 intro cs
 induction cs with
 | nil=>
  intro k us xs hl _ _ hx;simp only[mkX,ZZd] at hx;subst hx;have:us=[]:=Vas (by simpa using hl);subst this;exact .nil
 | cons c cs ih=>
  intro k us xs hl hr ht hx
  match us,hl with
  | u::us,hl=>
   have h0:=hr 0 u c rfl rfl;have Jx:∀(j:Nat) (v:Value) (x:LV),us[j]?=some v->cs[j]?=some x->LvR w n v x:=λj v x hv hx=>hr (j+1) v x (by simpa using hv) (by simpa using hx);have ht':∀j i,cs[j]?=some (.ob i)->ts (k+1+j)=Z6m s i:=λj i hj=>by
    have:=ht (j+1) i (by simpa using hj)
    rwa [show k+(j+1)=k+1+j by omega] at this
   have hl':us.length=cs.length:=by simpa using hl
   cases c with
   | lit v=>
    simp only[mkX] at hx;obtain⟨zs,h1,rfl⟩:=ZZc.1 hx;cases h0 with
    | lit hs=>exact .lit hs (ih hl' Jx ht' h1)
   | ob i=>
    simp only[mkX] at hx;obtain⟨b,hb,hx⟩:=ZZb.1 hx;split at hx
    case isFalse=>cases hx
    rename_i Yc;obtain⟨zs,h1,rfl⟩:=ZZc.1 hx;have htk:=ht 0 i rfl;cases h0 with
    | ob hU Yh1=>
     have hO:=h.obs i b hb;unfold ObR at hO;rw[Yc] at hO;refine .ow ?_ (ih hl' Jx ht' h1);rw[Va3] at htk;rw[htk];simpa only[Z6m,hb,Var,Va0,fpC] using hO
   | _=>simp[mkX] at hx
theorem Y3i:∀{cs:List LV} {xs:List V},mkX s cs=some xs->∀i∈Zby cs,∃b,s.ob i=some b/\b.own=true:=by
 intro cs
 induction cs with
 | nil=>intro xs _ i hi;cases hi
 | cons c cs ih=>
  intro xs hx i hi;cases c<;>simp only[mkX] at hx<;>try cases hx
  case lit v=>
   obtain⟨zs,h1,rfl⟩:=ZZc.1 hx;exact ih h1 i hi
  case ob k=>
   obtain⟨b,hb,hx⟩:=ZZb.1 hx;split at hx
   case isFalse=>cases hx
   rename_i Yc;obtain⟨zs,h1,rfl⟩:=ZZc.1 hx;rcases Vav.1 hi with rfl|hi
   .exact⟨b,hb,Yc⟩
   .exact ih h1 i hi
theorem Ydx {f:Nat->Option LO}:∀{cs:List LV} {xs:List V} {i:Nat},i ∉ Zby cs->Zox f cs xs i=f i:=by
 intro cs
 induction cs with
 | nil=>intro xs i _;cases xs<;>rfl
 | cons c cs ih=>
  intro xs i hi;cases xs with
  | nil=>cases c<;>rfl
  | cons x xs=>
   cases c with
   | ob k=>
    simp only[Zby,Vav,not_or] at hi;cases x<;>simp only[Zox]<;>first|exact ih hi.2|(rw[Yo hi.1];exact ih hi.2)
   | _=>cases x<;>exact ih (by simpa [Zby] using hi)
theorem Xn.mkX_back (h:Xn P w0 io w tmps s n) {ts:Nat->Nat×TypeId}:∀{cs:List LV} {k:Nat} {us:List Value} {xs xs':List V},us.length=cs.length->(∀(j:Nat) (u:Value) (x:LV),us[j]?=some u->cs[j]?=some x->LvR w n u x)->(∀j i,cs[j]?=some (.ob i)->ts (k+j)=Z6m s i)->mkX s cs=some xs->Z2p xs xs'=true->(Zby cs).Nodup->MkA w' ts k us xs' (cs.map (fpC n))->
  ∀i∈Zby cs,∃b,Zox s.ob cs xs' i=some b/\b.own=true/\OwZ w' b.sz b.el (n.us i) b.rows (n.fps i):=by
 intro cs
 induction cs with
 | nil=>intro k us xs xs' _ _ _ _ _ _ _ i hi;cases hi
 | cons c cs ih=>
  intro k us xs xs' hl hr ht hx hs hn hA i hi
  match us,hl with
  | u::us,hl=>
   have h0:=hr 0 u c rfl rfl;have Jx:∀(j:Nat) (v:Value) (x:LV),us[j]?=some v->cs[j]?=some x->LvR w n v x:=λj v x hv hx=>hr (j+1) v x (by simpa using hv) (by simpa using hx);have ht':∀j i,cs[j]?=some (.ob i)->ts (k+1+j)=Z6m s i:=λj i hj=>by
    have:=ht (j+1) i (by simpa using hj)
    rwa [show k+(j+1)=k+1+j by omega] at this
   have hl':us.length=cs.length:=by simpa using hl
   cases c with
   | lit v=>
    simp only[mkX] at hx;obtain⟨zs,h1,rfl⟩:=ZZc.1 hx
    match xs',hs with
    | .lit v'::xs',hs=>
     cases hA with
     | lit _ hA=>exact ih hl' Jx ht' h1 hs hn hA i hi
   | ob q=>
    simp only[mkX] at hx;obtain⟨b,hb,hx⟩:=ZZb.1 hx;split at hx
    case isFalse=>cases hx
    rename_i Yc;obtain⟨zs,h1,rfl⟩:=ZZc.1 hx;have htk:=ht 0 q rfl;rw[Va3] at htk
    match xs',hs with
    | .tr r::xs',hs=>
     simp only[Zby] at hn;cases hA with
     | ow hO hA=>
      cases h0 with
      | ob hU Yh1=>
       rcases Vav.1 hi with rfl|hi
       .refine⟨⟨b.own,b.sz,b.el,r⟩,?_,Yc,?_⟩
        .simp only[Zox,Z1,hb,Var]
        .rw[htk] at hO
         simpa only[Z6m,hb,Var,Va0,fpC] using hO
       .obtain⟨b',q1,q2⟩:=ih hl' Jx ht' h1 hs (Vay.1 hn).2 hA i hi
        refine⟨b',?_,q2⟩;simp only[Zox];rw[Yo (show i≠q fromλe=>(Vay.1 hn).1 (e▸hi))];exact q1
   | _=>simp[mkX] at hx
theorem Ysf {cs:List LV}:∀j i,cs[j]?=some (.ob i)->tsOf s cs (0+j)=Z6m s i:=λj i hj=>by
 unfold tsOf;rw[Vbk,hj]
theorem Yce {cs:List LV}:(cs.map (fpC n)).flatten=((Zby cs).map n.fps).flatten:=by
 induction cs with
 | nil=>rfl
 | cons c cs ih=>cases c<;>simp[Zby,fpC,ih]
theorem Xn.keys_nodup (h:Xn P w0 io w tmps s n):∀{l:List Nat},l.Nodup->(l.map n.fps).flatten.Nodup:=by
 intro l
 induction l with
 | nil=>intro _;exact Vcv
 | cons i l ih=>
  intro hl;obtain⟨h1,h2⟩:=Vay.1 hl;simp only[Va7,Vaz];refine Vap.2 ⟨h.once i,ih h2,λg hg g' Z7 e=>?_⟩;subst e;obtain⟨f,hf,hgf⟩:=Vbw.1 Z7;obtain⟨k,hk,rfl⟩:=Vbd.1 hf;exact h.apO i k (λe=>h1 (e▸hk)) g hg hgf
theorem Ymp {l:List Nat} {g:Nat} (h:g∈(l.map n.fps).flatten):∃i,i∈l/\g∈n.fps i:=by
 obtain⟨f,hf,hgf⟩:=Vbw.1 h;obtain⟨k,hk,rfl⟩:=Vbd.1 hf;exact⟨k,hk,hgf⟩
theorem Ypc {u:Value} {x:LV} {agg:Bool} {cs:List LV} (h:LvR w n u x) (hc:Zy6 x=some (agg,cs)):∃us:List Value,u=Zww agg us/\us.length=cs.length/\∀(j:Nat) (v:Value) (y:LV),us[j]?=some v->cs[j]?=some y->LvR w n v y:=by
 unfold Zy6 at hc;split at hc
 .rename_i i
  simp only[ZZd,ZZe] at hc;obtain⟨rfl,rfl⟩:=hc;refine⟨[u],rfl,rfl,λj v y hv hy=>?_⟩;cases j with
  | zero=>
   have e1:u=v:=by simpa using hv
   have e2:LV.ob i=y:=by simpa using hy
   subst e1;subst e2;exact h
  | succ j=>simp at hv
 .simp only[ZZd,ZZe] at hc
  obtain⟨rfl,rfl⟩:=hc;cases h with
  | @agg vs _ hl hc hr=>exact⟨vs.toList,rfl,by simpa using hl,λj v y hv hy=>hr j v y (by simpa using hv) hy⟩
 .cases hc
theorem Yz1 (hP:Yk P) (h:Xn P w0 io w a.tmps s n) {f x y:Operand} {ts:Array TypeId} {g:FuncId} {agg:Bool} {cs:List LV} {xs xs':List V} {k k':Int} (ho:o.op=.call {callee:=.value f,args:=#[x,y],argTypes:=ts}) (hf:Ev.opL s f=.fn g) (hx:Zy6 (Ev.opL s x)=some (agg,cs)) (hX:mkX s cs=some xs) (hn:(Zby cs).Nodup) (hs:Z2p xs xs'=true) (hy:Ev.opL s y=.lit (.int .i64 k))
  (hM:Zix P g agg xs xs' k k'):OpW P o a w (λval w'=>LvR w' n val (.lit (.int .i64 k'))/\Xn P w0 io w' a.tmps ⟨λt=>Zsr (s.env t),Zox s.ob cs xs',s.bk,s.bx,s.used⟩ n):=by
 have hfv:=h.opL f;rw[hf] at hfv;have hyv:=h.opL y;rw[hy] at hyv;have hye:=Zl0 hyv;obtain⟨us,hu,hul,hur⟩:=Ypc (h.opL x) hx;have hA:=h.mkX_ok hul hur (Ysf (s:=s)) hX;have hN:=h.keys_nodup hn;rw[<-Yce] at hN;have Yt:=Yh9 hP (a:=a) (w:=w) ho hfv hM.1;have Z1b:(#[x,y].map a.eval)=#[Zww agg us,.int .i64 k]:=by simp[hu,hye]
 rw[Z1b] at Yt;have Zs0:=hM.2 w us (tsOf s cs) (cs.map (fpC n)) hA hN ⟨h.base.anch.1,h.base.anch.2.1,λq hq=>by
  rw[Yce] at hq;obtain⟨i,_,hi⟩:=Ymp hq;exact h.base.anch.2.2 q (h.mineO i q hi).1⟩
 intro K Q hK;unfold Oper.wp;rw[Yt,Oper.upon_enter];refine Zs0.mono ?_;rintro e w' ⟨rfl,hl,hA'⟩;refine hK _ _ ⟨.lit rfl,?_⟩;have Ykr:=h.mkX_back hul hur (Ysf (s:=s)) hX hs hn hA';rw[Yce] at hl;refine h.write (λi=>i∈Zby cs) (λq=>q∈((Zby cs).map n.fps).flatten) (λq hq=>Ymp hq) hl (λi b hb=>?_) (λi hi=>?_)
 .by_cases hm:i∈Zby cs
  .obtain⟨b',q1,q2,q3⟩:=Ykr i hm
   rw[hb] at q1;injection q1 with q1;subst q1;obtain⟨b0,hb0,_⟩:=Y3i hX i hm;refine .inl ⟨hm,⟨b0,hb0⟩,?_⟩;unfold ObR;rw[q2];exact q3
  .rw[Ydx hm] at hb
   exact .inr ⟨hm,hb⟩
 .by_cases hm:i∈Zby cs
  .obtain⟨b',q1,_⟩:=Ykr i hm
   rw[hi] at q1;cases q1
  .rw[Ydx hm] at hi
   exact hi
theorem Ow.toZ {y:Value} {r:List (List V)} {f:List Nat} (h:Ow w y (.tr r) f):∃sz e,OwZ w sz e y r f:=by
 cases h with
 | emp=>exact⟨0,0,.inl ⟨_,rfl,rfl,rfl⟩⟩
 | @tr g o n c sz cur e rows fp hb hn hc hm hs hz hl=>
  subst hn;exact⟨sz,e,.inr ⟨g,o,c,cur,fp,rfl,hb,hc,hm,hs,hz,hl,rfl⟩⟩
theorem Yzn (hP:Yk P) (h:Xn P w0 io w a.tmps s n) {f x y:Operand} {ts:Array TypeId} {g:FuncId} {i j m:Nat} {b:LO} {row:List V} {r r':List (List V)} {R:List (List V)} {k k':Int} (ho:o.op=.call {callee:=.value f,args:=#[x,y],argTypes:=ts}) (hf:Ev.opL s f=.fn g) (hx:Ev.opL s x=.nc i j m row.length) (hb:s.ob i=some b) (Yc:b.own=true) (hj:b.rows[j]?=some row) (hm:row[m]?=some (.tr r)) (hy:Ev.opL s y=.lit (.int .i64 k))
  (hM:Zix P g false [.tr r] [.tr r'] k k') (hR:b.rows.set j (row.set m (.tr r'))=R):OpW P o a w (λval w'=>LvR w' n val (.lit (.int .i64 k'))/\Xn P w0 io w' a.tmps ⟨λt=>Zsr (s.env t),upd s.ob i (some ⟨true,b.sz,b.el,R⟩),s.bk,s.bx,s.used⟩ n):=by
 have hfv:=h.opL f;rw[hf] at hfv;have hyv:=h.opL y;rw[hy] at hyv;have hye:=Zl0 hyv;have hxv:=h.opL x;rw[hx] at hxv;generalize hq:a.eval x=u at hxv;cases hxv with
 | @nc _ _ _ _ g1 q nn c _ hU hi hg1 Zcq=>
  have hO:=h.obs i b hb;unfold ObR at hO;rw[Yc] at hO;obtain⟨g2,q2,c2,cur,yv,ff,f1,f2,e1,e2,e3,e4,e5,e6⟩:=hO.split hj hm;rw[hi] at e1;injection e1 with e1;injection e1 with e1;injection e1 with e1 e1';subst e1;subst e1';have huy:u=yv:=by
   rw[cell_of_row w g1 _ cur b.el (0,0) e2,e4] at Zcq;injection Zcq with Zcq;exact Zcq.symm
  subst huy;obtain⟨sz,e,hz⟩:=e5.toZ;have hnd:=h.once i;rw[e3] at hnd;obtain⟨hn1,hn2⟩:=Vay.1 hnd;obtain⟨hn3,hn4,hn5⟩:=Vap.1 hn2;obtain⟨hn6,hn7,hn8⟩:=Vap.1 hn4;have Zex:∀q∈ff,q∈n.fps i:=λq hq=>by rw[e3];simp[hq]
  have Yt:=Yh9 hP (a:=a) (w:=w) ho hfv hM.1;have Z1b:(#[x,y].map a.eval)=#[Zww false [u],.int .i64 k]:=by simp[hq,hye,Zww]
  rw[Z1b] at Yt;have Q9:([ff]:List (List Nat)).flatten=ff:=by simp
  have Zs0:=hM.2 w [u] (λ_=>(sz,e)) [ff] (.ow hz .nil) (by rw[Q9];exact hn6) ⟨h.base.anch.1,h.base.anch.2.1,λq hq=>by
   rw[Q9] at hq;exact h.base.anch.2.2 q (h.mineO i q (Zex q hq)).1⟩
  intro K Q hK;unfold Oper.wp;rw[Yt,Oper.upon_enter];refine Zs0.mono ?_;rintro ex w' ⟨rfl,hl,hA'⟩;refine hK _ _ ⟨.lit rfl,?_⟩;rw[Q9] at hl;cases hA' with
  | ow hz' Zsz=>
   have Z09:∀q,q∈n.fps i->q ∉ ff->w'.heap[q]?=w.heap[q]?:=λq hq hqf=>hl.block q (h.mineO i q hq).2 hqf;have hg:g1 ∉ ff:=λhh=>hn1 (by simp[hh]);have Yf8:=e6 w' u (.tr r') (λq hq=>by
    refine Z09 q (by rw[e3];rcases Vat.1 hq with h|h<;>simp[h]) λhh=>?_;rcases Vat.1 hq with h1|h1
    .exact hn5 q h1 q (Vae _ hh) rfl
    .exact hn8 q hh q h1 rfl) (by
     rw[Z09 g1 hg1 hg,e2];have Z5:=(Vam.1 e4).1;have:cur.setIfInBounds (q+j*row.length+m) u=cur:=by
      apply Array.ext_getElem?;intro l;by_cases hll:q+j*row.length+m=l
      .subst hll;rw[Vbe,ZZj rfl,ZZj Z5,e4]
      .rw[Vbe,ZZi hll]
     rw[this]) hz'.ow
   rw[hR] at Yf8;refine h.write (λk=>k=i) (λq=>q∈ff) (λq hq=>⟨i,rfl,Zex q hq⟩) hl (λk b' Yb=>?_) (λk hk=>?_)
   .by_cases e:k=i
    .subst e
     rw[Z1] at Yb;injection Yb with Yb;subst Yb;exact .inl ⟨rfl,⟨b,hb⟩,Yf8⟩
    .rw[Yo e] at Yb
     exact .inr ⟨e,Yb⟩
   .by_cases e:k=i
    .subst e;rw[Z1] at hk;cases hk
    .rw[Yo e] at hk;exact hk
theorem Ycq.ok (hP:Yk P) (h:Xn P w0 io w a.tmps s n) (hop:Ycq P s o v s'):OpW P o a w (λval w'=>LvR w' n val v/\Xn P w0 io w' a.tmps s' n):=by
 cases hop with
 | store ho hx hb Yc hj hm hy h1 hR=>exact Ywf h ho hx hb Yc hj hm hy h1 hR
 | mark ho hf hx hX hn hs hy hM=>exact Yz1 hP h ho hf hx hX hn hs hy hM
 | markN ho hf hx hb Yc hj hm hy hM hR=>exact Yzn hP h ho hf hx hb Yc hj hm hy hM hR
end
def Yns (o:Oper) (u:List Nat):List Nat:=if Ks o then (match o.dst with|some d=>d::u|none=>u) else u
inductive LOpA (P:Program) (M:Yp) (s:LS) (o:Oper):LV->LS->Prop
 | add {v:LV} {p:LPt} (h:LOp P M s o v p) (hf:Ks o=true->∀d,o.dst=some d->d ∉ s.used):LOpA P M s o v (s.add p (Yns o s.used))
 | wr {v:LV} {s':LS} (h:Ycq P s o v s'):LOpA P M s o v s'
def Zxm (s:LS) (ops:Array Oper) (o:Oper):Option Bool:=
 match o.guard with
 | none=>some true
 | some (j,b)=>match ((ops[j]?).bind (·.dst)).map s.env with
  | some (.lit (.bool c))=>some (c == b)
  | some (.tup [])=>some false
  | _=>none
inductive Z67 (P:Program) (M:Yp) (ops:Array Oper):LS->List Oper->LS->Prop
 | nil {s:LS}:Z67 P M ops s [] s
 | yes {s s1 s':LS} {o:Oper} {l:List Oper} {v:LV} (hw:Zxm s ops o=some true) (hop:LOpA P M s o v s1) (hs:Z67 P M ops (s1.put o.dst v) l s'):Z67 P M ops s (o::l) s'
 | no {s s':LS} {o:Oper} {l:List Oper} (hw:Zxm s ops o=some false) (hs:Z67 P M ops (s.put o.dst (.tup [])) l s'):Z67 P M ops s (o::l) s'
section
variable {P:Program} {M:Yp} {w0:World} {io:Nat->Prop} {w w':World} {a a':Act} {tmps:Array Value} {s s' s1 S:LS} {n n':Nm} {o:Oper} {v:LV} {ops:Array Oper} {R:Ex->LS->Prop}
theorem LOpA.ok (hP:Yk P) (h:Xn P w0 io w a.tmps s n) (hop:LOpA P M s o v s'):OpW P o a w (λval w'=>∃n',n.Ext n'/\LvR w' n' val v/\Xn P w0 io w' a.tmps s' n'):=by
 cases hop with
 | add hl hf=>
  have h1:=hl.ok hP h (λhm d hd hU=>hf hm d hd (h.used d hU));intro K Q hK;refine h1 K Q λval w' ⟨n',q1,q2,q3,q4⟩=>hK _ _ ⟨n',q1,q3,q4 _ λd hd=>?_⟩;unfold Yns;rcases q2 d hd with h2|⟨h2,h3⟩
  .split
   .split
    .exact Vad _ (h.used d h2)
    .exact h.used d h2
   .exact h.used d h2
  .rw[ZZj h3,h2]
   exact Vab
 | wr hl=>
  have h1:=hl.ok hP h;intro K Q hK;exact h1 K Q λval w' ⟨q1,q2⟩=>hK _ _ ⟨n,.refl n,q1,q2⟩
theorem Yut (h:Xn P w0 io w a.tmps s n) {g:Bool} (hw:Zxm s ops o=some g):Region.wanted o (yielded ops a.tmps)=g:=by
 unfold Zxm at hw;unfold Region.wanted;split at hw
 .rename_i hg;simp only[ZZd] at hw;rw[hg];exact hw
 .rename_i j b hg
  rw[hg];simp only;have hy:∀t,(ops[j]?).bind (·.dst)=some t->yielded ops a.tmps j=match a.tmps[t]? with|some (.bool b)=>some b|_=>none:=λt ht=>by
   unfold yielded;rw[ht];rfl
  cases ht:(ops[j]?).bind (·.dst) with
  | none=>rw[ht] at hw;simp at hw
  | some t=>
   rw[ht] at hw;simp only[Var] at hw;rw[hy t ht];have key:∀{x:LV},s.env t=x->x≠.und->∃u,a.tmps[t]?=some u/\LvR w n u x:=λ{x} hx Yf=>by
    by_cases Z5:t < a.tmps.size
    .have h1:a.tmps[t]?=some a.tmps[t]:=Vaf Z5
     exact⟨_,h1,hx▸h.env t _ h1⟩
    .exact absurd (hx.symm.trans (h.out t (Vde Z5))) Yf
   split at hw
   .rename_i c heq
    simp only[ZZd] at heq hw;obtain⟨u,hu,Xh⟩:=key heq (by simp);rw[hu,Zl0 Xh];rw[<-hw];cases c<;>cases b<;>rfl
   .rename_i heq
    simp only[ZZd] at heq hw;obtain⟨u,hu,Xh⟩:=key heq (by simp);rw[hu];cases Xh;rw[<-hw];cases b<;>rfl
   .cases hw
def Zon (P:Program) (w0:World) (io:Nat->Prop) (a:Act) (n:Nm) (s':LS) (a':Act) (w':World):Prop:=
 ∃n',n.Ext n'/\Xn P w0 io w' a'.tmps s' n'/\a'.tmps.size=a.tmps.size/\a'.defers=a.defers
theorem Zon.refl (h:Xn P w0 io w a.tmps s n):Zon P w0 io a n s a w:=⟨n,.refl n,h,rfl,rfl⟩
theorem Zon.trans {a1:Act} {n1:Nm} (he:n.Ext n1) (ht:a1.tmps.size=a.tmps.size) (hd:a1.defers=a.defers) (h:Zon P w0 io a1 n1 s' a' w'):Zon P w0 io a n s' a' w':=by
 obtain⟨n',h1,h2,h3,h4⟩:=h;exact⟨n',he.trans h1,h2,h3.trans ht,h4.trans hd⟩
theorem Ysv (hP:Yk P) {K:Act->World->Prop} {Q:Exit->Act->World->Prop} {i:Nat} (h:Xn P w0 io w a.tmps s n) (ho:ops[i]?=some o) (hd:∀d,o.dst=some d->d < a.tmps.size) {g:Bool} (hw:Zxm s ops o=some g)
  (hop:g=true->OpW P o a w (λval w'=>∃n',n.Ext n'/\LvR w' n' val v/\Xn P w0 io w' a.tmps s1 n'))
  (hK:∀a' w',Zon P w0 io a n (if g then s1.put o.dst v else s.put o.dst (.tup [])) a' w'->K a' w'):wpOp P ops Q i K a w:=by
 unfold wpOp;rw[ho];simp only;rw[Yut h hw];cases g with
 | true=>
  simp only[if_true] at hK ⊢;refine .inl (hop rfl _ _ λval w' ⟨n',h1,h2,h3⟩=>hK _ _ ⟨n',h1,?_,Zpw _ _ _,Znf _ _ _⟩);exact h3.put hd h2
 | false=>
  simp only[ZZf,if_false] at hK ⊢;exact hK _ _ ⟨n,.refl n,h.put hd (.tup (by rfl) (λk v x hv=>by simp[undef] at hv)),Zpw _ _ _,Znf _ _ _⟩
theorem Y2w (hP:Yk P) {Q:Exit->Act->World->Prop}:∀(l:List Oper) {k:Nat} {s s':LS} {a:Act} {w:World} {n:Nm},Xn P w0 io w a.tmps s n->(∀j,l[j]?=ops[k+j]?)->Zme a.tmps.size ops.toList=true->Z67 P M ops s l s'->
  (∀a' w',Zon P w0 io a n s' a' w'->Q .normal a' w')->wpOps P ops Q (List.range' k l.length) a w:=by
 intro l
 induction l with
 | nil=>
  intro k s s' a w n h _ _ he hQ;cases he;exact hQ _ _ (.refl h)
 | cons o l ih=>
  intro k s s' a w n h hl hds he hQ;have h0:ops[k]?=some o:=by simpa using (hl 0).symm
  simp only[Vaa,Vdf];rw[wpOps_cons];have hd:=Znz hds (i:=k) (o:=o) (by simpa using h0);have hl':∀j,l[j]?=ops[k+1+j]?:=λj=>by have:=hl (j+1);simpa [Nat.add_assoc,Vdi 1 j] using this
  cases he with
  | @yes _ s1 _ _ _ v hw hop hs=>
   refine Ysv (v:=v) (s1:=s1) hP h h0 hd hw (λ_=>hop.ok hP h) (λa' w' ⟨n',q1,q2,q3,q4⟩=>?_);simp only[if_true] at q2;exact ih q2 hl' (by rw[q3];exact hds) hs (λa2 w2 hA=>hQ _ _ (.trans q1 q3 q4 hA))
  | no hw hs=>
   refine Ysv (v:=.und) (s1:=s) hP h h0 hd hw (λhf=>by cases hf) (λa' w' ⟨n',q1,q2,q3,q4⟩=>?_);simp only[ZZf,if_false] at q2;exact ih q2 hl' (by rw[q3];exact hds) hs (λa2 w2 hA=>hQ _ _ (.trans q1 q3 q4 hA))
def Lx (P:Program) (c:Code) (S:LS) (R:Ex->LS->Prop):Prop:=
 ∀(w0:World) (io:Nat->Prop) (w:World) (a:Act) (n:Nm) (Q:Exit->Act->World->Prop),Xn P w0 io w a.tmps S n->Kb a.tmps.size c=true->(∀ex S' a' w',R ex S'->Zon P w0 io a n S' a' w'->Q ex.to a' w')->wpL P c Q a w
theorem Y2g (h:R .normal S):Lx P .skip S R:=λw0 io w a n Q hR hd hQ=>wp_skip (hQ _ _ _ _ h (.refl hR))
theorem Lx_ret (h:R .ret S):Lx P .ret S R:=λw0 io w a n Q hR hd hQ=>wp_ret (hQ _ _ _ _ h (.refl hR))
theorem Y2r {i:Nat} (h:R (.exit i) S):Lx P (.exit i) S R:=λw0 io w a n Q hR hd hQ=>wp_exit (hQ _ _ _ _ h (.refl hR))
theorem Lx_ops (hP:Yk P) {i:Nat} {ops:Array Oper} {S':LS} (he:Z67 P M ops S ops.toList S') (h:R .normal S'):Lx P (.region i ops false) S R:=by
 intro w0 io w a n Q hR hd hQ;refine wp_region ?_;rw[Vcz,<-Array.length_toList];exact Y2w hP ops.toList hR (by simp) hd he (λa' w' hA=>hQ _ _ _ _ h hA)
def Yth (K:LS->Prop) (R:Ex->LS->Prop):Ex->LS->Prop
 | .normal,s=>K s
 | e,s=>R e s
theorem Z2m {x y:Code} (h:Lx P x S (Yth (λs=>Lx P y s R) R)):Lx P (.seq x y) S R:=by
 intro w0 io w a n Q hR hd hQ;simp only[Kb,ZZg] at hd;refine wp_seq (Zh0 (h w0 io w a n _ hR hd.1 (λex S' a' w' hr hA=>?_)));cases ex with
 | normal=>
  obtain⟨n',r1,r2,r3,r4⟩:=hA;show y.wp P Q a' w';exact Zh0 (hr w0 io w' a' n' Q r2 (by rw[r3];exact hd.2) (λex2 S2 a2 w2 Z8 hA2=>hQ _ _ _ _ Z8 (.trans r1 r3 r4 hA2)))
 | ret=>exact hQ _ _ _ _ hr hA
 | exit i=>exact hQ _ _ _ _ hr hA
theorem Yse {c:Operand} {x y:Code} {b:Bool} (hc:Ev.opL S c=.lit (.bool b)) (h:Lx P (if b then x else y) S R):Lx P (.cond c x y) S R:=by
 intro w0 io w a n Q hR hd hQ;simp only[Kb,ZZg] at hd;have hv:=hR.opL c;rw[hc] at hv;refine wp_cond (Zl0 hv) (Zh0 ?_);refine h w0 io w a n Q hR ?_ hQ;cases b
 .exact hd.2
 .exact hd.1
def inL (i:Nat) (R:Ex->LS->Prop):Ex->LS->Prop
 | .exit j,s=>if j=i then R .normal s else R (.exit j) s
 | e,s=>R e s
theorem Ycg {i:Nat} {c:Code} (h:Lx P c S (inL i R)):Lx P (.block i c) S R:=by
 intro w0 io w a n Q hR hd hQ;simp only[Kb] at hd;refine wp_block (Zh0 (h w0 io w a n _ hR hd (λex S' a' w' hr hA=>?_)));cases ex with
 | exit j=>
  show Exit.inBlock i Q (.exit j) a' w';simp only[inL] at hr;by_cases hj:j=i
  .subst hj
   rw[ZZj rfl] at hr;simp only[Exit.inBlock,if_true];exact hQ _ _ _ _ hr hA
  .rw[ZZi hj] at hr
   simp only[Exit.inBlock,ZZi hj];exact hQ _ _ _ _ hr hA
 | normal=>exact hQ _ _ _ _ hr hA
 | ret=>exact hQ _ _ _ _ hr hA
theorem Yr4 {c:Code} (h:Lx P c S (Yth (λs=>Lx P (.loop c) s R) R)):Lx P (.loop c) S R:=by
 intro w0 io w a n Q hR hd hQ;refine Ynn (Zh0 (h w0 io w a n _ hR hd (λex S' a' w' hr hA=>?_)));cases ex with
 | normal=>
  obtain⟨n',r1,r2,r3,r4⟩:=hA;show Lw P c Q a' w';exact hr w0 io w' a' n' Q r2 (by rw[r3];exact hd) (λex2 S2 a2 w2 Z8 hA2=>hQ _ _ _ _ Z8 (.trans r1 r3 r4 hA2))
 | ret=>exact hQ _ _ _ _ hr hA
 | exit i=>exact hQ _ _ _ _ hr hA
theorem Zxo {c:Code} {R':Ex->LS->Prop} (h:Lx P c S R) (hR:∀e s,R e s->R' e s):Lx P c S R':=λw0 io w a n Q Zv5 hd hQ=>h w0 io w a n Q Zv5 hd (λex S' a' w' hr=>hQ ex S' a' w' (hR _ _ hr))
theorem Ysd {c:Code} {env:Nat->LV} {used:List Nat} (h:Lx P c ⟨env,S.ob,S.bk,S.bx,used⟩ R) (he:∀t,env t=.und\/env t=S.env t) (hu:∀d∈S.used,d∈used):Lx P c S R:=λw0 io w a n Q Zv5 hd hQ=>
 h w0 io w a n Q (Zv5.less he hu) hd hQ
def Zkd:Nat->List V->List LV
 | _,[]=>[]
 | k,.tr _::xs=>.ob k::Zkd (k+1) xs
 | k,.lit v::xs=>.lit v::Zkd (k+1) xs
 | k,_::xs=>.und::Zkd (k+1) xs
def Z4i (ts:Nat->Nat×TypeId):Nat->List V->Nat->Option LO
 | _,[]=>λ_=>none
 | k,.tr r::xs=>upd (Z4i ts (k+1) xs) k (some ⟨true,(ts k).1,(ts k).2,r⟩)
 | k,_::xs=>Z4i ts (k+1) xs
def argL (agg:Bool) (cs:List LV):LV:=if agg then .agg cs else cs.headD .und
def Yhi (ts:Nat->Nat×TypeId) (agg:Bool) (xs:List V) (k:Int):LS:=
 ⟨upd (upd (λ_=>.und) 1 (.lit (.int .i64 k))) 0 (argL agg (Zkd 0 xs)),Z4i ts 0 xs,λ_=>none,λ_=>[],[0]⟩
def Yfl (s:LS) (ts:Nat->Nat×TypeId):Nat->List V->List V->Prop
 | _,[],[]=>True
 | k,.lit v::xs,.lit v'::xs'=>v=v'/\Yfl s ts (k+1) xs xs'
 | k,.tr _::xs,.tr r::xs'=>s.ob k=some ⟨true,(ts k).1,(ts k).2,r⟩/\Yfl s ts (k+1) xs xs'
 | _,_,_=>False
theorem MkA.len {ts:Nat->Nat×TypeId} {k:Nat} {us:List Value} {xs:List V} {fps:List (List Nat)} (h:MkA w ts k us xs fps):us.length=xs.length/\fps.length=xs.length:=by
 induction h with
 | nil=>exact⟨rfl,rfl⟩
 | lit _ _ ih=>simp[ih]
 | ow _ _ ih=>simp[ih]
theorem Zs6:∀{xs:List V} {k:Nat},(Zkd k xs).length=xs.length:=by
 intro xs
 induction xs with
 | nil=>intro k;rfl
 | cons x xs ih=>intro k;cases x<;>simp[Zkd,ih]
theorem mkA_in {ts:Nat->Nat×TypeId} {k:Nat} {us:List Value} {xs:List V} {fps:List (List Nat)} (h:MkA w ts k us xs fps):k+xs.length<=1000->∀(n:Nm),(∀d,d=0->d∈n.U)->(∀j u,us[j]?=some u->n.us (k+j)=u)->(∀j f,fps[j]?=some f->n.fps (k+j)=f)->
  (∀(j:Nat) (u:Value) (x:LV),us[j]?=some u->(Zkd k xs)[j]?=some x->Zfn x=true/\LvR w n u x)/\∀i b,Z4i ts k xs i=some b->(k<=i/\i < k+xs.length)/\b.own=true/\OwZ w b.sz b.el (n.us i) b.rows (n.fps i):=by
 induction h with
 | nil=>intro _ n _ _ _;exact⟨λj u x hu=>by simp at hu,λi b hb=>by simp[Z4i] at hb⟩
 | @lit k v us xs fps hs _ ih=>
  intro hk n hU hus hfp;have W9:k+1+xs.length<=1000:=by simp at hk;omega
  obtain⟨h1,h2⟩:=ih W9 n hU (λj u hj=>by have:=hus (j+1) u (by simpa using hj);rwa [show k+(j+1)=k+1+j by omega] at this) (λj f hj=>by have:=hfp (j+1) f (by simpa using hj);rwa [show k+(j+1)=k+1+j by omega] at this);refine⟨λj u x hu hx=>?_,λi b hb=>?_⟩
  .cases j with
   | zero=>
    simp only[Zkd,Vbc,ZZd] at hu hx;subst hu;subst hx;exact⟨rfl,.lit hs⟩
   | succ j=>exact h1 j u x (by simpa using hu) (by simpa [Zkd] using hx)
  .obtain⟨q1,q2⟩:=h2 i b hb
   exact⟨by simp;omega,q2⟩
 | @ow k u rows f us xs fps hO _ ih=>
  intro hk n hU hus hfp;have W9:k+1+xs.length<=1000:=by simp at hk;omega
  obtain⟨h1,h2⟩:=ih W9 n hU (λj u hj=>by have:=hus (j+1) u (by simpa using hj);rwa [show k+(j+1)=k+1+j by omega] at this) (λj f hj=>by have:=hfp (j+1) f (by simpa using hj);rwa [show k+(j+1)=k+1+j by omega] at this);have hu0:=hus 0 u rfl;have hf0:=hfp 0 f rfl;rw[Va3] at hu0 hf0;refine⟨λj u' x hu hx=>?_,λi b hb=>?_⟩
  .cases j with
   | zero=>
    simp only[Zkd,Vbc,ZZd] at hu hx;subst hu;subst hx;refine⟨rfl,?_⟩;have:=LvR.ob (w:=w) (n:=n) (i:=k) (hU _ (by simp at hk;omega)) (by rw[hu0];exact hO.one);rw[hu0] at this;exact this
   | succ j=>exact h1 j u' x (by simpa using hu) (by simpa [Zkd] using hx)
  .simp only[Z4i] at hb
   by_cases e:i=k
   .subst e
    rw[Z1] at hb;injection hb with hb;subst hb;exact⟨by simp,rfl,by rw[hu0,hf0];exact hO⟩
   .rw[Yo e] at hb
    obtain⟨q1,q2⟩:=h2 i b hb;exact⟨by simp;omega,q2⟩
theorem Y1w {ts:Nat->Nat×TypeId} {k:Nat} {us:List Value} {xs:List V} {fps:List (List Nat)} (h:MkA w ts k us xs fps):∀{xs':List V},Yfl s ts k xs xs'->(∀i b,s.ob i=some b->ObR P w0 io w' b (n.us i) (n.fps i))->(∀j u,us[j]?=some u->n.us (k+j)=u)->(∀j f,fps[j]?=some f->n.fps (k+j)=f)->MkA w' ts k us xs' fps:=by
 induction h with
 | nil=>
  intro xs' ho _ _ _;cases xs' with
  | nil=>exact .nil
  | cons x xs'=>simp[Yfl] at ho
 | @lit k v us xs fps hs _ ih=>
  intro xs' ho hob hus hfp
  match xs',ho with
  | .lit v'::xs',ho=>
   obtain⟨rfl,ho⟩:=ho;exact .lit hs (ih ho hob (λj u hj=>by have:=hus (j+1) u (by simpa using hj);rwa [show k+(j+1)=k+1+j by omega] at this) (λj f hj=>by have:=hfp (j+1) f (by simpa using hj);rwa [show k+(j+1)=k+1+j by omega] at this))
 | @ow k u rows f us xs fps hO _ ih=>
  intro xs' ho hob hus hfp
  match xs',ho with
  | .tr r::xs',ho=>
   obtain⟨hb,ho⟩:=ho;have hu0:=hus 0 u rfl;have hf0:=hfp 0 f rfl;rw[Va3] at hu0 hf0;have h1:=hob k _ hb;rw[hu0,hf0] at h1;exact .ow h1 (ih ho hob (λj u hj=>by have:=hus (j+1) u (by simpa using hj);rwa [show k+(j+1)=k+1+j by omega] at this) (λj f hj=>by have:=hfp (j+1) f (by simpa using hj);rwa [show k+(j+1)=k+1+j by omega] at this))
theorem mk_ok (hP:Yk P) {f:FuncId} {fn:Func} {c:Code} {agg:Bool} {xs xs':List V} {k k':Int} {rt:Nat} (hfn:P.funcs[f]?=some fn) (hc:fn.body=some c) (hr:fn.results=#[.tmp rt]) (hx:xs.length<=1000) (Yh1:agg=true\/xs.length=1)
  (h:∀ts,Lx P c (Yhi ts agg xs k) (λe s=>e=.ret/\s.env rt=.lit (.int .i64 k')/\Yfl s ts 0 xs xs')):Zix P f agg xs xs' k k':=by
 refine⟨⟨fn,hfn,by rw[hc];rfl⟩,λw us ts fps hA hnd Yku=>?_⟩;obtain⟨hl1,hl2⟩:=hA.len
 let n0:Nm:=⟨λi=>us.getD i undef,λi=>fps.getD i [],λ_=>0,[0]⟩
 let tmps:=#[Zww agg us,Value.int .i64 k]++Array.replicate (fn.ntmps - 2) undef
 have hu0:∀j u,us[j]?=some u->n0.us (0+j)=u:=λj u hj=>by simp only[n0,Vbk,Vax,hj,Va0]
 have hf0:∀j f,fps[j]?=some f->n0.fps (0+j)=f:=λj f hj=>by simp only[n0,Vbk,Vax,hj,Va0]
 obtain⟨Y02,hin2⟩:=mkA_in hA (by omega) n0 (λd hd=>by simp[n0,hd]) hu0 hf0;have hfm:∀i g,g∈n0.fps i->∃f,fps[i]?=some f/\g∈f:=λi g hg=>by
  simp only[n0,Vax] at hg;cases hi:fps[i]? with
  | none=>rw[hi] at hg;simp at hg
  | some f=>rw[hi] at hg;exact⟨f,rfl,hg⟩
 have Q9:∀i g,g∈n0.fps i->g∈fps.flatten:=λi g hg=>by
  obtain⟨f,h1,h2⟩:=hfm i g hg;exact Vbw.2 ⟨f,Vag h1,h2⟩
 have Y3y:∀(l:List (List Nat)),l.flatten.Nodup->∀(i j:Nat) (f f':List Nat),l[i]?=some f->l[j]?=some f'->i≠j->∀g∈f,g ∉ f':=by
  intro l
  induction l with
  | nil=>intro _ i j f f' h1;simp at h1
  | cons x l ih=>
   intro hn i j f f' h1 h2 Yf g hg Z7;simp only[Vaz] at hn;obtain⟨a1,a2,a3⟩:=Vap.1 hn;cases i with
   | zero=>
    cases j with
    | zero=>exact Yf rfl
    | succ j=>
     have e:x=f:=by simpa using h1
     subst e;exact a3 g hg g (Vbw.2 ⟨f',Vag (by simpa using h2),Z7⟩) rfl
   | succ i=>
    cases j with
    | zero=>
     have e:x=f':=by simpa using h2
     subst e;exact a3 g Z7 g (Vbw.2 ⟨f,Vag (by simpa using h1),hg⟩) rfl
    | succ j=>exact ih a2 i j f f' (by simpa using h1) (by simpa using h2) (by omega) g hg Z7
 have honce:∀(l:List (List Nat)),l.flatten.Nodup->∀(i:Nat) (f:List Nat),l[i]?=some f->f.Nodup:=by
  intro l
  induction l with
  | nil=>intro _ i f h1;simp at h1
  | cons x l ih=>
   intro hn i f h1;simp only[Vaz] at hn;obtain⟨a1,a2,a3⟩:=Vap.1 hn;cases i with
   | zero=>
        have e:x=f:=by simpa using h1
        subst e;exact a1
   | succ i=>exact ih a2 i f (by simpa using h1)
 have hAlt:∀{k:Nat} {us:List Value} {xs:List V} {fps:List (List Nat)},MkA w ts k us xs fps->∀f∈fps,∀g∈f,g < w.heap.size:=by
  intro k us xs fps hh
  induction hh with
  | nil=>intro f hf;cases hf
  | lit _ _ ih=>intro f hf g hg;rcases Vav.1 hf with rfl|hf;cases hg;exact ih f hf g hg
  | ow hO _ ih=>intro f hf g hg;rcases Vav.1 hf with rfl|hf;exact hO.lt g hg;exact ih f hf g hg
 have hno:∀{k:Nat} {us:List Value} {xs:List V} {fps:List (List Nat)},MkA w ts k us xs fps->∀(j:Nat) (f:List Nat),fps[j]?=some f->Z4i ts k xs (k+j)=none->f=[]:=by
  intro k us xs fps hh
  induction hh with
  | nil=>intro j f hf;simp at hf
  | @lit k v us xs fps _ _ ih=>
   intro j f hf hn;cases j with
   | zero=>simpa using hf.symm
   | succ j=>exact ih j f (by simpa using hf) (by rw[show k+1+j=k+(j+1) by omega];exact hn)
  | @ow k u rows f us xs fps hO _ ih=>
   intro j f' hf hn;cases j with
   | zero=>simp only[Z4i,Va3,Z1] at hn;cases hn
   | succ j=>
    simp only[Z4i] at hn;rw[Yo (show k+(j+1)≠k by omega)] at hn;exact ih j f' (by simpa using hf) (by rw[show k+1+j=k+(j+1) by omega];exact hn)
 have Ws:tmps.size=2+(fn.ntmps - 2):=by simp[tmps]
 have hR:Xn P w (λg=>g∈fps.flatten) w tmps (Yhi ts agg xs k) n0:=by
  refine {env:=λt v hv=>?_,out:=λt ht=>?_,obs:=λi b hb=>?_,noO:=λi hi=>?_,noB:=λb _=>rfl,box:=λb m hb=>(by cases hb),mineO:=λi g hg=>?_,mineB:=λb m hb=>(by cases hb),apO:=λi j Yf g hg Z7=>?_,once:=λi=>?_,apB:=λb b' m m' hb=>(by cases hb),apOB:=λi b m hb=>(by cases hb),usedO:=λi b hb=>?_,usedB:=λb m hb=>(by cases hb),used:=λd hd=>hd,left:=.refl _ _ _,base:=⟨Vaw _,Yku.1,Yku.2.1,λg hg=>?_⟩}
  .simp only[Yhi]
   by_cases h0:t=0
   .subst h0
    rw[Z1];have:v=Zww agg us:=by
     simp only[tmps] at hv;rw[Vb6 (by simp)] at hv;simpa using hv.symm
    subst this;cases agg with
    | true=>
     simp only[argL,Zww,if_true];refine .agg (by simp[Zs6,hl1]) (λx hx=>?_) (λj u x hu hx=>(Y02 j u x (by simpa using hu) hx).2);obtain⟨j,hj⟩:=Va1 hx;have Z5:=(ZZh.1 hj).1;rw[Zs6] at Z5;exact (Y02 j _ x (Vac (by omega)) hj).1
    | false=>
     simp only[argL,Zww,ZZf,if_false];have hx1:xs.length=1:=by
      rcases Yh1 with h|h
      .cases h
      .exact h
     match us,hl1 with
     | [u],_=>
      have hil:(Zkd 0 xs).length=1:=by rw[Zs6];exact hx1
      match Kj:Zkd 0 xs,hil with
      | [x],_=>exact (Y02 0 u x rfl (by rw[Kj];rfl)).2
     | [],hh=>simp at hh;omega
     | _::_::_,hh=>simp at hh;omega
   .rw[Yo h0]
    by_cases h1:t=1
    .subst h1
     rw[Z1];have:v=.int .i64 k:=by
      simp only[tmps] at hv;rw[Vb6 (by simp)] at hv;simpa using hv.symm
     subst this;exact .lit rfl
    .rw[Yo h1];exact .und
  .simp only[Yhi]
   rw[Ws] at ht;rw[Yo (by omega),Yo (by omega)]
  .obtain⟨_,q2,q3⟩:=hin2 i b hb
   unfold ObR;rw[q2];exact q3
  .cases Yj:fps[i]? with
   | none=>simp only[n0,Vax,Yj,Vce]
   | some f=>
    have:=hno hA i f Yj (by rw[Vbk];exact hi);simp only[n0,Vax,Yj,Va0];exact this
  .obtain⟨f,h1,h2⟩:=hfm i g hg
   exact⟨.inl (Q9 i g hg),hAlt hA f (Vag h1) g h2⟩
  .obtain⟨f,h1,h2⟩:=hfm i g hg
   obtain⟨f',h3,h4⟩:=hfm j g Z7;exact Y3y fps hnd i j f f' h1 h3 Yf g h2 h4
  .cases Yj:fps[i]? with
   | none=>simp only[n0,Vax,Yj,Vce];exact Vcv
   | some f=>simp only[n0,Vax,Yj,Va0];exact honce fps hnd i f Yj
  .have:=(hin2 i b hb).1
   simp only[n0,List.mem_singleton];omega
  .rcases hg with hg|hg
   .exact Yku.2.2 g hg
   .exact Vb4 Yku.1 hg
 refine calls_of_wp hfn hc (Zh0 (h ts w _ w {tmps:=tmps,defers:=[]} n0 _ hR ?_ (λex s2 a' w' Zs2 hA'=>?_)))
 .refine Z45 ?_ c (hP.dst f fn c hfn hc)
  simp only[tmps,Vdc,Vdm];simp;omega
 .obtain⟨rfl,Jo,Y0t⟩:=Zs2
  obtain⟨n',r1,r2,r3,r4⟩:=hA';refine⟨r4,.int .i64 k',?_,rfl,r2.left,?_⟩
  .have Z5:rt < a'.tmps.size:=by
    rcases Vb5 rt a'.tmps.size with h|h
    .exact h
    .have:=r2.out rt h;rw[Jo] at this;cases this
   have hv:a'.tmps[rt]?=some a'.tmps[rt]:=Vaf Z5;have h2:=r2.env rt _ hv;rw[Jo] at h2;have h3:=Zl0 h2;have:=Z1l (P:=P) (fn:=fn) (tmps:=a'.tmps) (w:=w') (us:=[.int .i64 k']) (by
    rw[hr];simp[Z3p,Z5,h3])
   exact this
  .refine Y1w hA Y0t (λi b hb=>r2.obs i b hb) (λj u hj=>?_) (λj f hj=>?_)
   .rw[r1.us (0+j) (by have:=(ZZh.1 hj).1;simp only[n0,List.mem_singleton];omega)];exact hu0 j u hj
   .rw[r1.fps (0+j) (by have:=(ZZh.1 hj).1;simp only[n0,List.mem_singleton];omega)];exact hf0 j f hj
end
def Zx2:V->List V
 | .agg cs=>cs
 | x=>[x]
def Z4b:List V->List V
 | []=>[]
 | x::xs=>Zx2 x++Z4b xs
def Ycp (k:Nat):V->LV
 | .agg cs=>.agg (Zkd k cs)
 | .tr _=>.ob k
 | .lit v=>.lit v
 | _=>.und
def Zx5:(p k:Nat)->List V->Nat->LV
 | _,_,[]=>λ_=>.und
 | p,k,x::xs=>upd (Zx5 (p+1) (k+(Zx2 x).length) xs) p (Ycp k x)
def Z37:Nat->List V->Nat->Option LO
 | _,[]=>λ_=>none
 | k,.tr r::xs=>upd (Z37 (k+1) xs) k (some ⟨false,0,0,r⟩)
 | k,_::xs=>Z37 (k+1) xs
def entF (xs:List V):LS:=⟨Zx5 0 0 xs,Z37 0 (Z4b xs),λ_=>none,λ_=>[],[0]⟩
def Zz0:V->Bool
 | .lit _|.tr _=>true
 | _=>false
def argT:V->Bool
 | .agg cs=>cs.all Zz0
 | x=>Zz0 x
section
variable {P:Program} {M:Yp} {w0:World} {io:Nat->Prop} {w w':World} {a:Act} {tmps:Array Value} {s s':LS} {n n':Nm} {okv top:Nat->Prop}
theorem Ybq {u:Value} {x:V} (h:∀ρ,En w okv ρ u x) (hx:Zz0 x=true):(∀r,x=.tr r->Rd w okv u x)/\∀(k:Nat) (n:Nm) (w':World),k / 1000∈n.U->n.us k=u->LvR w' n u (Ycp k x)/\Zfn (Ycp k x)=true/\Zkd k [x]=[Ycp k x]:=by
 have h0:=h (λ_=>none);cases x<;>simp[Zz0] at hx
 case lit v=>cases h0 with|lit hs=>exact⟨λr hr=>(by cases hr),λk n w' _ _=>⟨.lit hs,rfl,rfl⟩⟩
 case tr rows=>
  cases h0 with
  | tr hr=>
   refine⟨λr _=>hr,λk n w' hU hu=>⟨?_,rfl,rfl⟩⟩;have:=LvR.ob (w:=w') (n:=n) (i:=k) hU (by rw[hu];exact hr.one);rw[hu] at this;exact this
theorem Yy2:∀{xs:List V} {k j:Nat} {x:V},xs[j]?=some x->Zz0 x=true->(Zkd k xs)[j]?=some (Ycp (k+j) x):=by
 intro xs
 induction xs with
 | nil=>intro k j x h;simp at h
 | cons y ys ih=>
  intro k j x h hx;cases j with
  | zero=>
   have e:y=x:=by simpa using h
   subst e;cases y<;>simp[Zz0] at hx<;>rfl
  | succ j=>
   have:=ih (k:=k+1) (by simpa using h) hx;rw[show k+1+j=k+(j+1) by omega] at this;cases y<;>simpa [Zkd] using this
theorem Y3m {u:Value} {x:V} (h:∀ρ,En w okv ρ u x) (hx:argT x=true):∃W:List Value,W.length=(Zx2 x).length/\(∀(j:Nat) (v:Value) (r:List (List V)),W[j]?=some v->(Zx2 x)[j]?=some (.tr r)->Rd w okv v (.tr r))/\
  ∀(k:Nat) (n:Nm) (w':World),0∈n.U->k+W.length<=1000->(∀j v,W[j]?=some v->n.us (k+j)=v)->LvR w' n u (Ycp k x):=by
 by_cases Zh3:∃cs,x=.agg cs
 .obtain⟨cs,rfl⟩:=Zh3
  have Xh:∀ρ,∃vs:Array Value,u=.agg vs/\vs.size=cs.length/\∀(j:Nat) (v:Value) (y:V),vs[j]?=some v->cs[j]?=some y->En w okv ρ v y:=λρ=>by
   have:=h ρ;cases this with
   | @agg vs _ hl hc hr=>exact⟨vs,rfl,hl,hr⟩
  obtain⟨vs,rfl,hl,_⟩:=Xh (λ_=>none);have hr:∀(j:Nat) (v:Value) (y:V),vs[j]?=some v->cs[j]?=some y->∀ρ,En w okv ρ v y:=λj v y hv hy ρ=>by
   obtain⟨vs',e,_,h1⟩:=Xh ρ;injection e with e;subst e;exact h1 j v y hv hy
  have Zcq:∀(j:Nat) (y:V),cs[j]?=some y->Zz0 y=true:=λj y hy=>ZZk.1 hx y (Vag hy);refine⟨vs.toList,by simpa [Zx2] using hl,λj v r hv hy=>(Ybq (hr j v _ (by simpa using hv) hy) rfl).1 r rfl,λk n w' hU hk hus=>?_⟩;simp only[Ycp];have hkey:∀(j:Nat) (v:Value) (y:LV),vs[j]?=some v->(Zkd k cs)[j]?=some y->LvR w' n v y/\Zfn y=true:=λj v y hv hy=>by
   have Z5:=(ZZh.1 hy).1;rw[Zs6] at Z5;have hc:cs[j]?=some cs[j]:=Vac Z5;rw[Yy2 hc (Zcq j _ hc)] at hy;injection hy with hy;subst hy;have hk2:k+j < 1000:=by simp at hk;omega
   obtain⟨q1,q2,_⟩:=(Ybq (hr j v _ hv hc) (Zcq j _ hc)).2 (k+j) n w' (by rw[Nat.div_eq_of_lt hk2];exact hU) (hus j v (by simpa using hv));exact⟨q1,q2⟩
  refine .agg (by rw[Zs6];exact hl) (λy hy=>?_) (λj v y hv hy=>(hkey j v y hv hy).1);obtain⟨j,hj⟩:=Va1 hy;have Z5:=(ZZh.1 hj).1;rw[Zs6] at Z5;exact (hkey j _ y (Vaf (by omega)) hj).2
 .have hx':Zz0 x=true:=by
   cases x<;>first|exact hx|exact absurd ⟨_,rfl⟩ Zh3
  have hcx:Zx2 x=[x]:=by
   cases x<;>first|rfl|exact absurd ⟨_,rfl⟩ Zh3
  obtain⟨h1,h2⟩:=Ybq h hx';refine⟨[u],by rw[hcx];rfl,λj v r hv hy=>?_,λk n w' hU hk hus=>?_⟩
  .rw[hcx] at hy
   cases j with
   | zero=>
    have e1:u=v:=by simpa using hv
    have e2:x=.tr r:=by simpa using hy
    subst e1;subst e2;exact h1 r rfl
   | succ j=>simp at hv
  .exact (h2 k n w' (by rw[Nat.div_eq_of_lt (by simp at hk;omega)];exact hU) (hus 0 u rfl)).1
theorem Y20 {ms:List Yh} {us:List Value} {xs:List V} {G:List Nat} (h:Zt6 P w okv top ms us xs G):Zus ms=true->xs.all argT=true->G=[]/\us.length=xs.length/\∃W:List Value,W.length=(Z4b xs).length/\(∀(j:Nat) (v:Value) (r:List (List V)),W[j]?=some v->(Z4b xs)[j]?=some (.tr r)->Rd w okv v (.tr r))/\
  ∀(p k:Nat) (n:Nm) (w':World),0∈n.U->k+W.length<=1000->(∀j v,W[j]?=some v->n.us (k+j)=v)->∀(j:Nat) (u:Value),us[j]?=some u->LvR w' n u (Zx5 p k xs (p+j)):=by
 induction h with
 | nil=>exactλ_ _=>⟨rfl,rfl,[],rfl,λj v r hv=>by simp at hv,λp k n w' _ _ _ j u hu=>by simp at hu⟩
 | @cons ms u us x xs f1 f2 hx hxs ih=>
  intro hm ha;simp only[Va6,ZZg] at ha;obtain⟨hm1,hm2⟩:=Z6s hm;obtain⟨rfl,Yl,W2,b1,b2,b3⟩:=ih hm2 ha.2;rw[hm1] at hx;obtain⟨Xh,rfl⟩:=hx;obtain⟨W1,a1,a2,a3⟩:=Y3m Xh ha.1;refine⟨rfl,by simp[Yl],W1++W2,by simp[Z4b,a1,b1],λj v r hv hy=>?_,λp k n w' hU hk hus j u' hu=>?_⟩
  .simp only[Z4b] at hy
   by_cases hj:j < W1.length
   .rw[Vaj hj] at hv
    rw[Vaj (by omega)] at hy;exact a2 j v r hv hy
   .rw[Vah (by omega)] at hv
    rw[Vah (by omega),<-a1] at hy;exact b2 _ v r hv hy
  .simp only[Vbb] at hk
   cases j with
   | zero=>
    have e:u=u':=by simpa using hu
    subst e;simp only[Zx5,Va3,Z1];exact a3 k n w' hU (by omega) (λj v hj=>hus j v (by rw[Vaj (ZZh.1 hj).1];exact hj))
   | succ j=>
    simp only[Zx5];rw[Yo (show p+(j+1)≠p by omega),show p+(j+1)=p+1+j by omega];refine b3 (p+1) (k+(Zx2 x).length) n w' hU (by omega) (λi v hi=>?_) j u' (by simpa using hu);have:=hus (W1.length+i) v (by rw[Vah (by omega),Vbp];exact hi);rw[a1,<-Nat.add_assoc] at this;exact this
theorem Ye4:∀{xs:List V} {k i:Nat} {b:LO},Z37 k xs i=some b->∃j r,i=k+j/\j < xs.length/\xs[j]?=some (.tr r)/\b=⟨false,0,0,r⟩:=by
 intro xs
 induction xs with
 | nil=>intro k i b h;simp[Z37] at h
 | cons x xs ih=>
  intro k i b h;have next:Z37 (k+1) xs i=some b->∃j r,i=k+j/\j < (x::xs).length/\(x::xs)[j]?=some (.tr r)/\b=⟨false,0,0,r⟩:=λh=>by
   obtain⟨j,r,h1,h2,h3,h4⟩:=ih h;exact⟨j+1,r,by omega,by simp;omega,by simpa using h3,h4⟩
  cases x<;>simp only[Z37] at h<;>try exact next h
  rename_i r;by_cases e:i=k
  .subst e
   rw[Z1] at h;injection h with h;exact⟨0,r,rfl,by simp,rfl,h.symm⟩
  .rw[Yo e] at h
   exact next h
theorem Yeb:∀{xs:List V} {p k t:Nat},p+xs.length<=t->Zx5 p k xs t=.und:=by
 intro xs
 induction xs with
 | nil=>intro p k t _;rfl
 | cons x xs ih=>
  intro p k t h;simp only[Vaa] at h;simp only[Zx5];rw[Yo (by omega)];exact ih (by omega)
theorem Yw0 {ms:List Yh} {us:List Value} {xs:List V}:Zus ms=true->us.length=xs.length->Zhc P w okv top ms us xs (xs.map λ_=>.undef) []:=by
 induction xs generalizing ms us with
 | nil=>
  intro _ hl;have:us=[]:=Vas (by simpa using hl);subst this;exact .nil
 | cons x xs ih=>
  intro hm hl;obtain⟨hm1,hm2⟩:=Z6s hm
  match us,hl with
  | u::us,hl=>
   have:=Zhc.cons (P:=P) (w:=w) (ok:=okv) (top:=top) (ms:=ms) (u:=u) (x:=x) (o:=.undef) (f1:=[]) (by rw[hm1];rfl) (ih hm2 (by simpa using hl));exact this
theorem Yni (hP:Yk P) {f:FuncId} {fn:Func} {c:Code} {xs:List V} {rt:Nat} {b:Bool} (hm:Zus (M.modes f)=true) (hfn:P.funcs[f]?=some fn) (hc:fn.body=some c) (hr:fn.results=#[.tmp rt]) (ha:xs.all argT=true) (hx:(Z4b xs).length<=1000)
  (h:Lx P c (entF xs) (λe s=>e=.ret/\s.env rt=.lit (.bool b))):Zt P M (f,xs,.lit (.bool b),xs.map λ_=>.undef):=by
 refine⟨⟨fn,hfn,by rw[hc];rfl⟩,?_⟩;intro w us G T X ok hT Z1b hGn hG Y2 hX;obtain⟨hG0,Yl,W,w1,w2,w3⟩:=Y20 Z1b hm ha;have hWl:W.length<=1000:=by rw[w1];exact hx
 have Z07:us.size=xs.length:=by simpa using Yl
 let n0:Nm:=⟨λi=>W.getD i undef,λ_=>[],λ_=>0,[0]⟩
 have hu0:∀j v,W[j]?=some v->n0.us (0+j)=v:=λj v hj=>by simp only[n0,Vbk,Vax,hj,Va0]
 let tmps:=us++Array.replicate (fn.ntmps - us.size) undef
 have hR:Xn P w (λ_=>False) w tmps (entF xs) n0:=by
  refine {env:=λt v hv=>?_,out:=λt ht=>?_,obs:=λi b hb=>?_,noO:=λi hi=>rfl,noB:=λb _=>rfl,box:=λb m hb=>(by cases hb),mineO:=λi g hg=>(by cases hg),mineB:=λb m hb=>(by cases hb),apO:=λi j Yf g hg=>(by cases hg),once:=λi=>Vcv,apB:=λb b' m m' hb=>(by cases hb),apOB:=λi b m hb=>(by cases hb),usedO:=λi b hb=>?_,usedB:=λb m hb=>(by cases hb),used:=λd hd=>hd,left:=.refl _ _ _,base:=⟨Vaw _,hT.1,hT.2.1,λg hg=>?_⟩}
  .by_cases ht:t < us.size
   .simp only[tmps] at hv
    rw[Vb6 ht] at hv;have:=w3 0 0 n0 w (by simp[n0]) (by rw[Vbk];exact hWl) hu0 t v (by simpa using hv);rw[Vbk] at this;exact this
   .rw[show (entF xs).env t=.und from Yeb (by omega)]
    exact .und
  .simp only[tmps,Vdc] at ht
   exact Yeb (by omega)
  .obtain⟨j,r,h1,h2,h3,rfl⟩:=Ye4 hb
   have hjl:j < W.length:=by rw[w1];exact h2
   have hj:W[j]?=some (W[j]'hjl):=Vac hjl;refine⟨rfl,?_⟩;have:=w2 j _ r hj h3;rw[h1,hu0 j _ hj];exact this.mono (λ_ _ _=>rfl) (λg hg=>⟨(Y2 g hg).1,id⟩)
  .obtain⟨j,r,h1,h2,h3,rfl⟩:=Ye4 hb
   simp only[n0,List.mem_singleton];omega
  .rcases hg with hg|hg
   .exact hg.elim
   .exact Vb4 hT.1 hg
 refine calls_of_wp hfn hc (Zh0 (h w _ w {tmps:=tmps,defers:=[]} n0 _ hR ?_ (λex s2 a' w' Zs2 hA'=>?_)))
 .refine Z45 ?_ c (hP.dst f fn c hfn hc)
  simp only[tmps,Vdc,Vdm];omega
 .obtain⟨rfl,Jo⟩:=Zs2
  obtain⟨n',r1,r2,r3,r4⟩:=hA';refine⟨r4,.bool b,?_,_,rfl,?_⟩
  .have Z5:rt < a'.tmps.size:=by
    rcases Vb5 rt a'.tmps.size with h|h
    .exact h
    .have:=r2.out rt h;rw[Jo] at this;cases this
   have hv:a'.tmps[rt]?=some a'.tmps[rt]:=Vaf Z5;have h2:=r2.env rt _ hv;rw[Jo] at h2;have h3:=Zl0 h2;exact Z1l (P:=P) (fn:=fn) (tmps:=a'.tmps) (w:=w') (us:=[.bool b]) (by
    rw[hr];simp[Z3p,Z5,h3])
  .refine⟨⟨r2.left.os,r2.left.tape,r2.left.output,r2.left.size,λk hk _=>r2.left.block k hk id⟩,λ_=>False,λ_=>False,[],[],.lit rfl,Yw0 hm (by simpa using Yl),by simp,λg hg=>(by cases hg),λg hg=>hg.elim,λg hg=>hg.elim⟩
end
structure LLe (s s':LS):Prop where
 env:∀t,s.env t=.und\/s'.env t=s.env t
 ob:∀i,s.ob i=none\/s'.ob i=s.ob i
 bk:∀b,s.bk b=none\/s'.bk b=s.bk b
 bx:∀b,s.bx b=[]\/s'.bx b=s.bx b
section
variable {P:Program} {M:Yp} {w0:World} {io:Nat->Prop} {w w':World} {a a':Act} {tmps:Array Value} {s s' s0:LS} {n n':Nm} {o:Oper} {v:LV} {p:LPt} {ops:Array Oper}
theorem LLe.opL (h:LLe s s') {x:Operand} {v:LV} (hx:Ev.opL s x=v) (hv:v≠.und):Ev.opL s' x=v:=by
 cases x with
 | tmp t=>
  simp only[Ev.opL] at hx ⊢;rcases h.env t with e|e
  .exact absurd (hx.symm.trans e) hv
  .rw[e];exact hx
 | _=>exact hx
theorem LLe.ob1 (h:LLe s s') {i:Nat} {b:LO} (hb:s.ob i=some b):s'.ob i=some b:=by
 rcases h.ob i with e|e
 .rw[e] at hb;cases hb
 .rw[e];exact hb
theorem LLe.bk1 (h:LLe s s') {i:Nat} {b:Nat} (hb:s.bk i=some b):s'.bk i=some b:=by
 rcases h.bk i with e|e
 .rw[e] at hb;cases hb
 .rw[e];exact hb
theorem Ydw {f f':Operand->V} (h:∀x∈o.op.operands.toList,f x=f' x):Xd P f o=Xd P f' o:=by
 unfold Xd;cases hp:Zj9 o.op with
 | false=>simp
 | true=>
  have h1:o.op.operands.toList.all (λx=>(Xu (f x)).isSome)=o.op.operands.toList.all (λx=>(Xu (f' x)).isSome):=by
   apply Bool.eq_iff_iff.2;rw[ZZk,ZZk];exact⟨λhh x hx=>by rw[<-h x hx];exact hh x hx,λhh x hx=>by rw[h x hx];exact hh x hx⟩
  rw[h1,Ztq hp (ρ:=λx=>(Xu (f x)).getD undef) (ρ':=λx=>(Xu (f' x)).getD undef) (λx hx=>by rw[h x hx])]
theorem Zmw.mono (hl:LLe s s') (h:Zmw P s o v) (hv:v≠.und):Zmw P s' o v:=by
 cases h with
 | move ho hx=>exact .move ho (hl.opL hx hv)
 | @pick c x y t _ ho hc hx=>
  refine .pick ho (hl.opL hc (by simp)) ?_;cases t
  .exact hl.opL hx hv
  .exact hl.opL hx hv
 | extract ho ht hx=>exact .extract ho (hl.opL ht (by simp)) hx
 | plain h=>
  refine .plain ?_;rw[<-h];refine (Ydw λx hx=>?_).symm;have Qy:(Xu (toV (Ev.opL s x))).isSome=true:=by
   unfold Xd at h;split at h
   .rename_i hc
    rw[ZZg] at hc;exact ZZk.1 hc.2 x hx
   .cases h
  cases hq:Ev.opL s x<;>rw[hq] at Qy<;>simp[toV,Xu] at Qy;rw[hl.opL hq (by simp)]
 | len ho ht hx hb=>exact .len ho ht (hl.opL hx (by simp)) (hl.ob1 hb)
 | fieldB ho hf hx=>exact .fieldB ho hf (hl.opL hx (by simp))
 | fieldO ho hf hx=>exact .fieldO ho hf (hl.opL hx (by simp))
 | @index t e x ix i m b row ho ht hz hn hx hb hr hrl Yc=>
  refine .index ho ht hz ?_ (hl.opL hx (by simp)) (hl.ob1 hb) hr hrl Yc;cases hq:Ev.opL s ix<;>rw[hq] at hn<;>simp[toV,Xq] at hn;rw[hl.opL hq (by simp)];simpa [toV,Xq] using hn
 | @loadB t x b m k _ ho hx hk Yl Yf hv'=>
  have e:s'.bx b=s.bx b:=by
   rcases hl.bx b with e|e
   .exact absurd e Yf
   .exact e
  exact .loadB ho (hl.opL hx (by simp)) (hl.bk1 hk) (by rw[e];exact Yl) (by rw[e];exact Yf) (by rw[e];exact hv')
 | loadL ho hx hb Yc hz h1 ha hu hj hm=>exact .loadL ho (hl.opL hx (by simp)) (hl.ob1 hb) Yc hz h1 ha hu hj hm
 | loadN ho hx hb Yc hz h1 ha hu hj hm=>exact .loadN ho (hl.opL hx (by simp)) (hl.ob1 hb) Yc hz h1 ha hu hj hm
theorem LLe.rdC (h:LLe s s') {x:LV} {y:V} (hr:Ev.rdC s x=some y):Ev.rdC s' x=some y:=by
 unfold Ev.rdC at hr ⊢;split<;>simp_all;obtain⟨b,hb,rfl⟩:=hr;exact⟨b,h.ob1 hb,rfl⟩
theorem LLe.rdCs (h:LLe s s'):∀{xs:List LV} {ys:List V},Ev.rdCs s xs=some ys->Ev.rdCs s' xs=some ys:=by
 intro xs
 induction xs with
 | nil=>intro ys hr;exact hr
 | cons x xs ih=>
  intro ys hr;simp only[Ev.rdCs] at hr ⊢;obtain⟨y,h1,hr⟩:=ZZb.1 hr;obtain⟨zs,h2,rfl⟩:=ZZc.1 hr;rw[h.rdC h1,ZZa,ih h2];rfl
theorem LLe.rdA (h:LLe s s') {x:LV} {y:V} (hr:Ev.rdA s x=some y):Ev.rdA s' x=some y:=by
 unfold Ev.rdA at hr ⊢;split
 .simp only at hr
  obtain⟨zs,h2,rfl⟩:=ZZc.1 hr;rw[h.rdCs h2];rfl
 .rename_i hx
  split at hr
  .exact absurd rfl (hx _)
  .exact h.rdC hr
theorem LLe.rdAs (h:LLe s s'):∀{xs:List Operand} {ys:List V},Ev.rdAs s (xs.map (Ev.opL s))=some ys->Ev.rdAs s' (xs.map (Ev.opL s'))=some ys:=by
 intro xs
 induction xs with
 | nil=>intro ys hr;exact hr
 | cons x xs ih=>
  intro ys hr;simp only[Va7,Ev.rdAs] at hr ⊢;obtain⟨y,h1,hr⟩:=ZZb.1 hr;obtain⟨zs,h2,rfl⟩:=ZZc.1 hr;have Yf:Ev.opL s x≠.und:=λe=>by rw[e] at h1;simp[Ev.rdA,Ev.rdC] at h1
  rw[h.opL rfl Yf,h.rdA h1,ZZa,ih h2];rfl
theorem Yin {x:LV} {cs:List LV} (h:Zzl x=some cs):x≠.und:=λe=>by subst e;cases h
theorem LOp.mono1 (hl:LLe s s') (h:LOp P M s o v p) (hv:v≠.und\/∃t x y,o.op=.store t x y):LOp P M s' o v p:=by
 cases h with
 | look h=>
  rcases hv with hv|⟨t,x,y,hs⟩
  .exact .look (h.mono hl hv)
  .exfalso
   cases h with
   | plain h=>unfold Xd at h;simp[hs,Zj9] at h
   | move ho=>rcases ho with ho|ho<;>(rw[hs] at ho;cases ho)
   | pick ho=>rw[hs] at ho;cases ho
   | extract ho=>rw[hs] at ho;cases ho
   | len ho=>rw[hs] at ho;cases ho
   | fieldB ho=>rw[hs] at ho;cases ho
   | fieldO ho=>rw[hs] at ho;cases ho
   | index ho=>rw[hs] at ho;cases ho
   | loadB ho=>rw[hs] at ho;cases ho
   | loadL ho=>rw[hs] at ho;cases ho
   | loadN ho=>rw[hs] at ho;cases ho
 | alloc ho hz hd=>exact .alloc ho hz hd
 | box ho hc hd=>exact .box ho (by rw[hl.opL rfl (Yin hc)];exact hc) hd
 | store ho hx hb hc hl' hz=>exact .store ho (hl.opL hx (by simp)) (hl.bk1 hb) (by rw[hl.opL rfl (Yin hc)];exact hc) hl' hz
 | call ho hf ha hm hg hr hle hd=>exact .call ho (hl.opL hf (by simp)) (hl.rdAs ha) hm hg hr hle hd
structure DR where
 dst:Option Tmp
 v:LV
 p:LPt
def Zvv (e:DR) (s:LS):LS:=(s.add e.p s.used).put e.dst e.v
def bld (es:Nat->DR) (L:Nat->Bool) (s0:LS):Nat->LS
 | 0=>s0
 | k+1=>if L k then Zvv (es k) (bld es L s0 k) else bld es L s0 k
open Classical in
noncomputable def mg {α:Type} (D:Nat->Prop) (f:Nat->Nat->Option α) (base:Nat->α) (x:Nat):α:=if h:∃j,D j/\(f j x).isSome=true then (f (Classical.choose h) x).getD (base x) else base x
def Z74 {α:Type} (f:Nat->Nat->Option α):Prop:=∀i j x,(f i x).isSome=true->(f j x).isSome=true->i=j
theorem Z88 {α:Type} {D:Nat->Prop} {f:Nat->Nat->Option α} {base:Nat->α} {x j:Nat} {y:α} (hu:Z74 f) (hj:D j) (hy:f j x=some y):mg D f base x=y:=by
 have h:∃j,D j/\(f j x).isSome=true:=⟨j,hj,by rw[hy];rfl⟩;unfold mg;rw[dif_pos h];have:=hu _ j x (Vb8 h).2 (by rw[hy];rfl);rw[this,hy];rfl
theorem Zxn {α:Type} {D:Nat->Prop} {f:Nat->Nat->Option α} {base:Nat->α} {x:Nat} (h:∀j,D j->f j x=none):mg D f base x=base x:=by
 unfold mg;rw[dif_neg];rintro⟨j,hj,h1⟩;rw[h j hj] at h1;cases h1
theorem Ybl {α:Type} {D:Nat->Prop} {f:Nat->Nat->Option α} {base:Nat->α} (hu:Z74 f) (x:Nat):(∃j y,D j/\f j x=some y/\mg D f base x=y)\/((∀j,D j->f j x=none)/\mg D f base x=base x):=by
 by_cases h:∃j,D j/\(f j x).isSome=true
 .obtain⟨j,hj,h1⟩:=h
  obtain⟨y,hy⟩:=Val.1 h1;exact .inl ⟨j,y,hj,hy,Z88 hu hj hy⟩
 .have:∀j,D j->f j x=none:=λj hj=>by
   cases hf:f j x with
   | none=>rfl
   | some y=>exact absurd ⟨j,hj,by rw[hf];rfl⟩ h
  exact .inr ⟨this,Zxn this⟩
theorem Yfe {α:Type} {D D':Nat->Prop} {f:Nat->Nat->Option α} {base:Nat->α} {i:Nat} (hu:Z74 f) (hD:∀j,D' j↔D j\/j=i) (x:Nat):mg D' f base x=(f i x).getD (mg D f base x):=by
 cases hi:f i x with
 | some y=>rw[Z88 hu ((hD i).2 (.inr rfl)) hi];rfl
 | none=>
  rw[Vce];rcases Ybl (D:=D) (base:=base) hu x with⟨j,y,h1,h2,h3⟩|⟨h1,h2⟩
  .rw[h3,Z88 hu ((hD j).2 (.inl h1)) h2]
  .rw[h2,Zxn λj hj=>?_]
   rcases (hD j).1 hj with h|h
   .exact h1 j h
   .rw[h];exact hi
theorem Ykj {α:Type} {D D':Nat->Prop} {f:Nat->Nat->Option α} {base:Nat->α} (hu:Z74 f) (hD:∀j,D j->D' j) {bot:α} (hb:∀j x,(f j x).isSome=true->base x=bot) (x:Nat):mg D f base x=bot\/mg D' f base x=mg D f base x:=by
 rcases Ybl (D:=D) (base:=base) hu x with⟨j,y,h1,h2,h3⟩|⟨h1,h2⟩
 .right;rw[h3];exact Z88 hu (hD j h1) h2
 .rcases Ybl (D:=D') (base:=base) hu x with⟨j,y,h3,h4,h5⟩|⟨h3,h4⟩
  .left;rw[h2];exact hb j x (by rw[h4];rfl)
  .right;rw[h2,h4]
def fE (es:Nat->DR) (j t:Nat):Option LV:=if (es j).dst=some t then some (es j).v else none
def fO (es:Nat->DR) (j i:Nat):Option (Option LO):=((es j).p.ob i).map some
def fK (es:Nat->DR) (j b:Nat):Option (Option Nat):=((es j).p.bk b).map some
def fX (es:Nat->DR) (j b:Nat):Option (List LV):=(es j).p.bx b
noncomputable def SD (es:Nat->DR) (s0:LS) (D:Nat->Prop):LS:=⟨mg D (fE es) s0.env,mg D (fO es) s0.ob,mg D (fK es) s0.bk,mg D (fX es) s0.bx,s0.used⟩
structure Apt (es:Nat->DR) (s0:LS):Prop where
 uE:Z74 (fE es)
 uO:Z74 (fO es)
 uK:Z74 (fK es)
 uX:Z74 (fX es)
 bE:∀j x,(fE es j x).isSome=true->s0.env x=.und
 bO:∀j x,(fO es j x).isSome=true->s0.ob x=none
 bK:∀j x,(fK es j x).isSome=true->s0.bk x=none
 bX:∀j x,(fX es j x).isSome=true->s0.bx x=[]
variable {es:Nat->DR} {D D':Nat->Prop}
theorem LS.ext' {x y:LS} (h1:∀t,x.env t=y.env t) (h2:∀i,x.ob i=y.ob i) (h3:∀b,x.bk b=y.bk b) (h4:∀b,x.bx b=y.bx b) (h5:x.used=y.used):x=y:=by
 obtain⟨a1,a2,a3,a4,a5⟩:=x;obtain⟨b1,b2,b3,b4,b5⟩:=y;simp only at h1 h2 h3 h4 h5;rw[funext h1,funext h2,funext h3,funext h4,h5]
theorem Yxl (h:Apt es s0) {i:Nat} (hD:∀j,D' j↔D j\/j=i):SD es s0 D'=Zvv (es i) (SD es s0 D):=by
 have hput:∀(s:LS) (d:Option Tmp) (v:LV),(s.put d v).ob=s.ob/\(s.put d v).bk=s.bk/\(s.put d v).bx=s.bx/\(s.put d v).used=s.used/\∀t,(s.put d v).env t=if d=some t then v else s.env t:=λs d v=>by
  cases d with
  | none=>exact⟨rfl,rfl,rfl,rfl,λt=>by simp[LS.put]⟩
  | some d=>
   refine⟨rfl,rfl,rfl,rfl,λt=>?_⟩;simp only[LS.put,upd,ZZd];by_cases e:t=d
   .subst e;simp
   .rw[ZZi e,ZZi (λh=>e h.symm)]
 obtain⟨p1,p2,p3,p4,p5⟩:=hput ((SD es s0 D).add (es i).p (SD es s0 D).used) (es i).dst (es i).v;refine LS.ext' (λt=>?_) (λk=>?_) (λb=>?_) (λb=>?_) ?_
 .show mg D' (fE es) s0.env t=_
  rw[Yfe h.uE hD];show _=(Zvv (es i) (SD es s0 D)).env t;unfold Zvv;rw[p5];simp only[fE];split<;>rfl
 .show mg D' (fO es) s0.ob k=_
  rw[Yfe h.uO hD];show _=(Zvv (es i) (SD es s0 D)).ob k;unfold Zvv;rw[p1];simp only[fO,LS.add,SD];cases (es i).p.ob k<;>rfl
 .show mg D' (fK es) s0.bk b=_
  rw[Yfe h.uK hD];show _=(Zvv (es i) (SD es s0 D)).bk b;unfold Zvv;rw[p2];simp only[fK,LS.add,SD];cases (es i).p.bk b<;>rfl
 .show mg D' (fX es) s0.bx b=_
  rw[Yfe h.uX hD];show _=(Zvv (es i) (SD es s0 D)).bx b;unfold Zvv;rw[p3];rfl
 .show s0.used=(Zvv (es i) (SD es s0 D)).used
  unfold Zvv;rw[p4];rfl
theorem SD_le (h:Apt es s0) (hD:∀j,D j->D' j):LLe (SD es s0 D) (SD es s0 D'):=
 ⟨λt=>Ykj h.uE hD h.bE t,λi=>Ykj h.uO hD h.bO i,λb=>Ykj h.uK hD h.bK b,λb=>Ykj h.uX hD h.bX b⟩
theorem Ynw (hD:∀j,¬D j):SD es s0 D=s0:=
 LS.ext' (λt=>Zxn λj hj=>absurd hj (hD j)) (λt=>Zxn λj hj=>absurd hj (hD j)) (λt=>Zxn λj hj=>absurd hj (hD j)) (λt=>Zxn λj hj=>absurd hj (hD j)) rfl
theorem Ybz (hD:∀j,D j↔D' j):SD es s0 D=SD es s0 D':=by
 have:D=D':=funext λj=>propext (hD j);rw[this]
theorem Yxq (h:Apt es s0) {L:Nat->Bool}:∀k,bld es L s0 k=SD es s0 (λj=>j < k/\L j=true):=by
 intro k
 induction k with
 | zero=>exact (Ynw (by rintro j ⟨h,_⟩;omega)).symm
 | succ k ih=>
  simp only[bld];cases hL:L k with
  | true=>
   simp only[if_true];rw[ih];refine (Yxl h (D:=λj=>j < k/\L j=true) (D':=λj=>j < k+1/\L j=true) (i:=k) λj=>⟨λ⟨h1,h2⟩=>?_,λhh=>?_⟩).symm
   .by_cases e:j=k
    .exact .inr e
    .exact .inl ⟨by omega,h2⟩
   .rcases hh with⟨h1,h2⟩|e
    .exact⟨by omega,h2⟩
    .exact⟨by omega,by rw[e];exact hL⟩
  | false=>
   simp only[ZZf,if_false];rw[ih];refine Ybz λj=>⟨λ⟨h1,h2⟩=>⟨by omega,h2⟩,λ⟨h1,h2⟩=>⟨?_,h2⟩⟩;by_cases e:j=k
   .rw[e,hL] at h2;cases h2
   .omega
structure Yu5 (P:Program) (M:Yp) (s0:LS) (es:Nat->DR) (Pre:Nat->List Nat) (i:Nat) (o:Oper):Prop where
 guard:o.guard=none
 edge:∀e∈o.after,Region.binds .any e=true->e.on < i
 pre:∀j∈Pre i,∃e∈o.after,Region.binds .any e=true/\(j=e.on\/j∈Pre e.on)
 op:LOp P M (bld es (λj=>(Pre i).contains j) s0 i) o (es i).v (es i).p
 dst:(es i).dst=o.dst
 nu:(es i).v≠.und\/∃t x y,o.op=.store t x y
 mkr:Ks o=true->∀d,o.dst=some d->d∈s0.used
variable {Pre:Nat->List Nat}
theorem Yrg (hF:∀(i:Nat) (o:Oper),ops[i]?=some o->Yu5 P M s0 es Pre i o) {L:Nat->Prop} (hL:∀(m:Nat) (o:Oper),L m->ops[m]?=some o->∀e∈o.after,Region.binds .any e=true->L e.on):
  ∀(m:Nat) (o:Oper),ops[m]?=some o->(∀e∈o.after,Region.binds .any e=true->L e.on)->∀j∈Pre m,L j:=by
 intro m
 induction m using Nat.strongRecOn with
 | _ m ih=>
  intro o ho hp j hj;obtain⟨e,he,hb,hj⟩:=(hF m o ho).pre j hj;have Z5:=(hF m o ho).edge e he hb;have hLe:=hp e he hb;rcases hj with rfl|hj
  .exact hLe
  .have hm:m < ops.size:=(Vam.1 ho).1
   have Q2:ops[e.on]?=some (ops[e.on]'(by omega)):=Vaf (by omega);exact ih e.on Z5 _ Q2 (hL e.on _ hLe Q2) j hj
theorem Yw7 (hP:Yk P) {Q:Exit->Act->World->Prop} {U0:List Nat} (hF:∀(i:Nat) (o:Oper),ops[i]?=some o->Yu5 P M s0 es Pre i o) (hA:Apt es s0) (hU:∀(i:Nat) (o:Oper) (d:Nat),ops[i]?=some o->Ks o=true->o.dst=some d->d ∉ U0):
  ∀(fuel:Nat) (listed:Array Bool) {a:Act} {w:World} {n:Nm},listed.size=ops.size->((List.range ops.size).filter λj=>!listed.getD j true).length<=fuel->
   (∀(m:Nat) (o:Oper),listed.getD m false=true->ops[m]?=some o->∀e∈o.after,Region.binds .any e=true->listed.getD e.on false=true)->
   Xn P w0 io w a.tmps (SD es s0 (λj=>listed.getD j false=true)) n->(∀d∈n.U,d∈U0\/∃j o,listed.getD j false=true/\ops[j]?=some o/\o.dst=some d)->Zme a.tmps.size ops.toList=true->
   (∀a' w',Zon P w0 io a n (SD es s0 (λj=>j < ops.size)) a' w'->Q .normal a' w')->wpAny P .any ops Q fuel listed a w:=by
 have same:∀(listed:Array Bool) (j:Nat),listed.size=ops.size->j < ops.size->listed.getD j false=listed.getD j true:=λlisted j hs hj=>by
  simp[show j < listed.size by omega]
 have done:∀(listed:Array Bool) {a:Act} {w:World} {n:Nm},listed.size=ops.size->(∀(m:Nat) (o:Oper),listed.getD m false=true->ops[m]?=some o->∀e∈o.after,Region.binds .any e=true->listed.getD e.on false=true)->Region.ready .any ops listed=[]->
   Xn P w0 io w a.tmps (SD es s0 (λj=>listed.getD j false=true)) n->(∀a' w',Zon P w0 io a n (SD es s0 (λj=>j < ops.size)) a' w'->Q .normal a' w')->Q .normal a w:=by
  intro listed a w n hs X8 hr h hQ;have Qy:∀j,j < ops.size->listed.getD j false=true:=by
   intro j
   induction j using Nat.strongRecOn with
   | _ j ih=>
    intro hj;have hjo:ops[j]?=some (ops[j]'hj):=Vaf hj;cases hl:listed.getD j false with
    | true=>rfl
    | false=>
     exfalso;have:j∈Region.ready .any ops listed:=mem_ready.2 ⟨by rw[<-same listed j hs hj];exact hl,_,hjo,λe he hb=>ih e.on ((hF j _ hjo).edge e he hb) (by have:=(hF j _ hjo).edge e he hb;omega)⟩;rw[hr] at this;cases this
  have:SD es s0 (λj=>listed.getD j false=true)=SD es s0 (λj=>j < ops.size):=Ybz λj=>⟨λhj=>by
   rcases Vb5 j ops.size with h|h
   .exact h
   .simp[show ¬j < listed.size by omega] at hj,λhj=>Qy j hj⟩
  rw[this] at h;exact hQ _ _ (.refl h)
 intro fuel
 induction fuel with
 | zero=>
  intro listed a w n hs hf X8 h hn hd hQ;have hr:Region.ready .any ops listed=[]:=by
   have Zsz:=Vas (Nat.le_zero.1 hf);unfold Region.ready;rw[Veb];intro i hi hh;simp only[ZZg] at hh;have hm:i∈(List.range ops.size).filter λj=>!listed.getD j true:=Vb3.2 ⟨hi,hh.1⟩;rw[Zsz] at hm;cases hm
  exact⟨hr,done listed hs X8 hr h hQ⟩
 | succ fuel ih=>
  intro listed a w n hs hf X8 h hn hd hQ;refine⟨λhr=>done listed hs X8 hr h hQ,λi hi=>?_⟩;obtain⟨Jc,o,ho,Z8s⟩:=mem_ready.1 hi;have hin:i < ops.size:=(Vam.1 ho).1;have hLi:listed.getD i false=false:=by rw[same listed i hs hin];exact Jc
  have hFi:=hF i o ho;have Z17:∀j,(listed.setIfInBounds i true).getD j false=(listed.getD j false||j == i):=λj=>by
   by_cases e:i=j
   .subst e;simp[show i < listed.size by omega]
   .have hji:(j == i)=false:=by simpa using (λh=>e h.symm)
    rw[getD_set_ne false e,hji,Vdv]
  have hd':∀d,o.dst=some d->d < a.tmps.size:=Znz hd (by simpa using ho);have Z5i:∀j∈Pre i,listed.getD j false=true:=Yrg hF (L:=λj=>listed.getD j false=true) X8 i o ho Z8s;have hop:LOp P M (SD es s0 (λj=>listed.getD j false=true)) o (es i).v (es i).p:=by
   have h1:=hFi.op;rw[Yxq hA] at h1;exact h1.mono1 (SD_le hA λj hj=>Z5i j (by simpa using hj.2)) hFi.nu
  have hfr:Ks o=true->∀d,o.dst=some d->d ∉ n.U:=λhm d hdd hdU=>by
   rcases hn d hdU with h1|⟨j,oj,h1,h2,h3⟩
   .exact hU i o d ho hm hdd h1
   .have:i=j:=hA.uE i j d (by simp[fE,hFi.dst,hdd]) (by simp[fE,(hF j oj h2).dst,h3])
    subst this;rw[hLi] at h1;cases h1
  have Zsy:=Yxl hA (D:=λj=>listed.getD j false=true) (D':=λj=>(listed.setIfInBounds i true).getD j false=true) (i:=i) (λj=>by rw[Z17];simp);have hW:=hop.ok hP h hfr;unfold wpOp;rw[ho];simp only;have Yf1:Region.wanted o (yielded ops a.tmps)=true:=by
   unfold Region.wanted;rw[hFi.guard]
  rw[Yf1];simp only[if_true];refine .inl (hW _ _ λval w' ⟨n',q1,q2,q3,q4⟩=>?_);have hused:∀d∈n'.U,d∈s0.used:=λd hdU=>by
   rcases q2 d hdU with h1|⟨h1,h2⟩
   .exact h.used d h1
   .exact hFi.mkr h2 d h1
  have hR:=(q4 s0.used hused).put (a:={a with}) hd' q3;have hst:(((SD es s0 (λj=>listed.getD j false=true)).add (es i).p s0.used).put o.dst (es i).v)=SD es s0 (λj=>(listed.setIfInBounds i true).getD j false=true):=by
   rw[Zsy,<-hFi.dst];rfl
  rw[hst] at hR;refine ih (listed.setIfInBounds i true) (by simpa using hs) (by have:=Yat hin Jc;omega) (λm o' hm hmo e he hb=>?_) hR (λd hdU=>?_) (by rw[Zpw];exact hd) (λa2 w2 hA2=>hQ _ _ (.trans q1 (Zpw _ _ _) (Znf _ _ _) hA2))
  .rw[Z17] at hm ⊢
   simp only[Vb2,beq_iff_eq] at hm ⊢;rcases hm with hm|rfl
   .exact .inl (X8 m o' hm hmo e he hb)
   .rw[ho] at hmo;injection hmo with hmo;subst hmo
    exact .inl (Z8s e he hb)
  .rcases q2 d hdU with h1|⟨h1,h2⟩
   .rcases hn d h1 with h3|⟨j,oj,h3,h4,h5⟩
    .exact .inl h3
    .exact .inr ⟨j,oj,by rw[Z17,h3];rfl,h4,h5⟩
   .exact .inr ⟨i,o,by rw[Z17];simp,ho,h1⟩
end
end Go.Proofs.YtagdmghmblplbaaGreat.Ev
namespace Go.Proofs.YtagdmghmblplbaaGreat.Ev
open Go Go.RowKit
open KM
variable [Anchor]
inductive PT where
 | no
 | alloc (d n:Nat)
 | box (d:Nat) (cs:List LV)
 | store (b:Nat) (cs:List LV)
 | obs (d:Nat) (l:List LO)
def PT.pt:PT->LPt
 | .no=>.no
 | .alloc d n=>⟨at1 d n,no1,no1⟩
 | .box d cs=>⟨at1 d cs.length,at1 d cs,no1⟩
 | .store b cs=>⟨no1,at1 b cs,no1⟩
 | .obs d l=>⟨no1,no1,Zkz d l⟩
def plK (P:Program) (f:Operand->V) (o:Oper):KM V:=
 match o.op with
 | .binOp op t x y _=>match f x,f y with
  | .lit (.int k1 a),.lit (.int k2 b)=>Ykk op k1 k2 a b
  | .lit (.string a),.lit (.string b)=>Ykh op a b
  | .lit (.bool a),.lit (.bool b)=>match op,P.underlying t with
   | .eql,some .bool=>ret (.lit (.bool (a == b)))
   | .neq,some .bool=>ret (.lit (.bool (a != b)))
   | _,_=>fail
  | _,_=>fail
 | _=>opt (Xd P f o)
def lopK (P:Program) (M:Yp) (s:LS) (o:Oper):KM (LV×PT):=
 match o.op with
 | .move x=>match opL s x with
  | .und=>fail
  | v=>ret (v,.no)
 | .assign x=>match opL s x with
  | .und=>fail
  | v=>ret (v,.no)
 | .pick c x y=>match opL s c with
  | .lit (.bool t)=>bnd (Z4d t) λe=>if e then ret (opL s x,.no) else ret (opL s y,.no)
  | _=>fail
 | .extract t i=>match opL s t with
  | .tup vs=>bnd (opt vs[i]?) λv=>ret (v,.no)
  | _=>fail
 | .alloc t=>match o.dst with
  | some d=>bnd (opt (Zc8 P t)) λz=>ret (.bp d 0,.alloc d z.length)
  | none=>fail
 | .box t x=>match o.dst with
  | some d=>bnd (opt (Zzl (opL s x))) λcs=>ret (.bp d 0,.box d cs)
  | none=>fail
 | .fieldAddr t x f=>bnd (opt (Zu7 P t f)) λoff=>match opL s x with
  | .bp b m=>ret (.bp b (m+off),.no)
  | .op i j m sz=>ret (.op i j (m+off) sz,.no)
  | _=>fail
 | .indexAddr t x ix=>bnd (opt (Wd P t)) λe=>if Zx P e=0 then fail else bnd hear λq=>match q with
  | .row m r=>if r.length=Zx P e then bnd (obl (Xq (toV (opL s ix))=some m)) λ_=>match opL s x with
   | .ob i=>match s.ob i with
    | some b=>if b.own=true then bnd (obl (b.rows[m]?=some r)) λ_=>ret (.op i m 0 (Zx P e),.no) else fail
    | none=>fail
   | _=>fail
   else fail
  | _=>fail
 | .load t x=>match opL s x with
  | .bp b m=>match s.bk b with
   | some _=>match s.bx b with
    | []=>fail
    | y::ys=>if m+Zx P t<=(y::ys).length then bnd (opt (Yci P t (((y::ys).drop m).take (Zx P t)))) λv=>ret (v,.no) else fail
   | none=>fail
  | .op i j m sz=>match s.ob i with
   | some b=>bnd hear λq=>match q with
    | .cell row=>if b.own=true/\row.length=sz/\Zx P t=1/\Zeo P t=false/\(P.underlying t).isSome=true then bnd (obl (b.rows[j]?=some row)) λ_=>match row[m]? with
     | some (.lit v)=>ret (.lit v,.no)
     | some (.tr _)=>ret (.nc i j m sz,.no)
     | _=>fail
     else fail
    | _=>fail
   | none=>fail
  | _=>fail
 | .store t x y=>match opL s x with
  | .bp b 0=>match s.bk b with
   | some n=>bnd (opt (Zzl (opL s y))) λcs=>if cs.length=n/\cs.length=Zx P t/\Zx P t≠0 then ret (.und,.store b cs) else fail
   | none=>fail
  | _=>fail
 | .call c=>match c.callee with
  | .builtin .len=>match c.args.toList,c.argTypes.toList with
   | [x],[t]=>match opL s x with
    | .ob i=>match s.ob i with
     | some b=>if (Wd P t).isSome=true then ret (.lit (.int .i64 b.rows.length),.no) else fail
     | none=>fail
    | _=>fail
   | _,_=>fail
  | .value f=>match opL s f with
   | .fn g=>match o.dst with
    | some d=>if Zus (M.modes g)=true then bnd (opt (rdAs s (c.args.toList.map (opL s)))) λxs=>bnd hear λq=>match q with
     | .res r os=>bnd (obl (Zt P M (g,xs,r,os))) λ_=>bnd (opt (tkR P d r)) λy=>if y.2.length<=1000 then ret (y.1,.obs d y.2) else fail
     | _=>fail
     else fail
    | none=>fail
   | _=>fail
  | _=>fail
 | _=>bnd (plK P (λx=>toV (opL s x)) o) λv=>match v with
  | .lit v=>ret (.lit v,.no)
  | _=>fail
def lmK (P:Program) (M:Yp) (s:LS) (o:Oper):KM (LV×LS):=
 match o.op with
 | .store t x y=>match opL s x with
  | .op i j m sz=>match s.ob i with
   | some b=>match opL s y with
    | .lit u=>bnd hear λq=>match q with
     | .put row R=>if b.own=true/\row.length=sz/\Zx P t=1 then bnd (obl (b.rows[j]?=some row)) λ_=>match row[m]? with
      | some (.lit _)=>bnd (obl (b.rows.set j (row.set m (.lit u))=R)) λ_=>ret (.und,⟨λt=>Zsr (s.env t),upd s.ob i (some ⟨true,b.sz,b.el,R⟩),s.bk,s.bx,s.used⟩)
      | _=>fail
      else fail
     | _=>fail
    | _=>fail
   | none=>fail
  | _=>fail
 | .call c=>match c.callee with
  | .value f=>match opL s f,c.args.toList with
   | .fn g,[x,y]=>match opL s y with
    | .lit (.int .i64 k)=>match opL s x with
     | .nc i j m sz=>match s.ob i with
      | some b=>bnd hear λq=>match q with
       | .put row R=>if b.own=true/\row.length=sz then bnd (obl (b.rows[j]?=some row)) λ_=>match row[m]? with
        | some (.tr r)=>bnd hear λq=>match q with
         | .res (.lit (.int .i64 k')) [.tr r']=>bnd (obl (Zix P g false [.tr r] [.tr r'] k k')) λ_=>bnd (obl (b.rows.set j (row.set m (.tr r'))=R)) λ_=>
           ret (.lit (.int .i64 k'),⟨λt=>Zsr (s.env t),upd s.ob i (some ⟨true,b.sz,b.el,R⟩),s.bk,s.bx,s.used⟩)
         | _=>fail
        | _=>fail
        else fail
       | _=>fail
      | none=>fail
     | _=>bnd (opt (Zy6 (opL s x))) λac=>bnd (opt (mkX s ac.2)) λxs=>if (Zby ac.2).Nodup then bnd hear λq=>match q with
      | .res (.lit (.int .i64 k')) xs'=>if Z2p xs xs'=true then bnd (obl (Zix P g ac.1 xs xs' k k')) λ_=>ret (.lit (.int .i64 k'),⟨λt=>Zsr (s.env t),Zox s.ob ac.2 xs',s.bk,s.bx,s.used⟩) else fail
      | _=>fail
      else fail
    | _=>fail
   | _,_=>fail
  | _=>fail
 | _=>fail
def isWr (M:Yp) (s:LS) (o:Oper):Bool:=
 match o.op with
 | .store _ x _=>match opL s x with|.op ..=>true|_=>false
 | .call c=>match c.callee with
  | .value f=>match opL s f with|.fn g=>!Zus (M.modes g)|_=>false
  | _=>false
 | _=>false
def Ymh (o:Oper) (used:List Nat):Bool:=!Ks o||(match o.dst with|some d=>!used.contains d|none=>true)
def Z8x (P:Program) (M:Yp) (ops:Array Oper):List Oper->LS->KM LS
 | [],s=>ret s
 | o::l,s=>bnd (opt (Zxm s ops o)) λg0=>bnd (if o.guard.isSome then Z4d g0 else ret g0) λg=>
  if g then
   if isWr M s o then bnd (lmK P M s o) λy=>Z8x P M ops l (y.2.put o.dst y.1)
   else if Ymh o s.used then bnd (lopK P M s o) λy=>Z8x P M ops l ((s.add y.2.pt (Yns o s.used)).put o.dst y.1) else fail
  else Z8x P M ops l (s.put o.dst (.tup []))
section
variable {P:Program} {M:Yp} {s s':LS} {o:Oper} {ops:Array Oper} {f:Operand->V}
theorem plK_ok:KS (plK P f o) (Xd P f o):=by
 obtain⟨d,op,ty,p,af,g⟩:=o;unfold plK;split
 .rename_i b t x y yt hb
  simp only at hb;subst hb;rw[Ykx];split
  .rename_i h1 h2;rw[h1,h2,Ylf];exact Ymi
  .rename_i h1 h2;rw[h1,h2,Ym3];exact Ymu
  .rename_i h1 h2
   rw[h1,h2];split
   .rename_i ht;rw[Ylq ht];exact W6
   .rename_i ht;rw[Ylj ht];exact W6
   .exact Zo
  .exact Zo
 .exact Zqz
theorem Ysc:KP (lopK P M s o) (λy=>LOp P M s o y.1 y.2.pt):=by
 unfold lopK;split
 .rename_i x ho
  split
  .exact Zo
  .exact Z0 (.look (.move (.inl ho) rfl))
 .rename_i x ho
  split
  .exact Zo
  .exact Z0 (.look (.move (.inr ho) rfl))
 .rename_i c x y ho
  split
  .rename_i t hc
   refine Zp Zyj (λe he=>?_);subst he;refine Y1 (λh=>Z0 (.look (.pick ho hc (ZZj h)))) (λh=>Z0 (.look (.pick ho hc (ZZi h))))
  .exact Zo
 .rename_i t i ho
  split
  .rename_i vs ht
   exact Zp Qf (λv hv=>Z0 (.look (.extract ho ht hv)))
  .exact Zo
 .rename_i t ho
  split
  .rename_i d hd
   exact Zp Qf (λz hz=>Z0 (.alloc ho hz hd))
  .exact Zo
 .rename_i t x ho
  split
  .rename_i d hd
   exact Zp Qf (λcs hc=>Z0 (.box ho hc hd))
  .exact Zo
 .rename_i t x fl ho
  refine Zp Qf (λoff Z8f=>?_);split
  .rename_i b m hx;exact Z0 (.look (.fieldB ho Z8f hx))
  .rename_i i j m sz hx;exact Z0 (.look (.fieldO ho Z8f hx))
  .exact Zo
 .rename_i t x ix ho
  refine Zp Qf (λe he=>Y1 (λ_=>Zo) (λhz=>Zp Wb (λq _=>?_)));split
  .rename_i m r
   refine Y1 (λhr=>Zp Yd (λ_ hn=>?_)) (λ_=>Zo);split
   .rename_i i hx
    split
    .rename_i b hb
     exact Y1 (λYc=>Zp Yd (λ_ Yx=>Z0 (.look (.index ho he hz hn hx hb Yx hr Yc)))) (λ_=>Zo)
    .exact Zo
   .exact Zo
  .exact Zo
 .rename_i t x ho
  split
  .rename_i b m hx
   split
   .rename_i n hk
    split
    .exact Zo
    .rename_i y ys hbx
     refine Y1 (λhl=>Zp Qf (λv hv=>Z0 (.look (.loadB ho hx hk (by rw[hbx];exact hl) (by rw[hbx];simp) (by rw[hbx];exact hv))))) (λ_=>Zo)
   .exact Zo
  .rename_i i j m sz hx
   split
   .rename_i b hb
    refine Zp Wb (λq _=>?_);split
    .rename_i row
     refine Y1 (λhc=>Zp Yd (λ_ hj=>?_)) (λ_=>Zo);obtain⟨h1,h2,h3,h4,h5⟩:=hc;split
     .rename_i v hm;exact Z0 (.look (.loadL ho hx hb h1 h2 h3 h4 h5 hj hm))
     .rename_i r hm;exact Z0 (.look (.loadN ho hx hb h1 h2 h3 h4 h5 hj hm))
     .exact Zo
    .exact Zo
   .exact Zo
  .exact Zo
 .rename_i t x y ho
  split
  .rename_i b hx
   split
   .rename_i n hk
    refine Zp Qf (λcs hc=>Y1 (λhh=>?_) (λ_=>Zo));obtain⟨h1,h2,h3⟩:=hh;exact Z0 (.store ho hx (by rw[hk,h1]) hc h2 h3)
   .exact Zo
  .exact Zo
 .rename_i c ho
  obtain⟨callee,ars,ts⟩:=c;simp only;split
  .split
   .rename_i x t ha ht
    have:=Zn3 ha;subst this;have:=Zn3 ht;subst this;split
    .rename_i i hx
     split
     .rename_i b hb
      exact Y1 (λht=>Z0 (.look (.len ho ht hx hb))) (λ_=>Zo)
     .exact Zo
    .exact Zo
   .exact Zo
  .rename_i f
   split
   .rename_i g hf
    split
    .rename_i d hd
     refine Y1 (λhm=>Zp Qf (λxs hxs=>Zp Wb (λq _=>?_))) (λ_=>Zo);split
     .refine Zp Yd (λ_ hg=>Zp Qf (λy hy=>Y1 (λhl=>?_) (λ_=>Zo)))
      exact Z0 (.call ho hf hxs hm hg hy hl hd)
     .exact Zo
    .exact Zo
   .exact Zo
  .exact Zo
 .refine Zp plK_ok (λv hv=>?_)
  split
  .exact Z0 (.look (.plain hv))
  .exact Zo
theorem lmK_ok:KP (lmK P M s o) (λy=>Ycq P s o y.1 y.2):=by
 unfold lmK;split
 .rename_i t x y ho
  split
  .rename_i i j m sz hx
   split
   .rename_i b hb
    split
    .rename_i u hy
     refine Zp Wb (λq _=>?_);split
     .rename_i row R
      refine Y1 (λhc=>Zp Yd (λ_ hj=>?_)) (λ_=>Zo);obtain⟨h1,h2,h3⟩:=hc;subst h2;split
      .rename_i u0 hm
       exact Zp Yd (λ_ hR=>Z0 (.store ho hx hb h1 hj hm hy h3 hR))
      .exact Zo
     .exact Zo
    .exact Zo
   .exact Zo
  .exact Zo
 .rename_i c ho
  obtain⟨callee,ars,ts⟩:=c;simp only;split
  .rename_i f
   split
   .rename_i g x y hf ha
    have:=Z4c ha;subst this;split
    .rename_i k hy
     split
     .rename_i i j m sz hx
      split
      .rename_i b hb
       refine Zp Wb (λq _=>?_);split
       .rename_i row R
        refine Y1 (λhc=>Zp Yd (λ_ hj=>?_)) (λ_=>Zo);obtain⟨h1,h2⟩:=hc;subst h2;split
        .rename_i r hm
         refine Zp Wb (λq _=>?_);split
         .exact Zp Yd (λ_ hM=>Zp Yd (λ_ hR=>Z0 (.markN ho hf hx hb h1 hj hm hy hM hR)))
         .exact Zo
        .exact Zo
       .exact Zo
      .exact Zo
     .refine Zp Qf (λac hac=>Zp Qf (λxs hxs=>Y1 (λhn=>Zp Wb (λq _=>?_)) (λ_=>Zo)))
      split
      .exact Y1 (λhs=>Zp Yd (λ_ hM=>Z0 (.mark ho hf hac hxs hn hs hy hM))) (λ_=>Zo)
      .exact Zo
    .exact Zo
   .exact Zo
  .exact Zo
 .exact Zo
theorem Yx7 {used:List Nat} (h:Ymh o used=true):Ks o=true->∀d,o.dst=some d->d ∉ used:=λhm d hd=>by
 unfold Ymh at h;rw[hm,hd] at h;simpa using h
theorem Yzo:∀{l:List Oper} {s:LS},KP (Z8x P M ops l s) (λs'=>Z67 P M ops s l s'):=by
 intro l
 induction l with
 | nil=>intro s;exact Z0 .nil
 | cons o l ih=>
  intro s;simp only[Z8x];refine Zp Qf (λg0 hg=>Zp (Q:=λg=>g0=g) (Y1 (λ_=>Zyj) (λ_=>Z0 rfl)) (λg hgg=>?_));subst hgg;refine Y1 (λhgt=>?_) (λhgf=>?_)
  .rw[hgt] at hg
   refine Y1 (λ_=>Zp lmK_ok (λy hy=>ih.mono λs' hs'=>.yes hg (.wr hy) hs')) (λ_=>Y1 (λhf=>Zp Ysc (λy hy=>ih.mono λs' hs'=>.yes hg (.add hy (Yx7 hf)) hs')) (λ_=>Zo))
  .have:g0=false:=by simpa using hgf
   rw[this] at hg;exact ih.mono λs' hs'=>.no hg hs'
end
abbrev DRs:=List (List Nat×DR×List Nat)
def Zde (rs:DRs) (j:Nat):DR:=((rs[j]?).map (·.2.1)).getD ⟨none,.und,.no⟩
def Z7w (rs:DRs) (j:Nat):List Nat:=((rs[j]?).map (·.1)).getD []
def Z1t (rs:DRs) (o:Oper):List Nat:=((o.after.toList.filter (Region.binds .any ·)).flatMap λe=>e.on::Z7w rs e.on).eraseDups
def Yef:PT->List Nat
 | .box d _=>[d]
 | .store b _=>[b]
 | _=>[]
def Yup (v:LV) (o:Oper):Bool:=
 match v with
 | .und=>match o.op with|.store ..=>true|_=>false
 | _=>true
def ldrK (P:Program) (M:Yp) (s0:LS):List Oper->Nat->DRs->KM DRs
 | [],_,rs=>ret rs
 | o::l,k,rs=>if o.guard.isNone=true/\(o.after.toList.all λe=>!Region.binds .any e||decide (e.on < k))=true then
   bnd (lopK P M (bld (Zde rs) (λj=>(Z1t rs o).contains j) s0 k) o) λy=>if Yup y.1 o=true then ldrK P M s0 l (k+1) (rs++[(Z1t rs o,⟨o.dst,y.1,y.2.pt⟩,Yef y.2)]) else fail
  else fail
def dsOf (ops:Array Oper):List Nat:=ops.toList.filterMap (·.dst)
def Z80 (ops:Array Oper):List Nat:=ops.toList.filterMap λo=>if Ks o then o.dst else none
def Ztx (ops:Array Oper) (s:LS):LS:=⟨λt=>if (dsOf ops).contains t then .und else s.env t,s.ob,s.bk,s.bx,Z80 ops++s.used⟩
def Yud (P:Program) (M:Yp) (ops:Array Oper) (s:LS):KM LS:=
 if (dsOf ops).Nodup/\((Z80 ops).all λd=>!s.used.contains d)=true then
  bnd (ldrK P M (Ztx ops s) ops.toList 0 []) λrs=>if (rs.flatMap (·.2.2)).Nodup/\((rs.flatMap (·.2.2)).all λd=>(Z80 ops).contains d)=true then ret (bld (Zde rs) (λ_=>true) (Ztx ops s) rs.length) else fail
 else fail
section
variable {P:Program} {M:Yp} {w0:World} {io:Nat->Prop} {w w':World} {a a':Act} {tmps:Array Value} {s s' s0 S:LS} {n n':Nm} {o:Oper} {v:LV} {p:LPt} {ops:Array Oper} {rs:DRs} {R:Ex->LS->Prop}
structure RFact (P:Program) (M:Yp) (s0:LS) (rs:DRs) (i:Nat) (o:Oper):Prop where
 guard:o.guard=none
 edge:∀e∈o.after,Region.binds .any e=true->e.on < i
 ex:∃y:LV×PT,rs[i]?=some (Z1t (rs.take i) o,⟨o.dst,y.1,y.2.pt⟩,Yef y.2)/\LOp P M (bld (Zde (rs.take i)) (λj=>(Z1t (rs.take i) o).contains j) s0 i) o y.1 y.2.pt/\Yup y.1 o=true
theorem Y1u:∀{l:List Oper} {k:Nat} {rs:DRs},rs.length=k->KP (ldrK P M s0 l k rs) (λrs'=>rs'.length=k+l.length/\rs'.take k=rs/\∀(i:Nat) (o:Oper),l[i]?=some o->RFact P M s0 rs' (k+i) o):=by
 intro l
 induction l with
 | nil=>intro k rs hl;exact Z0 ⟨by simpa using hl,by rw[<-hl];simp,λi o hi=>by simp at hi⟩
 | cons o l ih=>
  intro k rs hl;simp only[ldrK];refine Y1 (λhc=>Zp Ysc (λy hy=>Y1 (λhu=>?_) (λ_=>Zo))) (λ_=>Zo);refine (ih (k:=k+1) (rs:=rs++[(Z1t rs o,⟨o.dst,y.1,y.2.pt⟩,Yef y.2)]) (by simp[hl])).mono λrs' ⟨h1,h2,h3⟩=>?_;have ht:rs'.take k=rs:=by
   have:=congrArg (List.take k) h2;rw[List.take_take,Nat.min_eq_left (by omega)] at this;rw[this,<-hl];simp
  refine⟨by simp[h1];omega,ht,λi o' hi=>?_⟩;cases i with
  | zero=>
   have e:o=o':=by simpa using hi
   subst e;refine⟨by simpa using hc.1,λe he hb=>?_,y,?_,?_,hu⟩
   .have:=ZZk.1 hc.2 e (by simpa using he)
    rw[hb] at this;simpa using this
   .rw[Va3,ht]
    have:(rs'.take (k+1))[k]?=some (Z1t rs o,⟨o.dst,y.1,y.2.pt⟩,Yef y.2):=by
     rw[h2,Vah (by omega),hl,Vej];rfl
    rw[Vai,ZZj (by omega)] at this;exact this
   .rw[Va3,ht];exact hy
  | succ i=>
   have:=h3 i o' (by simpa using hi)
   rwa [show k+1+i=k+(i+1) by omega] at this
theorem Yx9 {es es':Nat->DR} {L:Nat->Bool}:∀{k:Nat},(∀j,j < k->es j=es' j)->bld es L s0 k=bld es' L s0 k:=by
 intro k
 induction k with
 | zero=>intro _;rfl
 | succ k ih=>intro h;simp only[bld];rw[h k (by omega),ih λj hj=>h j (by omega)]
theorem Ygc {α:Type} {f:α->Option Nat}:∀{l:List α},(l.filterMap f).Nodup->∀(i j:Nat) (a b:α) (x:Nat),l[i]?=some a->l[j]?=some b->f a=some x->f b=some x->i=j:=by
 intro l
 induction l with
 | nil=>intro _ i j a b x h1;simp at h1
 | cons c l ih=>
  intro hn i j a b x h1 h2 h3 h4;have mem:∀(k:Nat) (y:α),l[k]?=some y->f y=some x->x∈l.filterMap f:=λk y hk hy=>Vco.2 ⟨y,Vag hk,hy⟩;cases hc:f c with
  | none=>
   rw[List.filterMap_cons_none hc] at hn;cases i with
   | zero=>
        have e:c=a:=by simpa using h1
        subst e;rw[hc] at h3;cases h3
   | succ i=>
    cases j with
    | zero=>
         have e:c=b:=by simpa using h2
         subst e;rw[hc] at h4;cases h4
    | succ j=>rw[ih hn i j a b x (by simpa using h1) (by simpa using h2) h3 h4]
  | some z=>
   rw[List.filterMap_cons_some hc] at hn;obtain⟨n1,n2⟩:=Vay.1 hn;cases i with
   | zero=>
    have e:c=a:=by simpa using h1
    subst e;rw[hc] at h3;injection h3 with h3;subst h3;cases j with
    | zero=>rfl
    | succ j=>exact absurd (mem j b (by simpa using h2) h4) n1
   | succ i=>
    cases j with
    | zero=>
     have e:c=b:=by simpa using h2
     subst e;rw[hc] at h4;injection h4 with h4;subst h4;exact absurd (mem i a (by simpa using h1) h3) n1
    | succ j=>rw[ih n2 i j a b x (by simpa using h1) (by simpa using h2) h3 h4]
theorem Ylp {α:Type} {f:α->List Nat}:∀{l:List α},(l.flatMap f).Nodup->∀(i j:Nat) (a b:α) (x:Nat),l[i]?=some a->l[j]?=some b->x∈f a->x∈f b->i=j:=by
 intro l
 induction l with
 | nil=>intro _ i j a b x h1;simp at h1
 | cons c l ih=>
  intro hn i j a b x h1 h2 h3 h4;simp only[Vci] at hn;obtain⟨n1,n2,n3⟩:=Vap.1 hn;have mem:∀(k:Nat) (y:α),l[k]?=some y->x∈f y->x∈l.flatMap f:=λk y hk hy=>Vcy.2 ⟨y,Vag hk,hy⟩;cases i with
  | zero=>
   have e:c=a:=by simpa using h1
   subst e;cases j with
   | zero=>rfl
   | succ j=>exact absurd rfl (n3 x h3 x (mem j b (by simpa using h2) h4))
  | succ i=>
   cases j with
   | zero=>
    have e:c=b:=by simpa using h2
    subst e;exact absurd rfl (n3 x h4 x (mem i a (by simpa using h1) h3))
   | succ j=>rw[ih n2 i j a b x (by simpa using h1) (by simpa using h2) h3 h4]
theorem LOp.obD (h:LOp P M s o v p) {k:Nat} (hk:(p.ob k).isSome=true):o.dst=some (k / 1000)/\Ks o=true:=by
 cases h with
 | call ho _ _ _ _ _ _ hd=>
  obtain⟨b,hb⟩:=Val.1 hk;rw[(Z4s hb).1];exact⟨hd,by simp[Ks,ho]⟩
 | _=>cases hk
theorem LOp.bkD (h:LOp P M s o v p) {b:Nat} (hk:(p.bk b).isSome=true):o.dst=some b/\Ks o=true:=by
 have at1s:∀{α:Type} {d:Nat} {x:α},(at1 d x b).isSome=true->b=d:=λ{α d x} h=>by
  unfold at1 at h;split at h
  .assumption
  .cases h
 cases h with
 | alloc ho _ hd=>rw[at1s hk];exact⟨hd,by simp[Ks,ho]⟩
 | box ho _ hd=>rw[at1s hk];exact⟨hd,by simp[Ks,ho]⟩
 | _=>cases hk
theorem bxD {t:PT} {b:Nat} (hk:(t.pt.bx b).isSome=true):b∈Yef t:=by
 have at1s:∀{α:Type} {d:Nat} {x:α},(at1 d x b).isSome=true->b=d:=λ{α d x} h=>by
  unfold at1 at h;split at h
  .assumption
  .cases h
 cases t with
 | box d cs=>rw[at1s hk];exact List.mem_singleton.2 rfl
 | store d cs=>rw[at1s hk];exact List.mem_singleton.2 rfl
 | _=>cases hk
theorem Y0r (hP:Yk P) {i:Nat}:KP (Yud P M ops S) (λS'=>∀R:Ex->LS->Prop,R .normal S'->Lx P (.region i ops true) S R):=by
 unfold Yud;refine Y1 (λhc=>Zp (Y1u (k:=0) (rs:=[]) rfl) (λrs hrs=>Y1 (λhk=>Z0 ?_) (λ_=>Zo))) (λ_=>Zo);obtain⟨Yl,_,hF⟩:=hrs;have Yl:rs.length=ops.size:=by simpa using Yl
 obtain⟨hds,hmk⟩:=hc;obtain⟨hkx,hkm⟩:=hk;intro R hR w0 io w a n Q Zv5 hd hQ;refine wp_region_any hP.mixed ?_;have hRel1:=Zv5.grow (w':={w with drawn:=w.drawn+1}) ⟨rfl,rfl,rfl,Vaw _,λ_ _ _=>rfl⟩;have hRel2:Xn P w0 io {w with drawn:=w.drawn+1} a.tmps (Ztx ops S) n:=hRel1.less (λt=>by split;exact .inl rfl;exact .inr rfl) (λd hd=>Vak _ hd);have hF':∀(j:Nat) (o:Oper),ops[j]?=some o->RFact P M (Ztx ops S) rs j o:=λj o ho=>by
  have:=hF j o (by simpa using ho)
  rwa [Vbk] at this
 have hes:∀j o,ops[j]?=some o->(Zde rs j).dst=o.dst/\∃s',LOp P M s' o (Zde rs j).v (Zde rs j).p:=λj o ho=>by
  obtain⟨y,h1,h2,_⟩:=(hF' j o ho).ex;have e:Zde rs j=⟨o.dst,y.1,y.2.pt⟩:=by unfold Zde;rw[h1];rfl
  rw[e];exact⟨rfl,_,h2⟩
 have Ywa:∀j,ops[j]?=none->Zde rs j=⟨none,.und,.no⟩:=λj hj=>by
  have:rs[j]?=none:=by
   rw[Vc2,Yl];exact Array.getElem?_eq_none_iff.1 hj
  unfold Zde;rw[this];rfl
 have hE:∀j t,(fE (Zde rs) j t).isSome=true->∃o,ops[j]?=some o/\o.dst=some t:=λj t h=>by
  cases ho:ops[j]? with
  | none=>rw[fE,Ywa j ho] at h;simp at h
  | some o=>
   refine⟨o,rfl,?_⟩;unfold fE at h;split at h
   .rename_i hh;rw[<-(hes j o ho).1];exact hh
   .cases h
 have hO:∀j k,(fO (Zde rs) j k).isSome=true->∃o,ops[j]?=some o/\o.dst=some (k / 1000)/\Ks o=true:=λj k h=>by
  cases ho:ops[j]? with
  | none=>rw[fO,Ywa j ho] at h;simp[LPt.no,no1] at h
  | some o=>
   obtain⟨_,s',h2⟩:=hes j o ho;obtain⟨q1,q2⟩:=h2.obD (k:=k) (by simpa [fO] using h);exact⟨o,rfl,q1,q2⟩
 have hK:∀j b,(fK (Zde rs) j b).isSome=true->∃o,ops[j]?=some o/\o.dst=some b/\Ks o=true:=λj b h=>by
  cases ho:ops[j]? with
  | none=>rw[fK,Ywa j ho] at h;simp[LPt.no,no1] at h
  | some o=>
   obtain⟨_,s',h2⟩:=hes j o ho;obtain⟨q1,q2⟩:=h2.bkD (b:=b) (by simpa [fK] using h);exact⟨o,rfl,q1,q2⟩
 have hX:∀j b,(fX (Zde rs) j b).isSome=true->∃x,rs[j]?=some x/\b∈x.2.2:=λj b h=>by
  cases ho:ops[j]? with
  | none=>rw[fX,Ywa j ho] at h;cases h
  | some o=>
   obtain⟨y,h1,h2,_⟩:=(hF' j o ho).ex;have e:Zde rs j=⟨o.dst,y.1,y.2.pt⟩:=by unfold Zde;rw[h1];rfl
   rw[fX,e] at h;exact⟨_,h1,bxD h⟩
 have Y03:∀(j j':Nat) (o o':Oper) (t:Nat),ops[j]?=some o->ops[j']?=some o'->o.dst=some t->o'.dst=some t->j=j':=λj j' o o' t h1 h2 h3 h4=>Ygc (f:=λo:Oper=>o.dst) hds j j' o o' t (by simpa using h1) (by simpa using h2) h3 h4;have Ztn:∀(j:Nat) (o:Oper) (d:Nat),ops[j]?=some o->o.dst=some d->Ks o=true->d∈Z80 ops:=λj o d h1 h2 h3=>Vco.2 ⟨o,Vag (i:=j) (by simpa using h1),by rw[ZZj h3];exact h2⟩;have Yf9:∀d∈Z80 ops,d ∉ n.U:=λd hd hU=>by
  have:=ZZk.1 hmk d hd;have h2:=Zv5.used d hU;simp at this;exact this h2
 have hA:Apt (Zde rs) (Ztx ops S):=by
  refine⟨λi j x h1 h2=>?_,λi j x h1 h2=>?_,λi j x h1 h2=>?_,λi j x h1 h2=>?_,λj x h=>?_,λj x h=>?_,λj x h=>?_,λj x h=>?_⟩
  .obtain⟨o,a1,a2⟩:=hE i x h1
   obtain⟨o',b1,b2⟩:=hE j x h2;exact Y03 i j o o' x a1 b1 a2 b2
  .obtain⟨o,a1,a2,_⟩:=hO i x h1
   obtain⟨o',b1,b2,_⟩:=hO j x h2;exact Y03 i j o o' _ a1 b1 a2 b2
  .obtain⟨o,a1,a2,_⟩:=hK i x h1
   obtain⟨o',b1,b2,_⟩:=hK j x h2;exact Y03 i j o o' _ a1 b1 a2 b2
  .obtain⟨y,a1,a2⟩:=hX i x h1
   obtain⟨z,b1,b2⟩:=hX j x h2;exact Ylp hkx i j y z x a1 b1 a2 b2
  .obtain⟨o,a1,a2⟩:=hE j x h
   show (if (dsOf ops).contains x then LV.und else S.env x)=.und;rw[ZZj];simp only[Vef];exact Vco.2 ⟨o,Vag (i:=j) (by simpa using a1),a2⟩
  .obtain⟨o,a1,a2,a3⟩:=hO j x h
   show S.ob x=none;cases hb:S.ob x with
   | none=>rfl
   | some b=>exact absurd (Zv5.usedO x b hb) (Yf9 _ (Ztn j o _ a1 a2 a3))
  .obtain⟨o,a1,a2,a3⟩:=hK j x h
   show S.bk x=none;cases hb:S.bk x with
   | none=>rfl
   | some b=>exact absurd (Zv5.usedB x b hb) (Yf9 _ (Ztn j o _ a1 a2 a3))
  .obtain⟨y,a1,a2⟩:=hX j x h
   show S.bx x=[];refine Zv5.noB x ?_;have hx:x∈Z80 ops:=by
    have:=ZZk.1 hkm x (Vcy.2 ⟨y,Vag a1,a2⟩);simpa using this
   cases hb:S.bk x with
   | none=>rfl
   | some b=>exact absurd (Zv5.usedB x b hb) (Yf9 x hx)
 have hDF:∀(j:Nat) (o:Oper),ops[j]?=some o->Yu5 P M (Ztx ops S) (Zde rs) (Z7w rs) j o:=λj o ho=>by
  obtain⟨f1,f2,y,f3,f4,f5⟩:=hF' j o ho;have Z5i:Z7w rs j=Z1t (rs.take j) o:=by unfold Z7w;rw[f3];rfl
  have e:Zde rs j=⟨o.dst,y.1,y.2.pt⟩:=by unfold Zde;rw[f3];rfl
  have htk:∀k,k < j->(rs.take j)[k]?=rs[k]?:=λk hk=>by rw[Vai,ZZj hk]
  refine⟨f1,f2,λk hk=>?_,?_,by rw[e],?_,λhm d hd=>Vae _ (Ztn j o d ho hd hm)⟩
  .rw[Z5i] at hk
   unfold Z1t at hk;rw[List.mem_eraseDups] at hk;obtain⟨ed,he,hk⟩:=Vcy.1 hk;rw[Vb3] at he;have hem:ed∈o.after:=by simpa using he.1
   refine⟨ed,hem,he.2,?_⟩;rcases Vav.1 hk with rfl|hk
   .exact .inl rfl
   .right
    unfold Z7w at hk ⊢;rw[htk _ (f2 ed hem he.2)] at hk;exact hk
  .rw[Z5i,e]
   have:bld (Zde rs) (λk=>(Z1t (rs.take j) o).contains k) (Ztx ops S) j=bld (Zde (rs.take j)) (λk=>(Z1t (rs.take j) o).contains k) (Ztx ops S) j:=Yx9 λk hk=>by
    unfold Zde;rw[htk k hk]
   rw[this];exact f4
  .rw[e]
   unfold Yup at f5;split at f5
   .split at f5
    .rename_i hst;exact .inr ⟨_,_,_,hst⟩
    .cases f5
   .rename_i hv;exact .inl hv
 have Yo1:∀j,(Array.replicate ops.size false).getD j false=false:=λj=>by
  by_cases h:j < ops.size<;>simp[h]
 have Yv7:bld (Zde rs) (λ_=>true) (Ztx ops S) rs.length=SD (Zde rs) (Ztx ops S) (λj=>j < ops.size):=by
  rw[Yxq hA,Yl];exact Ybz λj=>by simp
 rw[Yv7] at hR;refine Yw7 hP (U0:=n.U) hDF hA (λj o d ho hm hdd=>Yf9 d (Ztn j o d ho hdd hm)) ops.size _ (by simp) (by
  have:=Vbu (λj=>!(Array.replicate ops.size false).getD j true) (List.range ops.size);simpa using this) (λm o hm=>by rw[Yo1] at hm;cases hm) ?_ (λd hd=>.inl hd) hd (λa' w' hA=>hQ _ _ _ _ hR hA)
 rw[Ynw (λj hj=>by rw[Yo1] at hj;cases hj)];exact hRel2
def lcK (P:Program) (M:Yp):Nat->Code->LS->KM (Ex×LS)
 | 0,_,_=>fail
 | m+1,c,s=>match c with
  | .skip=>ret (.normal,s)
  | .ret=>ret (.ret,s)
  | .exit i=>ret (.exit i,s)
  | .region _ ops d=>if d then bnd (Yud P M ops s) λs=>ret (.normal,s) else bnd (Z8x P M ops ops.toList s) λs=>ret (.normal,s)
  | .seq x y=>bnd (lcK P M m x s) λr=>match r.1 with
   | .normal=>lcK P M m y r.2
   | e=>ret (e,r.2)
  | .cond c x y=>match opL s c with
   | .lit (.bool t)=>bnd (Z4d t) λe=>if e then lcK P M m x s else lcK P M m y s
   | _=>fail
  | .block i c=>bnd (lcK P M m c s) λr=>if r.1=.exit i then ret (.normal,r.2) else ret r
  | _=>fail
theorem lcK_ok (hP:Yk P):∀{m:Nat} {c:Code} {s:LS},KP (lcK P M m c s) (λr=>∀R:Ex->LS->Prop,R r.1 r.2->Lx P c s R):=by
 intro m
 induction m with
 | zero=>intro c s;exact Zo
 | succ m ih=>
  intro c s;unfold lcK;split
  .exact Z0 λR h=>Y2g h
  .exact Z0 λR h=>Lx_ret h
  .exact Z0 λR h=>Y2r h
  .rename_i d
   cases d with
   | true=>
    simp only[if_true];exact Zp (Y0r hP) (λs' hs'=>Z0 λR h=>hs' R h)
   | false=>
    simp only[ZZf,if_false];exact Zp Yzo (λs' hs'=>Z0 λR h=>Lx_ops hP hs' h)
  .rename_i x y
   refine Zp ih (λr hr=>?_);obtain⟨e,s1⟩:=r;simp only at hr ⊢;cases e with
   | normal=>exact ih.mono λr2 Z8 R h=>Z2m (hr _ (Z8 R h))
   | ret=>exact Z0 λR h=>Z2m (hr _ h)
   | exit i=>exact Z0 λR h=>Z2m (hr _ h)
  .rename_i c x y
   split
   .rename_i t hc
    refine Zp Zyj (λe he=>?_);subst he;refine Y1 (λht=>ih.mono λr hr R h=>Yse hc (by rw[ht];exact hr R h)) (λht=>ih.mono λr hr R h=>Yse hc (by rw[ZZi ht];exact hr R h))
   .exact Zo
  .rename_i i c
   refine Zp ih (λr hr=>?_);obtain⟨e,s1⟩:=r;simp only at hr ⊢;refine Y1 (λhe=>Z0 λR h=>Ycg (hr _ ?_)) (λhe=>Z0 λR h=>Ycg (hr _ ?_))
   .subst he
    show (if i=i then R .normal s1 else R (.exit i) s1);rw[ZZj rfl];exact h
   .cases e with
    | exit j=>
     show (if j=i then R .normal s1 else R (.exit j) s1);rw[ZZi (λe=>he (by rw[e]))];exact h
    | normal=>exact h
    | ret=>exact h
  .exact Zo
end
def look (ts ks:List Nat):Option ((Ex×LS)×List Prop×List O)->Option (Prop×Ex×List LV×List (Option LO))
 | some ((e,s),obs,[])=>some (All obs,e,ts.map s.env,ks.map s.ob)
 | _=>none
section
variable {P:Program} {M:Yp} {s:LS} {c:Code} {R:Ex->LS->Prop}
theorem Zjx (hP:Yk P) {ts ks:List Nat} {p:Prop} {e:Ex} {vs:List LV} {bs:List (Option LO)} (fuel:Nat) (q:List O) (hp:p) (h:look ts ks (lcK P M fuel c s q)=some (p,e,vs,bs)) (hR:∀s':LS,ts.map s'.env=vs->ks.map s'.ob=bs->R e s'):Lx P c s R:=by
 unfold look at h;split at h
 .rename_i e' s' obs heq
  simp only[ZZd,ZZe] at h;obtain⟨h1,h2,h3,h4⟩:=h;subst h1;subst h2;exact lcK_ok hP q _ _ _ heq hp R (hR s' h3 h4)
 .cases h
def Z87:List (Nat×LV)->Nat->LV
 | []=>λ_=>.und
 | (t,v)::l=>upd (Z87 l) t v
def Hs (ti:Nat) (ob:Nat->Option LO) (bk:Nat->Option Nat) (bx:Nat->List LV) (used:List Nat) (b:LO) (k:Int) (i:Nat):LS:=
 ⟨Z87 [(0,.ob 0),(1,.lit (.int .i64 k)),(ti,.lit (.int .i64 i))],upd ob 0 (some b),bk,bx,used⟩
structure Z1h (ti:Nat) (s:LS) (b:LO) (k:Int) (i:Nat):Prop where
 e0:s.env 0=.ob 0
 e1:s.env 1=.lit (.int .i64 k)
 ei:s.env ti=.lit (.int .i64 i)
 ob:s.ob 0=some b
theorem Z1h.of {ti:Nat} {b:LO} {k:Int} {i:Nat} (h1:[0,1,ti].map s.env=[.ob 0,.lit (.int .i64 k),.lit (.int .i64 i)]) (h2:[0].map s.ob=[some b]):Z1h ti s b k i:=by
 simp only[Va7,Vck,Vdn,and_true] at h1 h2;exact⟨h1.1,h1.2.1,h1.2.2,h2⟩
theorem Ygw {ti:Nat} {b:LO} {k:Int} {i:Nat} (hs:Z1h ti s b k i) (h:Lx P c (Hs ti s.ob s.bk s.bx s.used b k i) R):Lx P c s R:=by
 have e:upd s.ob 0 (some b)=s.ob:=by
  funext j
  by_cases hj:j=0
  .subst hj;rw[Z1,hs.ob]
  .rw[Yo hj]
 unfold Hs at h;rw[e] at h;refine Ysd h (λt=>?_) (λd hd=>hd);by_cases h0:t=0
 .subst h0;right;rw[hs.e0];rfl
 .by_cases h1:t=1
  .subst h1;right;rw[hs.e1];rfl
  .by_cases hi:t=ti
   .subst hi;right;rw[hs.ei];simp[Z87,upd,h0,h1]
   .left;simp[Z87,upd,h0,h1,hi]
def Hs0 (ob:Nat->Option LO) (bk:Nat->Option Nat) (bx:Nat->List LV) (used:List Nat) (b:LO) (k:Int):LS:=
 ⟨Z87 [(0,.ob 0),(1,.lit (.int .i64 k))],upd ob 0 (some b),bk,bx,used⟩
structure Ykl (s:LS) (b:LO) (k:Int):Prop where
 e0:s.env 0=.ob 0
 e1:s.env 1=.lit (.int .i64 k)
 ob:s.ob 0=some b
theorem Ykl.of {b:LO} {k:Int} (h1:[0,1].map s.env=[.ob 0,.lit (.int .i64 k)]) (h2:[0].map s.ob=[some b]):Ykl s b k:=by
 simp only[Va7,Vck,Vdn,and_true] at h1 h2;exact⟨h1.1,h1.2,h2⟩
theorem Y0e {b:LO} {k:Int} (hs:Ykl s b k) (h:Lx P c (Hs0 s.ob s.bk s.bx s.used b k) R):Lx P c s R:=by
 have e:upd s.ob 0 (some b)=s.ob:=by
  funext j
  by_cases hj:j=0
  .subst hj;rw[Z1,hs.ob]
  .rw[Yo hj]
 unfold Hs0 at h;rw[e] at h;refine Ysd h (λt=>?_) (λd hd=>hd);by_cases h0:t=0
 .subst h0;right;rw[hs.e0];rfl
 .by_cases h1:t=1
  .subst h1;right;rw[hs.e1];rfl
  .left;simp[Z87,upd,h0,h1]
theorem Yya {ti:Nat} {B:Nat->LO} {K:Nat->Int} {len x:Nat} (step:∀i,i < len->∀ob bk bx used,Lx P c (Hs ti ob bk bx used (B i) (K i) i) (λe s=>e=.normal/\Z1h ti s (B (i+1)) (K (i+1)) (i+1)))
  (fin:∀ob bk bx used,Lx P c (Hs ti ob bk bx used (B len) (K len) len) (λe s=>e=.exit x/\Z1h ti s (B len) (K len) len)):
  ∀(m i:Nat),i+m=len->∀ob bk bx used,Lx P (.loop c) (Hs ti ob bk bx used (B i) (K i) i) (λe s=>e=.exit x/\Z1h ti s (B len) (K len) len):=by
 intro m
 induction m with
 | zero=>
  intro i hi ob bk bx used;have:i=len:=by omega
  subst this;refine Yr4 (Zxo (fin ob bk bx used) ?_);rintro e s ⟨rfl,h⟩;exact⟨rfl,h⟩
 | succ m ih=>
  intro i hi ob bk bx used;refine Yr4 (Zxo (step i (by omega) ob bk bx used) ?_);rintro e s ⟨rfl,h⟩;exact Ygw h (ih (i+1) (by omega) _ _ _ _)
def mkL {α:Type} (f:α->Int->α×Int):List α->Int->List α×Int
 | [],k=>([],k)
 | x::l,k=>let y:=f x k;let z:=mkL f l y.2;(y.1::z.1,z.2)
def mkN {α:Type} (f:α->Int->α×Int):Nat->List α->Int->List α×Int
 | 0,l,k=>(l,k)
 | _+1,[],k=>([],k)
 | i+1,x::l,k=>let y:=f x k;let z:=mkN f i l y.2;(y.1::z.1,z.2)
variable {α:Type} {f:α->Int->α×Int}
omit [Anchor] in
theorem Ysi:∀{i:Nat} {l:List α} {k:Int},(mkN f i l k).1.length=l.length:=by
 intro i
 induction i with
 | zero=>intro l k;rfl
 | succ i ih=>intro l k;cases l with
  | nil=>rfl
  | cons x l=>simp[mkN,ih]
omit [Anchor] in
theorem Z82:∀{l:List α} {k:Int},mkN f l.length l k=mkL f l k:=by
 intro l
 induction l with
 | nil=>intro k;rfl
 | cons x l ih=>intro k;simp only[Vaa,mkN,mkL,ih]
omit [Anchor] in
theorem Y0c:∀{i:Nat} {l:List α} {k:Int} {x:α},l[i]?=some x->(mkN f i l k).1[i]?=some x/\mkN f (i+1) l k=((mkN f i l k).1.set i (f x (mkN f i l k).2).1,(f x (mkN f i l k).2).2):=by
 intro i
 induction i with
 | zero=>
  intro l k x h;cases l with
  | nil=>simp at h
  | cons y l=>
   have e:y=x:=by simpa using h
   subst e;exact⟨rfl,rfl⟩
 | succ i ih=>
  intro l k x h;cases l with
  | nil=>simp at h
  | cons y l=>
   obtain⟨h1,h2⟩:=ih (l:=l) (k:=(f y k).2) (x:=x) (by simpa using h);refine⟨by simpa [mkN] using h1,?_⟩;rw[show mkN f (i+1+1) (y::l) k=((f y k).1::(mkN f (i+1) l (f y k).2).1,(mkN f (i+1) l (f y k).2).2) from rfl,h2];rfl
omit [Anchor] in
theorem map_set {α β:Type} {g:α->β}:∀{l:List α} {i:Nat} {x:α},(l.set i x).map g=(l.map g).set i (g x):=by
 intro l
 induction l with
 | nil=>intro i x;rfl
 | cons y l ih=>intro i x;cases i<;>simp[ih]
omit [Anchor] in
theorem set_at {α:Type} {l:List α} {i:Nat} {x y:α} (h:l[i]?=some x):(l.set i y)[i]?=some y:=by
 rw[Vec (ZZh.1 h).1]
omit [Anchor] in
theorem Jy {i:Nat}:Xq (toV (.lit (.int .i64 (i:Int))))=some i:=by
 simp[toV,Xq]
theorem Y2c (hP:Yk P) {f0:FuncId} {fn:Func} {r0 r1 body post:Code} {x ti rt:Nat} {enc:α->List V} (hfn:P.funcs[f0]?=some fn) (hc:fn.body=some (.seq r0 (.seq (.seq r1 (.block x (.loop body))) post))) (hr:fn.results=#[.tmp rt]) (l:List α) (k:Int) {Qp:α->Prop} (hq:∀x∈l,Qp x)
  (Zn:∀ts,Lx P r0 (Yhi ts false [.tr (l.map enc)] k) (λe s=>e=.normal/\Ykl s ⟨true,(ts 0).1,(ts 0).2,l.map enc⟩ k))
  (Zz:∀(l:List α) (k:Int) (z e:Nat) ob bk bx used,Lx P r1 (Hs0 ob bk bx used ⟨true,z,e,l.map enc⟩ k) (λex s=>ex=.normal/\Z1h ti s ⟨true,z,e,l.map enc⟩ k 0))
  (step:∀(l:List α) (i:Nat) (a:α) (k:Int) (z e:Nat) ob bk bx used,l[i]?=some a->i < 1152921504606846976->Qp a->Lx P body (Hs ti ob bk bx used ⟨true,z,e,l.map enc⟩ k i) (λex s=>ex=.normal/\Z1h ti s ⟨true,z,e,(l.set i (f a k).1).map enc⟩ (f a k).2 (i+1)))
  (fin:∀(l:List α) (k:Int) (z e:Nat) ob bk bx used,Lx P body (Hs ti ob bk bx used ⟨true,z,e,l.map enc⟩ k l.length) (λex s=>ex=.exit x/\Z1h ti s ⟨true,z,e,l.map enc⟩ k l.length))
  (Ykt:∀(l:List α) (k:Int) (z e:Nat) (i:Nat) ob bk bx used,Lx P post (Hs ti ob bk bx used ⟨true,z,e,l.map enc⟩ k i) (λex s=>ex=.ret/\s.env rt=.lit (.int .i64 k)/\s.ob 0=some ⟨true,z,e,l.map enc⟩)) (hl:l.length<=1152921504606846976):
  Zix P f0 false [.tr (l.map enc)] [.tr ((mkL f l k).1.map enc)] k (mkL f l k).2:=by
 refine mk_ok hP hfn hc hr (by simp) (.inr rfl) λts=>Z2m (Zxo (Zn ts) ?_);rintro e s ⟨rfl,hs⟩;refine Z2m (Z2m (Y0e hs (Zxo (Zz l k _ _ _ _ _ _) ?_)));rintro e s ⟨rfl,hs⟩;refine Ygw hs (Ycg ?_);have Yv2:=Yya (P:=P) (c:=body) (ti:=ti) (B:=λi=>⟨true,(ts 0).1,(ts 0).2,(mkN f i l k).1.map enc⟩) (K:=λi=>(mkN f i l k).2) (len:=l.length) (x:=x)
  (λi hi ob bk bx used=>by
   have hx:l[i]?=some l[i]:=Vac hi;obtain⟨h1,h2⟩:=Y0c (f:=f) (k:=k) hx;have:=step (mkN f i l k).1 i _ (mkN f i l k).2 (ts 0).1 (ts 0).2 ob bk bx used h1 (by omega) (hq _ (Vag hx));rw[h2];exact this)
  (λob bk bx used=>by
   have:=fin (mkN f l.length l k).1 (mkN f l.length l k).2 (ts 0).1 (ts 0).2 ob bk bx used;rw[Ysi] at this;exact this) l.length 0 (by omega) s.ob s.bk s.bx s.used
 refine Zxo Yv2 ?_;rintro e s2 ⟨rfl,hs2⟩;show (if x=x then Yth _ _ .normal s2 else _);rw[ZZj rfl];refine Ygw hs2 (Zxo (Ykt _ _ _ _ _ _ _ _ _) ?_);rintro e s3 ⟨rfl,h1,h2⟩;simp only[Z82] at h1 h2;exact⟨rfl,h1,h2,trivial⟩
theorem Z4q (hP:Yk P) {f0:FuncId} {fn:Func} {r0 r1 body post:Code} {enc:α->List V} (hfn:P.funcs[f0]?=some fn) (hc:fn.body=some (.seq r0 (.seq (.seq r1 (.block 0 (.loop body))) post))) (hr:fn.results=#[.tmp 4]) (l:List α) (k:Int) {Qp:α->Prop} (hq:∀x∈l,Qp x) (hl:l.length<=1152921504606846976)
  (e0:∀ts,look [0,1] [0] (lcK P M 100 r0 (Yhi ts false [.tr (l.map enc)] k) [])=some (True,.normal,[.ob 0,.lit (.int .i64 k)],[some ⟨true,(ts 0).1,(ts 0).2,l.map enc⟩]))
  (e1:∀(l:List α) (k:Int) (z e:Nat) ob bk bx used,look [0,1,5] [0] (lcK P M 100 r1 (Hs0 ob bk bx used ⟨true,z,e,l.map enc⟩ k) [])=some (True,.normal,[.ob 0,.lit (.int .i64 k),.lit (.int .i64 0)],[some ⟨true,z,e,l.map enc⟩]))
  (e3:∀(l:List α) (k:Int) (z e:Nat) ob bk bx used,look [0,1,5] [0] (lcK P M 100 body (Hs 5 ob bk bx used ⟨true,z,e,l.map enc⟩ k l.length) [.t false])=some (decide ((l.length:Int) < ((l.map enc).length:Int))=false/\True,.exit 0,[.ob 0,.lit (.int .i64 k),.lit (.int .i64 (l.length:Int))],[some ⟨true,z,e,l.map enc⟩]))
  (e4:∀(l:List α) (k:Int) (z e:Nat) (i:Nat) ob bk bx used,look [4] [0] (lcK P M 100 post (Hs 5 ob bk bx used ⟨true,z,e,l.map enc⟩ k i) [])=some (True,.ret,[.lit (.int .i64 k)],[some ⟨true,z,e,l.map enc⟩]))
  (step:∀(l:List α) (i:Nat) (a:α) (k:Int) (z e:Nat) ob bk bx used,l[i]?=some a->i < 1152921504606846976->Qp a->Lx P body (Hs 5 ob bk bx used ⟨true,z,e,l.map enc⟩ k i) (λex s=>ex=.normal/\Z1h 5 s ⟨true,z,e,(l.set i (f a k).1).map enc⟩ (f a k).2 (i+1))):
  Zix P f0 false [.tr (l.map enc)] [.tr ((mkL f l k).1.map enc)] k (mkL f l k).2:=
 Y2c hP hfn hc hr l k hq (λts=>Zjx (M:=M) hP 100 [] trivial (e0 ts) (λs h1 h2=>⟨rfl,.of h1 h2⟩)) (λl k z e ob bk bx used=>Zjx (M:=M) hP 100 [] trivial (e1 l k z e ob bk bx used) (λs h1 h2=>⟨rfl,.of h1 h2⟩)) step
  (λl k z e ob bk bx used=>Zjx (M:=M) hP 100 [.t false] ⟨by simp,trivial⟩ (e3 l k z e ob bk bx used) (λs h1 h2=>⟨rfl,.of h1 h2⟩)) (λl k z e i ob bk bx used=>Zjx (M:=M) hP 100 [] trivial (e4 l k z e i ob bk bx used) (λs h1 h2=>⟨rfl,by simpa using h1,by simpa using h2⟩)) hl
end
end Go.Proofs.YtagdmghmblplbaaGreat.Ev
