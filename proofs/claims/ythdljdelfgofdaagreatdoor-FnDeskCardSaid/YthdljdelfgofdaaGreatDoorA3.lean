/- A part of the proof of FnDesk: see the text YthdljdelfgofdaaGreatDoorLawFnDesk for what is proved and its conditions. Conditions here: those in each line. -/
import Derived.Test.YthdljdelfgofdaaGreatDoorA2
import Derived.KernelRfl
import Derived.Lib.AtoiAll
import Derived.Lib.ItoaNum
import Derived.Lib.Join
import Derived.Lib.Split
import Derived.Lib.Strings
import GoSem.ClaimData
set_option linter.unusedSimpArgs false
set_option linter.unusedVariables false
set_option linter.unusedSectionVars false
namespace Go.Proofs.YthdljdelfgofdaaGreatDoor.Ev
open Go Go.RowKit
variable [Anchor]
inductive O where
 | t (b:Bool)
 | k
 | row (n:Nat) (r:List V)
 | cell (r:List V)
 | put (r:List V) (R:List (List V))
 | num (l h n:Nat) (R:List (List V))
 | app (m:List (List V)) (lb:Bool) (R:List (List V)) (n:Nat)
 | mk (n:Nat) (R:List (List V))
 | res (r:V) (os:List V)
 | val (v:V)
 | stop
 | enter
 | B8
def On:List Prop->Prop
 | []=>True
 | p::ps=>p/\On ps
theorem On.app {a b:List Prop} (h:On (a++b)):On a/\On b:=by
 induction a with
 | nil=>exact⟨trivial,h⟩
 | cons p a ih=>exact⟨⟨h.1,(ih h.2).1⟩,(ih h.2).2⟩
abbrev KM (α:Type):=List O->Option (α×List Prop×List O)
namespace KM
def ret {α:Type} (a:α):KM α:=λq=>some (a,[],q)
def AE {α β:Type} (x:KM α) (f:α->KM β):KM β:=λq=>match x q with
 | some (a,o1,q1)=>match f a q1 with
  | some (b,o2,q2)=>some (b,o1++o2,q2)
  | none=>none
 | none=>none
def opt {α:Type} (x:Option α):KM α:=λq=>match x with|some a=>some (a,[],q)|none=>none
def B8 (p:Prop):KM Unit:=λq=>some ((),[p],q)
def BV:KM O:=λq=>match q with|o::q=>some (o,[],q)|[]=>none
def fail {α:Type}:KM α:=λ_=>none
end KM
def KS {α:Type} (x:KM α) (y:Option α):Prop:=∀q a EG q',x q=some (a,EG,q')->On EG->y=some a
def KP {α:Type} (x:KM α) (Q:α->Prop):Prop:=∀q a EG q',x q=some (a,EG,q')->On EG->Q a
section
variable {α β:Type}
theorem KS.kp {x:KM α} {y:Option α} (h:KS x y):KP x (λa=>y=some a):=h
theorem KP.mono {x:KM α} {Q Q':α->Prop} (h:KP x Q) (hq:∀a,Q a->Q' a):KP x Q':=λq a EG q' e ho=>hq a (h q a EG q' e ho)
theorem Yh {a:α} {Q:α->Prop} (h:Q a):KP (KM.ret a) Q:=λq b EG q' e ho=>by
 simp only[KM.ret,AF,A7] at e;obtain⟨rfl,_⟩:=e;exact h
theorem Zv {Q:α->Prop}:KP (KM.fail:KM α) Q:=λq b EG q' e ho=>by cases e
theorem Zs {x:KM α} {f:α->KM β} {Q:α->Prop} {R:β->Prop} (h:KP x Q) (hf:∀a,Q a->KP (f a) R):KP (KM.AE x f) R:=λq b EG q' e ho=>by
 simp only[KM.AE] at e;split at e
 .rename_i a o1 q1 h1
  split at e
  .rename_i b' o2 q2 h2
   simp only[AF,A7] at e;obtain⟨rfl,rfl,rfl⟩:=e;obtain⟨a1,a2⟩:=ho.app;exact hf a (h q a o1 q1 h1 a1) q1 b' o2 q2 h2 a2
  .cases e
 .cases e
theorem FF {x:Option α}:KP (KM.opt x) (λa=>x=some a):=λq b EG q' e ho=>by
 simp only[KM.opt] at e;split at e
 .simp only[AF,A7] at e
  obtain⟨rfl,_⟩:=e;rfl
 .cases e
theorem Yt {p:Prop}:KP (KM.B8 p) (λ_=>p):=λq b EG q' e ho=>by
 simp only[KM.B8,AF,A7] at e;obtain⟨_,rfl,_⟩:=e;exact ho.1
theorem K2:KP KM.BV (λ_=>True):=λ_ _ _ _ _ _=>trivial
theorem Qh {c:Prop} [Decidable c] {x y:KM α} {Q:α->Prop} (h1:c->KP x Q) (h2:¬c->KP y Q):KP (if c then x else y) Q:=by
 by_cases hc:c
 .rw[Ah hc];exact h1 hc
 .rw[Ai hc];exact h2 hc
theorem Kg {a:α}:KS (KM.ret a) (some a):=Yh rfl
theorem Hc {x:KM α} {y:Option α} {f:α->KM β} {g:α->Option β} (h:KS x y) (hf:∀a,KS (f a) (g a)):KS (KM.AE x f) (y.bind g):=
 Zs h (λa e q b EG q' e2 ho=>by rw[e];exact hf a q b EG q' e2 ho)
theorem Qo {x:KM α} {y:Option α} {f:α->β} (h:KS x y):KS (KM.AE x λa=>KM.ret (f a)) (y.map f):=
 Zs h (λa e=>by rw[e];exact Yh rfl)
theorem Oo {x:Option α}:KS (KM.opt x) x:=FF
end
open KM
def JG:Nat->Nat->Nat
 | 0,n=>n
 | m+1,n=>m+1+n
theorem Y3q (m n:Nat):JG m n=m+n:=by cases m<;>simp[JG]
def kL (rows:List (List V)) (off len:Nat):KM (List (List V)):=AE BV λo=>match o with
 | .k=>match off with
  | 0=>AE (B8 (len=rows.length)) λ_=>ret rows
  | _=>fail
 | .mk _ R=>AE (B8 (off+len<=rows.length)) λ_=>AE (B8 ((rows.drop off).take len=R)) λ_=>ret R
 | _=>fail
theorem Yxo {rows:List (List V)} {off len:Nat}:KP (kL rows off len) (λr=>off+len<=rows.length/\r=(rows.drop off).take len):=by
 unfold kL;refine Zs K2 (λo _=>?_);split
 .split
  .refine Zs Yt (λ_ h=>Yh ⟨by omega,?_⟩)
   rw[h];simp
  .exact Zv
 .exact Zs Yt (λ_ h1=>Zs Yt (λ_ h2=>Yh ⟨h1,h2.symm⟩))
 .exact Zv
def JH (s:St):V->KM (List (List V))
 | .sl id off len=>match s.heap id with
  | some b=>if b.box=false then kL b.rows off len else fail
  | none=>fail
 | .tr rows|.vw rows=>ret rows
 | .lit (.slice none 0 0)=>ret []
 | _=>fail
theorem Ls {s:St} {x:V}:KS (JH s x) (s.rowsOf x):=by
 unfold JH;split
 .rename_i id off len
  simp only[St.rowsOf];split
  .rename_i b hb
   refine Qh (λhx=>?_) (λ_=>Zv);rw[hb,Ag];refine Yxo.mono λr hr=>?_;rw[Ah ⟨hx,hr.1⟩,hr.2]
  .exact Zv
 .exact Kg
 .exact Kg
 .exact Kg
 .exact Zv
def TJ (s:St) (id:Id) (off len:Nat):KM (TypeId×List (List V)):=
 match s.heap id with
 | some b=>if b.box=false/\b.own=true/\b.cl=true then AE (kL b.rows off len) λr=>ret (b.el,r) else fail
 | none=>fail
theorem kM {s:St} {id:Id} {off len:Nat}:KS (TJ s id off len) (s.whole id off len):=by
 unfold TJ St.whole;split
 .rename_i b hb
  refine Qh (λhx=>?_) (λ_=>Zv);rw[hb,Ag];refine Zs Yxo (λr hr=>Yh ?_);rw[Ah ⟨hx.1,hx.2.1,hx.2.2,hr.1⟩,hr.2]
 .exact Zv
def kN (s:St):V->KM V
 | .lit (.slice none 0 0)=>ret (.tr [])
 | .lit v=>ret (.lit v)
 | .tr rows=>ret (.tr rows)
 | .vw rows=>ret (.tr rows)
 | .sl id off len=>AE (JH s (.sl id off len)) λr=>ret (.tr r)
 | .rp _ row off=>ret (.rp true row off)
 | _=>fail
theorem Ymi {s:St} {x:V}:KS (kN s x) (s.BA x):=by
 unfold kN;split
 .exact Kg
 .rename_i v hv
  have:s.BA (.lit v)=some (.lit v):=by
   unfold St.BA;split<;>simp_all
  rw[this];exact Kg
 .exact Kg
 .exact Kg
 .exact Qo Ls
 .exact Kg
 .exact Zv
def ZE (s:St):List V->KM (List V)
 | []=>ret []
 | x::r=>AE (kN s x) λy=>AE (ZE s r) λz=>ret (y::z)
theorem zT {s:St}:∀{xs:List V},KS (ZE s xs) (s.B3 xs):=by
 intro xs
 induction xs with
 | nil=>exact Kg
 | cons x xs ih=>exact Hc Ymi λy=>Qo ih
def kO (s:St):V->KM V
 | .ptr id i off=>match s.heap id with
  | some b=>if b.own=true then (match b.box,b.rows,i with
   | true,[row],0=>AE (ZE s row) λcs=>ret (.rp true cs off)
   | _,_,_=>AE BV λo=>match o with
    | .cell row=>AE (B8 (b.rows[i]?=some row)) λ_=>AE (ZE s row) λcs=>ret (.rp true cs off)
    | _=>fail) else fail
  | none=>fail
 | x=>kN s x
theorem Yjp {s:St} {x:V}:KS (kO s x) (s.Bs x):=by
 unfold kO;split
 .rename_i id i off
  simp only[St.Bs];split
  .rename_i b hb
   refine Qh (λhx=>?_) (λ_=>Zv);rw[hb,Ag,Ah hx];split
   .rename_i row h1 h2
    rw[h2];exact Qo zT
   .refine Zs K2 (λo _=>?_)
    split
    .refine Zs Yt (λ_ h=>?_)
     rw[h];exact Qo zT
    .exact Zv
  .exact Zv
 .rename_i _ hx
  have:s.Bs x=s.BA x:=by
   unfold St.Bs;split<;>simp_all
  rw[this];exact Ymi
def zU (s:St):List V->KM (List V)
 | []=>ret []
 | x::r=>AE (kO s x) λy=>AE (zU s r) λz=>ret (y::z)
theorem Yyl {s:St}:∀{xs:List V},KS (zU s xs) (s.Bz xs):=by
 intro xs
 induction xs with
 | nil=>exact Kg
 | cons x xs ih=>exact Hc Yjp λy=>Qo ih
def zV (s:St):V->KM V
 | .agg cs=>AE (ZE s cs) λy=>ret (.agg y)
 | .fn f Bv=>AE (zU s Bv) λy=>ret (.fn f y)
 | x=>kO s x
theorem Y97 {s:St} {x:V}:KS (zV s x) (s.C7 x):=by
 unfold zV;split
 .exact Qo zT
 .exact Qo Yyl
 .rename_i _ h1 h2
  have:s.C7 x=s.Bs x:=by
   unfold St.C7;split<;>simp_all
  rw[this];exact Yjp
def kP (s:St):List Yw->List V->KM (List V)
 | _,[]=>ret []
 | ms,x::r=>AE (match ms.headD .rd with|.rd=>zV s x|_=>ret x) λy=>AE (kP s ms.tail r) λz=>ret (y::z)
theorem Y9v {s:St}:∀{xs:List V} {ms:List Yw},KS (kP s ms xs) (s.BN ms xs):=by
 intro xs
 induction xs with
 | nil=>intro ms;exact Kg
 | cons x xs ih=>
  intro ms;simp only[kP,St.BN];refine Hc ?_ λy=>Qo ih;unfold St.Cr;cases ms.headD .rd<;>simp only<;>first|exact Y97|exact Kg
def TK (s:St) (t:Option TypeId):V->KM (V×St)
 | .lit (.slice none 0 0)=>AE (opt t) λe=>ret (.own e [],s)
 | .lit v=>ret (.lit v,s)
 | .tr rows=>ret (.tr rows,s)
 | .vw rows=>ret (.tr rows,s)
 | .sl id off len=>AE (TJ s id off len) λer=>ret (.own er.1 er.2,s.kill id)
 | _=>fail
theorem kQ {s:St} {t:Option TypeId} {x:V}:KS (TK s t x) (s.AB t x):=by
 unfold TK;split
 .exact Qo Oo
 .rename_i v hv
  have:s.AB t (.lit v)=some (.lit v,s):=by
   unfold St.AB;split<;>simp_all
  rw[this];exact Kg
 .exact Kg
 .exact Kg
 .exact Qo kM
 .exact Zv
def ZF:List (Option TypeId)->List V->(s:St)->KM (List V×St)
 | _,[],s=>ret ([],s)
 | ts,x::r,s=>AE (TK s (ts.headD none) x) λy=>AE (ZF ts.tail r y.2) λz=>ret (y.1::z.1,z.2)
theorem zW:∀{xs:List V} {s:St} {ts:List (Option TypeId)},KS (ZF ts xs s) (s.AL ts xs):=by
 intro xs
 induction xs with
 | nil=>intro s ts;exact Kg
 | cons x xs ih=>intro s ts;exact Hc kQ λy=>Qo ih
def kR (s:St) (ts:List (Option TypeId)):V->KM (V×St)
 | .agg cs=>AE (ZF ts cs s) λy=>ret (.agg y.1,y.2)
 | x=>TK s (ts.headD none) x
theorem Yh2 {s:St} {ts:List (Option TypeId)} {x:V}:KS (kR s ts x) (s.Bb ts x):=by
 unfold kR;split
 .exact Qo zW
 .rename_i _ h1
  have:s.Bb ts x=s.AB (ts.headD none) x:=by
   unfold St.Bb;split<;>simp_all
  rw[this];exact kQ
def kS (s:St) (ts:List (Option TypeId)) (id:Id):KM (List V×St):=
 match s.heap id with
 | some b=>if b.box=true/\b.own=true then (match b.rows with
  | [row]=>ZF ts row (s.kill id)
  | _=>fail) else fail
 | none=>fail
theorem Yji {s:St} {ts:List (Option TypeId)} {id:Id}:KS (kS s ts id) (s.Bw ts id):=by
 unfold kS St.Bw;split
 .rename_i b hb
  refine Qh (λhx=>?_) (λ_=>Zv);rw[hb,Ag,Ah hx];split
  .rename_i row Xj
   rw[Xj];exact zW
  .exact Zv
 .exact Zv
def zX (s:St) (t:Option TypeId) (x:V):KM (V×St):=match x with
 | .ptr id 0 0=>AE (kS s [] id) λy=>ret (.CQ y.1,y.2)
 | x=>TK s t x
theorem Yt8 {s:St} {t:Option TypeId} {x:V}:KS (zX s t x) (s.Bj t x):=by
 unfold zX;split
 .exact Qo Yji
 .rename_i Yj
  have e:s.Bj t x=s.AB t x:=by
   unfold St.Bj;split
   .exact absurd rfl (Yj _)
   .rfl
  rw[e];exact kQ
def zY:List (Option TypeId)->List V->(s:St)->KM (List V×St)
 | _,[],s=>ret ([],s)
 | ts,x::r,s=>AE (zX s (ts.headD none) x) λy=>AE (zY ts.tail r y.2) λz=>ret (y.1::z.1,z.2)
theorem Ypr:∀{xs:List V} {s:St} {ts:List (Option TypeId)},KS (zY ts xs s) (s.AR ts xs):=by
 intro xs
 induction xs with
 | nil=>intro s ts;exact Kg
 | cons x xs ih=>intro s ts;exact Hc Yt8 λy=>Qo ih
def kT (s:St) (ts:List (Option TypeId)) (id:Id):KM (List V×St):=
 match s.heap id with
 | some b=>if b.box=true/\b.own=true then (match b.rows with
  | [row]=>zY ts row (s.kill id)
  | _=>fail) else fail
 | none=>fail
theorem Ygb {s:St} {ts:List (Option TypeId)} {id:Id}:KS (kT s ts id) (s.Bg ts id):=by
 unfold kT St.Bg;split
 .rename_i b hb
  refine Qh (λhx=>?_) (λ_=>Zv);rw[hb,Ag,Ah hx];split
  .rename_i row Xj
   rw[Xj];exact Ypr
  .exact Zv
 .exact Zv
def zZ:V->KM V
 | .sl id off len=>AE BV λo=>match o with
  | .t true=>AE (B8 (len=0)) λ_=>ret (.tr [])
  | .t false=>AE (B8 (len≠0)) λ_=>ret (.sl id off len)
  | _=>fail
 | x=>ret x
theorem Yr0 {x:V}:KP (zZ x) (λy=>BY x=y):=by
 cases x with
 | sl id off len=>
  refine Zs K2 (λo _=>?_);cases o with
  | t b=>cases b with
   | true=>exact Zs Yt (λ_ h=>Yh (by subst h;rfl))
   | false=>exact Zs Yt (λ_ h=>Yh (by cases len with|zero=>exact absurd rfl h|succ n=>rfl))
  | _=>exact Zv
 | _=>exact Yh rfl
def Yx2:List V->KM (List V)
 | []=>ret []
 | x::xs=>AE (zZ x) λy=>AE (Yx2 xs) λys=>ret (y::ys)
theorem Y9x:∀{xs:List V},KP (Yx2 xs) (λys=>xs.map BY=ys):=by
 intro xs
 induction xs with
 | nil=>exact Yh rfl
 | cons x xs ih=>exact Zs Yr0 (λy hy=>Zs ih (λys Oq=>Yh (by rw[<-hy,<-Oq];rfl)))
def kU:V->KM V
 | .agg cs=>AE (Yx2 cs) λys=>ret (.agg ys)
 | x=>zZ x
theorem Yu6 {x:V}:KP (kU x) (λy=>thin x=y):=by
 cases x with
 | agg cs=>exact Zs Y9x (λys h=>Yh (by rw[<-h];rfl))
 | _=>simp only[kU,thin];exact Yr0
def Y5a (ts:List (Option TypeId)) (m:Yw) (x:V) (s:St):KM (V×St):=
 match m with
 | .rd=>ret (x,s)
 | .io=>match x with
  | .ptr id 0 0=>AE (kT s ts id) λy=>ret (.agg y.1,y.2)
  | _=>fail
 | .mv=>kR s ts x
 | .EA=>AE (kU x) λy=>kR s ts y
theorem Xaw {s:St} {ts:List (Option TypeId)} {m:Yw} {x:V}:KS (Y5a ts m x s) (s.Dl ts m x):=by
 unfold Y5a St.Dl;cases m
 .exact Kg
 .simp only
  split
  .exact Qo Ygb
  .exact Zv
 .exact Yh2
 .refine Zs Yu6 (λy hy=>?_)
  rw[<-hy];exact Yh2
def Y6n (s:St) (m:Yw) (e k:Nat) (x o:V):KM St:=match m with
 | .EA=>AE (kU x) λy=>opt (match y,o with
  | .agg cs,.agg ns=>s.AO cs ns
  | x,o=>s.AO [x] [o])
 | .rd=>ret s
 | .mv=>ret s
 | .io=>opt (s.back .io e k x o)
theorem Xc9 {s:St} {m:Yw} {e k:Nat} {x o:V}:KS (Y6n s m e k x o) (s.back m e k x o):=by
 cases m
 .exact Kg
 .exact Oo
 .exact Kg
 .simp only[Y6n,St.back]
  refine Zs Yu6 (λy hy=>?_);rw[hy];exact Oo
def Yy6 (e:Nat):List Yw->(k:Nat)->List V->List V->(s:St)->KM St
 | _,_,[],_,s=>ret s
 | ms,k,x::xs,o::os,s=>AE (Y6n s (ms.headD .rd) e k x o) λs=>Yy6 e ms.tail (k+1) xs os s
 | _,_,_::_,[],_=>fail
theorem Y95 {e:Nat}:∀{xs:List V} {s:St} {ms:List Yw} {k:Nat} {os:List V},KS (Yy6 e ms k xs os s) (s.BF e ms k xs os):=by
 intro xs
 induction xs with
 | nil=>intro s ms k os;exact Kg
 | cons x xs ih=>
  intro s ms k os;cases os with
  | nil=>exact Zv
  | cons o os=>exact Hc Xc9 λs=>ih
def Ywd (P:Program):List TypeId->List Yw->List V->(s:St)->KM (List V×St)
 | _,_,[],s=>ret ([],s)
 | ts,ms,x::r,s=>AE (Y5a (Tz P (ts.headD 0)) (ms.headD .rd) x s) λy=>AE (Ywd P ts.tail ms.tail r y.2) λz=>ret (y.1::z.1,z.2)
theorem Y9q {P:Program}:∀{xs:List V} {s:St} {ts:List TypeId} {ms:List Yw},KS (Ywd P ts ms xs s) (s.Bt P ts ms xs):=by
 intro xs
 induction xs with
 | nil=>intro s ts ms;exact Kg
 | cons x xs ih=>intro s ts ms;exact Hc Xaw λy=>Qo ih
def MD:List V->(s:St)->KM (List V×Bool×St)
 | [],s=>ret ([],true,s)
 | x::r,s=>
  match x with
  | .lit (.slice none 0 0)=>AE (MD r s) λy=>ret (.tr []::y.1,y.2)
  | .lit v=>AE (MD r s) λy=>ret (.lit v::y.1,y.2)
  | .tr rows|.vw rows=>AE (MD r s) λy=>ret (.tr rows::y.1,false,y.2.2)
  | .sl id off len=>match s.heap id with
   | some b=>if b.own=true/\b.box=false/\b.cl=true then AE (TJ s id off len) λer=>AE (MD r (s.kill id)) λy=>ret (.tr er.2::y.1,y.2)
    else if b.own=false then AE (JH s (.sl id off len)) λrows=>AE (MD r s) λy=>ret (.tr rows::y.1,false,y.2.2) else fail
   | none=>fail
  | _=>fail
def Yf2:List (List V)->(s:St)->KM (List (List V)×Bool×St)
 | [],s=>ret ([],true,s)
 | row::r,s=>AE (MD row s) λy=>AE (Yf2 r y.2.2) λz=>ret (y.1::z.1,y.2.1&&z.2.1,z.2.2)
theorem Yyg:∀{xs:List V} {s:St},KS (MD xs s) (s.sink xs):=by
 intro xs
 induction xs with
 | nil=>intro s;exact Kg
 | cons x xs ih=>
  intro s;unfold MD;split
  .exact Qo ih
  .rename_i v hv
   have:s.sink (.lit v::xs)=(s.sink xs).map λy=>(.lit v::y.1,y.2):=by
    conv=>lhs;unfold St.sink
    split<;>simp_all
   rw[this];exact Qo ih
  .exact Qo ih
  .exact Qo ih
  .rename_i id off len
   simp only[St.sink];split
   .rename_i b hb
    refine Qh (λhx=>?_) (λhn=>Qh (λho=>?_) (λ_=>Zv))
    .refine Zs kM (λer he=>?_)
     rw[he];exact Qo ih
    .refine Zs Ls (λrows hr=>?_)
     have hw:s.whole id off len=none:=by
      unfold St.whole;rw[hb,Ag,Ai (λh=>by rw[ho] at h;cases h.2.1)]
     simp only[hw,hb,ho,if_true];rw[hr,Ag];exact Qo ih
   .exact Zv
  .exact Zv
theorem Yvc:∀{xs:List (List V)} {s:St},KS (Yf2 xs s) (s.Br xs):=by
 intro xs
 induction xs with
 | nil=>intro s;exact Kg
 | cons x xs ih=>intro s;exact Hc Yyg λy=>Qo ih
end Go.Proofs.YthdljdelfgofdaaGreatDoor.Ev
namespace Go.Proofs.YthdljdelfgofdaaGreatDoor.Ev
open Go Go.RowKit KM
variable [Anchor]
section
variable {P:Program} {M:X9}
def Yke (ts:List (Option TypeId)) (x:V) (s:St):KM (V×St):=
 match x with
 | .agg cs=>AE (ZF ts cs s) λy=>ret (.agg y.1,y.2)
 | .ptr id 0 0=>AE (kS s ts id) λy=>ret (.CQ y.1,y.2)
 | x=>TK s (ts.headD none) x
theorem Y2c {s:St} {ts:List (Option TypeId)} {x:V}:KS (Yke ts x s) (s.BD ts x):=by
 unfold Yke;split
 .exact Qo zW
 .exact Qo Yji
 .rename_i _ h1 h2
  have:s.BD ts x=s.AB (ts.headD none) x:=by
   unfold St.BD;split<;>simp_all
  rw[this];exact kQ
def Yky (P:Program):List TypeId->List V->(s:St)->KM (List V×St)
 | _,[],s=>ret ([],s)
 | ts,x::r,s=>AE (Yke (Tz P (ts.headD 0)) x s) λy=>AE (Yky P ts.tail r y.2) λz=>ret (y.1::z.1,z.2)
theorem Y0j:∀{xs:List V} {s:St} {ts:List TypeId},KS (Yky P ts xs s) (s.liftAll P ts xs):=by
 intro xs
 induction xs with
 | nil=>intro s ts;exact Kg
 | cons x xs ih=>intro s ts;exact Hc Y2c λy=>Qo ih
def Rm (p:Nat):(k:Nat)->List V->(s:St)->KM (List V×St)
 | _,[],s=>ret ([],s)
 | k,x::r,s=>match x with
  | .own e rows=>AE (TJ s (0,64*p+k) 0 rows.length) λer=>if er.1=e then AE (Rm p (k+1) r (s.kill (0,64*p+k))) λz=>ret (.own er.1 er.2::z.1,z.2) else fail
  | _=>AE (Rm p (k+1) r s) λz=>ret (.undef::z.1,z.2)
theorem Yfk {p:Nat}:∀{xs:List V} {k:Nat} {s:St},KS (Rm p k xs s) (s.Ba p k xs):=by
 intro xs
 induction xs with
 | nil=>intro k s;exact Kg
 | cons x xs ih=>
  intro k s;cases x with
  | own e rows=>
   simp only[Rm,St.Ba];refine Zs kM (λer he=>?_);rw[he,Ag];refine Qh (λhx=>?_) (λ_=>Zv);rw[Ah hx];exact Qo ih
  | _=>
   simp only[Rm,St.Ba];exact Qo ih
def ME (p:Nat) (ts:List (Option TypeId)) (m:Yw) (x:V) (s:St):KM (V×St):=
 match m with
 | .rd|.mv=>ret (.undef,s)
 | .io=>match x with
  | .agg cs=>AE (kT s ts (0,64*p+63)) λy=>if y.1.length=cs.length then ret (.agg y.1,y.2) else fail
  | _=>fail
 | .EA=>match x with
  | .agg cs=>AE (Rm p 0 cs s) λy=>ret (.agg y.1,y.2)
  | x=>AE (Rm p 0 [x] s) λy=>AE (opt y.1.head?) λv=>ret (v,y.2)
theorem Xe3 {s:St} {p:Nat} {ts:List (Option TypeId)} {m:Yw} {x:V}:KS (ME p ts m x s) (s.out p ts m x):=by
 cases m
 .exact Kg
 .cases x with
  | agg cs=>
   simp only[ME,St.out];refine Zs Ygb (λy hy=>?_);rw[hy];simp only[Ag];refine Qh (λhx=>?_) (λ_=>Zv);rw[Ah hx];exact Yh rfl
  | _=>exact Zv
 .exact Kg
 .cases x with
  | agg cs=>exact Qo Yfk
  | _=>simp only[ME,St.out];exact Hc Yfk λy=>Qo Oo
def Y59 (P:Program):(p:Nat)->List TypeId->List Yw->List V->(s:St)->KM (List V)
 | _,_,_,[],s=>ret []
 | p,ts,ms,x::r,s=>AE (ME p (Tz P (ts.headD 0)) (ms.headD .rd) x s) λy=>AE (Y59 P (p+1) ts.tail ms.tail r y.2) λz=>ret (y.1::z)
theorem Xa6:∀{xs:List V} {s:St} {p:Nat} {ts:List TypeId} {ms:List Yw},KS (Y59 P p ts ms xs s) (s.outs P p ts ms xs):=by
 intro xs
 induction xs with
 | nil=>intro s p ts ms;exact Kg
 | cons x xs ih=>intro s p ts ms;exact Hc Xe3 λy=>Qo ih
def Rn (P:Program) (M:X9) (f:FuncId) (fn:Func) (xs:List V) (s:St):KM (V×List V):=
 AE (opt (GO P s fn.results.toList)) λvs=>AE (Yky P fn.resultTypes.toList vs s) λz=>AE (Y59 P 0 fn.params.toList (M.AV f) xs z.2) λos=>ret (VH z.1,os)
theorem Y3n {f:FuncId} {fn:Func} {xs:List V} {s:St}:KS (Rn P M f fn xs s) ((GO P s fn.results.toList).bind λvs=>(s.liftAll P fn.resultTypes.toList vs).bind λz=>(z.2.outs P 0 fn.params.toList (M.AV f) xs).map λos=>(VH z.1,os)):=
 Hc Oo λvs=>Hc Y0j λz=>Qo Xa6
def Y4s (P:Program) (M:X9) (s:St) (k:Nat) (g:FuncId) (args:List V):KM (V×St):=
 if args.length<=8 then AE (Ywd P (((P.funcs[g]?).map (·.params.toList)).getD []) (M.AV g) args s) λy=>AE (kP y.2 (M.AV g) y.1) λxs=>AE BV λo=>match o with
  | .res r os=>AE (B8 (Zq P M (g,xs,r,os))) λ_=>if ((P9 r||os.any HQ)&&!I5 (M.AV g) args)=true then fail else
   AE (Yy6 s.ep (M.AV g) (16*k+8) args os y.2) λs'=>opt (s'.BB s.ep (16*k) r)
  | _=>fail
 else fail
theorem Xbq (hP:We P) {s:St} {k:Nat} {g:FuncId} {args:List V}:KP (Y4s P M s k g args) (λy=>∃C,HX P M C/\KV P M C s k g args=some y):=by
 unfold Y4s;refine Qh (λh8=>?_) (λ_=>Zv);refine Zs Y9q (λy hy=>Zs Y9v (λxs hx=>Zs K2 (λo _=>?_)));split
 .rename_i r os
  refine Zs Yt (λ_ hf=>Qh (λ_=>Zv) (λht=>Zs Y95 (λs' hs=>FF.mono λz hz=>⟨one (g,xs,r,os),Re hP hf,?_⟩)));unfold KV;rw[Ah h8,hy,Ag,hx,Ag];have h1:one (g,xs,r,os) g xs=some (r,os):=by unfold one;rw[Ah ⟨rfl,rfl⟩]
  rw[h1,Ag];simp only;rw[Ai ht,hs,Ag,hz]
 .exact Zv
def Yv8 (s:St) (all:Bool) (x:V) (m:List (List V)) (lb:Bool):KM St:=
 match x with
 | .sl id off len=>if id.1=s.ep\/all=true then (if lb=true then AE (TJ s id off len) λer=>AE (B8 (er.2=m)) λ_=>ret (s.kill id) else match s.heap id with
   | some b=>if b.cl=false then AE (JH s (.sl id off len)) λrows=>AE (B8 (rows=m)) λ_=>AE (B8 (Fx m=lb)) λ_=>ret s else fail
   | none=>fail)
  else AE (JH s x) λrows=>AE (B8 (rows=m)) λ_=>AE (B8 (Fx m=lb)) λ_=>ret s
 | x=>AE (JH s x) λrows=>AE (B8 (rows=m)) λ_=>AE (B8 (Fx m=lb)) λ_=>ret s
theorem Y9y {s:St} {all:Bool} {x:V} {m:List (List V)} {lb:Bool}:KP (Yv8 s all x m lb) (λs1=>s.Ct all x=some (m,lb,s1)):=by
 unfold Yv8;split
 .rename_i id off len
  simp only[St.Ct];refine Qh (λhx=>Qh (λhl=>?_) (λ_=>?_)) (λhn=>?_)
  .refine Zs kM (λer he=>Zs Yt (λ_ hm=>Yh ?_))
   rw[Ah hx,he,hl];simp only[hm]
  .split
   .rename_i b hb
    refine Qh (λhc=>?_) (λ_=>Zv);refine Zs Ls (λrows hr=>Zs Yt (λ_ hm=>Zs Yt (λ_ hl=>Yh ?_)));have hw:s.whole id off len=none:=by
     unfold St.whole;rw[hb,Ag,Ai (λh=>by rw[hc] at h;cases h.2.2.1)]
    rw[Ah hx,hw,hr];simp only[DI,hm,hl]
   .exact Zv
  .refine Zs Ls (λrows hr=>Zs Yt (λ_ hm=>Zs Yt (λ_ hl=>Yh ?_)))
   rw[Ai hn,hr];simp only[DI,hm,hl]
 .rename_i _ Yj
  refine Zs Ls (λrows hr=>Zs Yt (λ_ hm=>Zs Yt (λ_ hl=>Yh ?_)));have:s.Ct all x=(s.rowsOf x).map λrows=>(rows,Fx rows,s):=by
   unfold St.Ct;split<;>simp_all
  rw[this,hr];simp only[DI,hm,hl]
def Ro (P:Program) (all:Bool) (s:St) (id:Id) (t:TypeId) (b x:V):KM (V×St):=
 AE (opt (Q0 P t)) λe=>AE BV λo=>match o with
 | .app m lb R n=>AE (Yv8 s all x m lb) λs1=>if Z5 P e≠0/\Mg P e=true then AE (B8 (Hv (Z5 P e) m=true)) λ_=>
  match b with
  | .lit (.slice none 0 0)=>AE (B8 (m.length*P.bytesOf e<=140737488355328/\m.length<=9223372036854775807)) λ_=>AE (B8 (m=R)) λ_=>AE (B8 (n=R.length)) λ_=>ret (.sl id 0 n,s1.A6 id ⟨false,true,lb,e,R⟩)
  | .sl i 0 len=>match s1.heap i with
   | some k=>if k.box=false/\k.own=true/\k.el=e then AE (B8 (len=k.rows.length)) λ_=>AE (B8 ((len+m.length)*P.bytesOf e<=140737488355328/\len+m.length<=9223372036854775807)) λ_=>
     AE (B8 (k.rows++m=R)) λ_=>AE (B8 (n=R.length)) λ_=>ret (.sl id 0 n,(s1.kill i).A6 id ⟨false,true,k.cl&&lb,e,R⟩) else fail
   | none=>fail
  | _=>fail
  else fail
 | _=>fail
theorem Xfd {all:Bool} {s:St} {id:Id} {t:TypeId} {b x:V}:KS (Ro P all s id t b x) (NF P all s id t b x):=by
 unfold Ro NF;refine Hc Oo λe=>Zs K2 (λo _=>?_);split
 .rename_i m lb R n
  refine Zs Y9y (λs1 hm=>Qh (λhz=>Zs Yt (λ_ ha=>?_)) (λ_=>Zv));rw[hm,Ag,Ah ⟨ha,hz.1,hz.2⟩];split
  .refine Zs Yt (λ_ h1=>Zs Yt (λ_ h2=>Zs Yt (λ_ h3=>Yh ?_)))
   rw[Ah h1,h3,h2];rfl
  .rename_i i len
   simp only;split
   .rename_i k hk
    refine Qh (λhx=>?_) (λ_=>Zv);refine Zs Yt (λ_ h0=>Zs Yt (λ_ h1=>Zs Yt (λ_ h2=>Zs Yt (λ_ h3=>Yh ?_))));rw[hk,Ag,Ah ⟨hx.1,hx.2.1,by omega,hx.2.2,h1⟩,h3,<-h2,I0,BW,h0]
   .exact Zv
  .exact Zv
 .exact Zv
def kV (c:Bool):KM Bool:=AE BV λo=>match o with
 | .t e=>AE (B8 (c=e)) λ_=>ret e
 | .k=>ret c
 | _=>fail
theorem Yx8 {c:Bool}:KP (kV c) (λe=>c=e):=by
 unfold kV;refine Zs K2 (λo _=>?_);split
 .exact Zs Yt (λ_ h=>Yh h)
 .exact Yh rfl
 .exact Zv
def Rp (p:Prop) [Decidable p]:KM Unit:=AE BV λo=>match o with
 | .k=>if p then ret () else fail
 | .B8=>B8 p
 | _=>fail
theorem ZG {p:Prop} [Decidable p]:KP (Rp p) (λ_=>p):=by
 unfold Rp;refine Zs K2 (λo _=>?_);split
 .exact Qh (λh=>Yh h) (λ_=>Zv)
 .exact Yt
 .exact Zv
def Y42 (op:BinOp) (k k':IntKind) (a b:Int):KM V:=
 match op with
 | .shl=>AE (Rp (0<=b)) λ_=>ret (.lit (.int k (k.wrap (a*2^min b.toNat k.bits))))
 | .shr=>AE (Rp (0<=b)) λ_=>ret (.lit (.int k (a.fdiv (2^min b.toNat k.bits))))
 | .quo=>if k=k' then AE (Rp (b≠0)) λ_=>ret (.lit (.int k (k.wrap (a.tdiv b)))) else fail
 | .rem=>if k=k' then AE (Rp (b≠0)) λ_=>ret (.lit (.int k (a.tmod b))) else fail
 | op=>opt (M3 op k k' a b)
theorem Xav {op:BinOp} {k k':IntKind} {a b:Int}:KS (Y42 op k k' a b) (M3 op k k' a b):=by
 unfold Y42;split
 .refine Zs ZG (λ_ h=>Yh ?_)
  simp only[M3];rw[Ai (by omega)]
 .refine Zs ZG (λ_ h=>Yh ?_)
  simp only[M3];rw[Ai (by omega)]
 .refine Qh (λhk=>Zs ZG (λ_ h=>Yh ?_)) (λ_=>Zv)
  simp only[M3];rw[Ah hk,Ai h]
 .refine Qh (λhk=>Zs ZG (λ_ h=>Yh ?_)) (λ_=>Zv)
  simp only[M3];rw[Ah hk,Ai h]
 .exact Oo
def Y6m (op:BinOp) (a b:ByteArray):KM V:=
 match op with
 | .add=>AE (Rp (¬((a.size+b.size:Nat):Int) > IntKind.i64.max)) λ_=>ret (.lit (.string (a++b)))
 | op=>opt (IY op a b)
theorem Xc2 {op:BinOp} {a b:ByteArray}:KS (Y6m op a b) (IY op a b):=by
 unfold Y6m;split
 .refine Zs ZG (λ_ h=>Yh ?_)
  simp only[IY];rw[Ai h]
 .exact Oo
def Dw (P:Program) (M:X9) (f:Operand->V) (s:St) (k:Nat) (o:Oper):KM (V×St):=
 match o.op with
 | .binOp op t x y yt=>match f x,f y with
  | .lit (.int k1 a),.lit (.int k2 b)=>AE (Y42 op k1 k2 a b) λv=>ret (v,s)
  | .lit (.string a),.lit (.string b)=>AE (Y6m op a b) λv=>ret (v,s)
  | .lit (.bool a),.lit (.bool b)=>match op,P.underlying t with
   | .eql,some .bool=>ret (.lit (.bool (a == b)),s)
   | .neq,some .bool=>ret (.lit (.bool (a != b)),s)
   | _,_=>fail
  | .agg xs,.agg ys=>if (EZ xs).isSome=true/\(EZ ys).isSome=true/\Rl P t xs=true then AE (opt (Gf xs ys)) λb=>match op with
   | .eql=>ret (.lit (.bool b),s)
   | .neq=>ret (.lit (.bool (!b)),s)
   | _=>fail
   else fail
  | a,.lit (.slice none 0 0)=>match a with
   | .sl ..|.tr _|.vw _=>if (Q0 P t).isSome=true then AE (JH s a) λrows=>AE (B8 (rows≠[])) λ_=>match op with
    | .eql=>ret (.lit (.bool false),s)
    | .neq=>ret (.lit (.bool true),s)
    | _=>fail
    else fail
   | _=>opt (Xn P M X4 f s k o)
  | _,_=>opt (Xn P M X4 f s k o)
 | .buildSlice t n parts=>AE (opt (Q0 P t)) λe=>AE (opt (if n*Z5 P e=0 then some [] else Fw P e)) λz=>
  if Z5 P e=0\/n*Z5 P e > 1048576\/Mg P e=false then fail else
  AE (opt (I2 P (λi=>some (i*Z5 P e,Z5 P e)) (List.replicate n z).flatten (parts.toList.map λp=>(p.1,f p.2)))) λcs=>
   AE (Yf2 (I3 (Z5 P e) n cs) s) λy=>ret (.sl (s.ep,1024*k) 0 n,y.2.2.A6 (s.ep,1024*k) ⟨false,true,y.2.1,e,y.1⟩)
 | .pick c a b=>match f c with
  | .lit (.bool t)=>AE (kV t) λe=>if e then ret (f a,s) else ret (f b,s)
  | _=>fail
 | .indexAddr t x ix=>AE (opt (Q0 P t)) λe=>if Z5 P e=0 then fail else AE BV λq=>match q with
  | .row n r=>if r.length=Z5 P e then AE (B8 (W1 (f ix)=some n)) λ_=>match f x with
   | .sl i off len=>AE (B8 (n < len)) λ_=>match s.heap i with
    | some b=>AE (B8 (b.rows[JG off n]?=some r)) λ_=>ret (.ptr i (JG off n) 0,s)
    | none=>fail
   | .tr rows=>AE (B8 (rows[n]?=some r)) λ_=>ret (.rp true r 0,s)
   | .vw rows=>AE (B8 (rows[n]?=some r)) λ_=>ret (.rp false r 0,s)
   | _=>fail
   else fail
  | _=>fail
 | .load t a=>match f a with
  | .ptr i j n=>match s.heap i with
   | some b=>match b.box with
    | true=>opt (Xn P M X4 f s k o)
    | false=>AE BV λq=>match q with
     | .cell row=>AE (B8 (b.rows[j]?=some row)) λ_=>if n+Z5 P t<=row.length then AE (opt (KT P t ((row.drop n).take (Z5 P t)))) λv=>ret (v,s) else fail
     | _=>fail
   | none=>fail
  | _=>opt (Xn P M X4 f s k o)
 | .store t a x=>match f a with
  | .ptr i j n=>match s.heap i with
   | some b=>match b.box with
    | true=>opt (Xn P M X4 f s k o)
    | false=>AE BV λq=>match q with
     | .put row R=>AE (B8 (b.rows[j]?=some row)) λ_=>AE (opt (Me (f x))) λcs=>if b.own=true/\cs.length=Z5 P t/\n+Z5 P t<=row.length/\Z5 P t≠0 then
       AE (MD cs s) λy=>match y.2.2.heap i with
        | some b=>AE (B8 (b.rows.set j (Ds row n y.1)=R)) λ_=>ret (.undef,y.2.2.A6 i ⟨b.box,b.own,b.cl&&y.2.1,b.el,R⟩)
        | none=>fail
       else fail
     | _=>fail
   | none=>fail
  | _=>fail
 | .slice t x lo hi none=>match f x with
  | .sl id off len=>AE BV λq=>match q with
   | .num l h n R=>AE (opt (Q0 P t)) λe=>AE (JH s (f x)) λrows=>AE (B8 (match lo with|some z=>W1 (f z)=some l|none=>l=0)) λ_=>AE (B8 (match hi with|some z=>W1 (f z)=some h|none=>rows.length=h)) λ_=>
    AE (B8 (l<=h/\h<=rows.length)) λ_=>AE (B8 (Hv (Z5 P e) rows=true)) λ_=>AE (B8 (n=h - l)) λ_=>if Z5 P e≠0 then ret (.sl id (JG off l) n,s) else fail
   | _=>fail
  | .tr _|.vw _=>AE BV λq=>match q with
   | .num l h n R=>AE (opt (Q0 P t)) λe=>AE (JH s (f x)) λrows=>AE (B8 (match lo with|some z=>W1 (f z)=some l|none=>l=0)) λ_=>AE (B8 (match hi with|some z=>W1 (f z)=some h|none=>rows.length=h)) λ_=>
    AE (B8 (l<=h/\h<=rows.length)) λ_=>AE (B8 (Hv (Z5 P e) rows=true)) λ_=>AE (B8 ((rows.drop l).take (h - l)=R)) λ_=>if Z5 P e≠0 then ret ((match f x with|.tr _=>.tr R|_=>.vw R),s) else fail
   | _=>fail
  | .lit (.string b)=>match P.underlying t with
   | some .string=>AE BV λq=>match q with
    | .val (.lit (.string c))=>AE (B8 (M4 b (lo.map f) (hi.map f)=some c)) λ_=>ret (.lit (.string c),s)
    | _=>fail
   | _=>fail
  | _=>opt (Xn P M X4 f s k o)
 | .index t x ix=>match f x with
  | .lit (.string b)=>match P.underlying t with
   | some .string=>AE BV λq=>match q with
    | .val (.lit (.int _ m))=>AE (B8 (IZ b (f ix)=some m)) λ_=>ret (.lit (.int .u8 m),s)
    | _=>fail
   | _=>fail
  | _=>opt (Xn P M X4 f s k o)
 | .convert src dst x=>match f x with
  | .sl ..|.tr _|.vw _=>match P.underlying src,P.underlying dst with
   | some (.slice e),some .string=>match P.underlying e with
    | some (.int .u8)=>AE (JH s (f x)) λrows=>AE BV λq=>match q with
     | .val (.lit (.string c))=>AE (B8 (M5 rows=some c)) λ_=>ret (.lit (.string c),s)
     | _=>fail
    | _=>fail
   | _,_=>fail
  | _=>opt (Xn P M X4 f s k o)
 | .makeSlice t l c=>AE BV λq=>match q with
  | .mk n R=>AE (opt (Q0 P t)) λe=>AE (opt (Fw P e)) λz=>AE (B8 (W1 (f l)=some n)) λ_=>AE (B8 (W1 (f c)=some n)) λ_=>AE (B8 (n*P.bytesOf e<=70368744177664/\n<=9223372036854775807)) λ_=>
   AE (B8 (List.replicate n (z.map Fa)=R)) λ_=>if z.length=Z5 P e/\Z5 P e≠0 then ret (.sl (s.ep,1024*k) 0 R.length,s.A6 (s.ep,1024*k) ⟨false,true,true,e,R⟩) else fail
  | _=>fail
 | .call c=>match c.callee with
  | .value g=>match f g with
   | .fn g Bv=>Y4s P M s k g (c.args.toList.map f++Bv)
   | _=>fail
  | .builtin .append=>match c.args.toList,c.argTypes.toList with
   | [b,x],[t,t']=>if t=t' then Ro P (M.mv o.pos) s (s.ep,1024*k) t (f b) (f x) else fail
   | _,_=>fail
  | .builtin .len=>match c.args.toList,c.argTypes.toList with
   | [x],[t]=>match f x with
    | .sl _ _ n=>AE BV λq=>match q with
     | .num m _ _ _=>AE (B8 (n=m)) λ_=>if (Q0 P t).isSome=true then ret (.lit (.int .i64 m),s) else fail
     | _=>fail
    | .tr rows|.vw rows=>AE BV λq=>match q with
     | .num m _ _ _=>AE (B8 (rows.length=m)) λ_=>if (Q0 P t).isSome=true then ret (.lit (.int .i64 m),s) else fail
     | _=>fail
    | _=>opt (Xn P M X4 f s k o)
   | _,_=>fail
  | .builtin .clear=>match c.args.toList,c.argTypes.toList with
   | [x],[t]=>AE (opt (Q0 P t)) λe=>AE (opt (Fw P e)) λz=>match f x with
    | .sl i off n=>match s.heap i with
     | some b=>AE BV λq=>match q with
      | .app R _ _ _=>if b.own=true/\b.box=false/\b.el=e/\z.length=Z5 P e/\Z5 P e≠0 then AE (B8 (off+n<=b.rows.length)) λ_=>
        AE (B8 (b.rows.take off++List.replicate n (z.map Fa)++b.rows.drop (off+n)=R)) λ_=>ret (.AX [],s.A6 i ⟨b.box,b.own,b.cl,b.el,R⟩) else fail
      | _=>fail
     | none=>fail
    | _=>fail
   | _,_=>fail
  | _=>opt (Xn P M X4 f s k o)
 | _=>opt (Xn P M X4 f s k o)
end
section
variable {P:Program} {M:X9}
def H4 (P:Program) (M:X9) (f:Operand->V) (s:St) (k:Nat) (o:Oper) (y:V×St):Prop:=∃C,HX P M C/\Xn P M C f s k o=some y
theorem Ib (hP:We P) {f:Operand->V} {s:St} {k:Nat} {o:Oper}:KP (opt (Xn P M X4 f s k o)) (H4 P M f s k o):=FF.mono λy h=>⟨X4,Wn hP,h⟩
theorem Y9g (hP:We P) {f:Operand->V} {s:St} {k:Nat} {d:Option Tmp} {ty t yt:TypeId} {pos:String} {af:Array Edge} {g:Option (Nat×Bool)} {op:BinOp} {x y:Operand}:KP (Dw P M f s k ⟨d,.binOp op t x y yt,ty,pos,af,g⟩) (H4 P M f s k ⟨d,.binOp op t x y yt,ty,pos,af,g⟩):=by
 have base:∀{v:V},Fh P op t x y (f x) (f y)=some v->(∃a b,f x=.lit a/\f y=.lit b)->Xn P M X4 f s k ⟨d,.binOp op t x y yt,ty,pos,af,g⟩=some (v,s):=λ{v} h ⟨a,b,h1,h2⟩=>by
  have e:Qj P f ⟨d,.binOp op t x y yt,ty,pos,af,g⟩=some v:=by rw[Y8d];exact h
  simp only[Xn,h1,h2,e,DI]
 have Ot:∀{v:V},Fh P op t x y (f x) (f y)=some v->(∃a b,f x=.agg a/\f y=.agg b)->Xn P M X4 f s k ⟨d,.binOp op t x y yt,ty,pos,af,g⟩=some (v,s):=λ{v} h ⟨a,b,h1,h2⟩=>by
  have e:Qj P f ⟨d,.binOp op t x y yt,ty,pos,af,g⟩=some v:=by rw[Y8d];exact h
  simp only[Xn,h1,h2,e,DI]
 simp only[Dw];split
 .rename_i k1 a k2 b h1 h2
  refine Zs Xav (λv hv=>Yh ⟨X4,Wn hP,base ?_ ⟨_,_,h1,h2⟩⟩);rw[h1,h2,Xcp];exact hv
 .rename_i a b h1 h2
  refine Zs Xc2 (λv hv=>Yh ⟨X4,Wn hP,base ?_ ⟨_,_,h1,h2⟩⟩);rw[h1,h2,Xcn];exact hv
 .rename_i a b h1 h2
  split
  .rename_i h3
   refine Yh ⟨X4,Wn hP,base ?_ ⟨_,_,h1,h2⟩⟩;rw[h1,h2,Xcj h3]
  .rename_i h3
   refine Yh ⟨X4,Wn hP,base ?_ ⟨_,_,h1,h2⟩⟩;rw[h1,h2,Xb6 h3]
  .exact Zv
 .rename_i xs ys h1 h2
  refine Qh (λhc=>Zs FF (λb hb=>?_)) (λ_=>Zv);split
  .exact Yh ⟨X4,Wn hP,Ot (by rw[h1,h2,Xam hc.1 hc.2.1 hc.2.2 hb]) ⟨_,_,h1,h2⟩⟩
  .exact Yh ⟨X4,Wn hP,Ot (by rw[h1,h2,Y98 hc.1 hc.2.1 hc.2.2 hb]) ⟨_,_,h1,h2⟩⟩
  .exact Zv
 .rename_i hy
  split
  all_goals first
   | exact Ib hP
   | (
     rename_i hx;refine Qh (λhe=>Zs Ls (λrows hr=>Zs Yt (λ_ hn=>?_))) (λ_=>Zv);obtain⟨r,l,rfl⟩:=List.exists_cons_of_ne_nil hn;have hf:¬(Q0 P t).isSome=false:=by rw[he];decide
     split
     .exact Yh ⟨X4,Wn hP,by simp only[Xn,hx,hy];rw[Ai hf];rw[hx] at hr;rw[hr]⟩
     .exact Yh ⟨X4,Wn hP,by simp only[Xn,hx,hy];rw[Ai hf];rw[hx] at hr;rw[hr]⟩
     .exact Zv)
 .exact Ib hP
theorem Yre (hP:We P) {f:Operand->V} {s:St} {k:Nat} {d:Option Tmp} {ty t:TypeId} {pos:String} {af:Array Edge} {g:Option (Nat×Bool)} {n:Nat} {parts:Array (Nat×Operand)}:KP (Dw P M f s k ⟨d,.buildSlice t n parts,ty,pos,af,g⟩) (H4 P M f s k ⟨d,.buildSlice t n parts,ty,pos,af,g⟩):=by
 simp only[Dw];refine Zs FF (λe he=>Zs FF (λz hz=>Qh (λ_=>Zv) (λhc=>Zs FF (λcs BQ=>Zs Yvc (λy hy=>Yh ⟨X4,Wn hP,?_⟩)))));simp only[Xn,he,Ag,hz];rw[Ai hc,BQ,Ag,hy];rfl
theorem Xau (hP:We P) {f:Operand->V} {s:St} {k:Nat} {d:Option Tmp} {ty:TypeId} {pos:String} {af:Array Edge} {g:Option (Nat×Bool)} {c a b:Operand}:KP (Dw P M f s k ⟨d,.pick c a b,ty,pos,af,g⟩) (H4 P M f s k ⟨d,.pick c a b,ty,pos,af,g⟩):=by
 simp only[Dw];split
 .rename_i t hc
  refine Zs Yx8 (λe he=>?_);subst he;cases t with
  | true=>exact Yh ⟨X4,Wn hP,by simp only[Xn,hc,if_true]⟩
  | false=>exact Yh ⟨X4,Wn hP,by simp only[Xn,hc,Bp,if_false]⟩
 .exact Zv
theorem Yt3 (hP:We P) {f:Operand->V} {s:St} {k:Nat} {d:Option Tmp} {ty t:TypeId} {pos:String} {af:Array Edge} {g:Option (Nat×Bool)} {x ix:Operand}:KP (Dw P M f s k ⟨d,.indexAddr t x ix,ty,pos,af,g⟩) (H4 P M f s k ⟨d,.indexAddr t x ix,ty,pos,af,g⟩):=by
 simp only[Dw];refine Zs FF (λe he=>Qh (λ_=>Zv) (λhz=>Zs K2 (λo _=>?_)));split
 .rename_i n r
  refine Qh (λhr=>Zs Yt (λ_ hn=>?_)) (λ_=>Zv);split
  .rename_i i off len hx
   refine Zs Yt (λ_ Ya=>?_);split
   .rename_i b hb
    refine Zs Yt (λ_ Xj=>Yh ⟨X4,Wn hP,?_⟩);rw[Y3q] at Xj ⊢;simp only[Xn,he,Ag,hz,if_false,hn,hx,Ya,if_true,hb,Xj,hr]
   .exact Zv
  .rename_i rows hx
   refine Zs Yt (λ_ Xj=>Yh ⟨X4,Wn hP,?_⟩);simp only[Xn,he,Ag,hz,if_false,hn,hx,if_true,Xj,hr]
  .rename_i rows hx
   refine Zs Yt (λ_ Xj=>Yh ⟨X4,Wn hP,?_⟩);simp only[Xn,he,Ag,hz,if_false,hn,hx,if_true,Xj,hr]
  .exact Zv
 .exact Zv
theorem Xc4 (hP:We P) {f:Operand->V} {s:St} {k:Nat} {d:Option Tmp} {ty t:TypeId} {pos:String} {af:Array Edge} {g:Option (Nat×Bool)} {a:Operand}:KP (Dw P M f s k ⟨d,.load t a,ty,pos,af,g⟩) (H4 P M f s k ⟨d,.load t a,ty,pos,af,g⟩):=by
 simp only[Dw];split
 .rename_i i j n ha
  split
  .rename_i b hb
   split
   .exact Ib hP
   .refine Zs K2 (λo _=>?_)
    split
    .rename_i row
     refine Zs Yt (λ_ Xj=>Qh (λhl=>Zs FF (λv hv=>Yh ⟨X4,Wn hP,?_⟩)) (λ_=>Zv));simp only[Xn,ha,hb,Ag,Xj,hl,if_true,hv,DI]
    .exact Zv
  .exact Zv
 .exact Ib hP
theorem Y72 (hP:We P) {f:Operand->V} {s:St} {k:Nat} {d:Option Tmp} {ty t:TypeId} {pos:String} {af:Array Edge} {g:Option (Nat×Bool)} {a x:Operand}:KP (Dw P M f s k ⟨d,.store t a x,ty,pos,af,g⟩) (H4 P M f s k ⟨d,.store t a x,ty,pos,af,g⟩):=by
 simp only[Dw];split
 .rename_i i j n ha
  split
  .rename_i b hb
   split
   .exact Ib hP
   .rename_i Ge
    refine Zs K2 (λo _=>?_);split
    .rename_i row R
     refine Zs Yt (λ_ Xj=>Zs FF (λcs BQ=>Qh (λhc=>Zs Yyg (λy hy=>?_)) (λ_=>Zv)));split
     .rename_i b2 DT
      refine Zs Yt (λ_ hR=>Yh ⟨X4,Wn hP,?_⟩);have PB:b.own=true/\cs.length=Z5 P t/\n+Z5 P t<=row.length/\Z5 P t≠0:=hc;simp only[Xn,ha,hb,Ag,Xj,BQ];rw[Ah PB,Ge];simp only[Bp,if_false,hy,Ag,DT,hR]
     .exact Zv
    .exact Zv
  .exact Zv
 .exact Zv
def Ywb (x:V) (l h:Nat):Option V:=match x with
 | .sl id off _=>some (.sl id (off+l) (h - l))
 | .tr rows=>some (.tr ((rows.drop l).take (h - l)))
 | .vw rows=>some (.vw ((rows.drop l).take (h - l)))
 | _=>none
theorem Yaa {s:St} {t e:TypeId} {x:V} {rows:List (List V)} {lo hi:Option Operand} {f:Operand->V} {l h:Nat} (he:Q0 P t=some e) (hr:s.rowsOf x=some rows) (hl:match lo with|some z=>W1 (f z)=some l|none=>l=0) (hh:match hi with|some z=>W1 (f z)=some h|none=>rows.length=h)
  (h1:l<=h/\h<=rows.length) (h2:Hv (Z5 P e) rows=true) (h3:Z5 P e≠0):NG P s t x (lo.map f) (hi.map f)=Ywb x l h:=by
 have key:∀(a b:Option Nat),a=some l->b=some h->(a.bind λl=>b.bind λh=>if l<=h/\h<=rows.length/\Hv (Z5 P e) rows=true/\Z5 P e≠0 then Ywb x l h else none)=Ywb x l h:=by
  rintro _ _ rfl rfl;simp only[Ag];rw[Ah ⟨h1.1,h1.2,h2,h3⟩]
 unfold NG;rw[he,Ag,hr,Ag];refine key _ _ ?_ ?_
 .cases lo with
  | none=>simp only at hl;rw[hl];rfl
  | some z=>exact hl
 .cases hi with
  | none=>simp only at hh;rw[<-hh];rfl
  | some z=>exact hh
theorem Y9b (hP:We P) {f:Operand->V} {s:St} {k:Nat} {d:Option Tmp} {ty t:TypeId} {pos:String} {af:Array Edge} {g:Option (Nat×Bool)} {x:Operand} {lo hi mx:Option Operand}:KP (Dw P M f s k ⟨d,.slice t x lo hi mx,ty,pos,af,g⟩) (H4 P M f s k ⟨d,.slice t x lo hi mx,ty,pos,af,g⟩):=by
 cases mx with
 | some m=>exact Ib hP
 | none=>
  simp only[Dw];split
  .rename_i id off len hx
   refine Zs K2 (λo _=>?_);split
   .rename_i l h n R
    refine Zs FF (λe he=>Zs Ls (λrows hr=>Zs Yt (λ_ hl=>Zs Yt (λ_ hh=>Zs Yt (λ_ h1=>Zs Yt (λ_ h2=>Zs Yt (λ_ h4=>Qh (λh3=>Yh ⟨X4,Wn hP,?_⟩) (λ_=>Zv))))))));simp only[Xn,Yaa he hr hl hh h1 h2 h3];rw[hx,h4,Y3q];rfl
   .exact Zv
  .rename_i rws hx
   refine Zs K2 (λo _=>?_);split
   .rename_i l h n R
    refine Zs FF (λe he=>Zs Ls (λrows hr=>Zs Yt (λ_ hl=>Zs Yt (λ_ hh=>Zs Yt (λ_ h1=>Zs Yt (λ_ h2=>Zs Yt (λ_ h4=>Qh (λh3=>Yh ⟨X4,Wn hP,?_⟩) (λ_=>Zv))))))));simp only[Xn,Yaa he hr hl hh h1 h2 h3];rw[hx] at hr ⊢;have:rws=rows:=by simpa [St.rowsOf] using hr
    rw[<-h4,<-this];rfl
   .exact Zv
  .rename_i rws hx
   refine Zs K2 (λo _=>?_);split
   .rename_i l h n R
    refine Zs FF (λe he=>Zs Ls (λrows hr=>Zs Yt (λ_ hl=>Zs Yt (λ_ hh=>Zs Yt (λ_ h1=>Zs Yt (λ_ h2=>Zs Yt (λ_ h4=>Qh (λh3=>Yh ⟨X4,Wn hP,?_⟩) (λ_=>Zv))))))));simp only[Xn,Yaa he hr hl hh h1 h2 h3];rw[hx] at hr ⊢;have:rws=rows:=by simpa [St.rowsOf] using hr
    rw[<-h4,<-this];rfl
   .exact Zv
  .rename_i b hx
   split
   .rename_i ht
    refine Zs K2 (λq _=>?_);split
    .rename_i c
     refine Zs Yt (λ_ hc=>Yh ⟨X4,Wn hP,?_⟩);simp only[Xn,hx,Y9j ht hx hc,DI]
    .exact Zv
   .exact Zv
  .exact Ib hP
theorem Y8y (hP:We P) {f:Operand->V} {s:St} {k:Nat} {d:Option Tmp} {ty t:TypeId} {pos:String} {af:Array Edge} {g:Option (Nat×Bool)} {x ix:Operand}:KP (Dw P M f s k ⟨d,.index t x ix,ty,pos,af,g⟩) (H4 P M f s k ⟨d,.index t x ix,ty,pos,af,g⟩):=by
 simp only[Dw];split
 .rename_i b hx
  split
  .rename_i ht
   refine Zs K2 (λq _=>?_);split
   .rename_i k' m
    refine Zs Yt (λ_ hm=>Yh ⟨X4,Wn hP,?_⟩);simp only[Xn,Xbk ht hx hm,DI]
   .exact Zv
  .exact Zv
 .exact Ib hP
theorem Y2v (hP:We P) {f:Operand->V} {s:St} {k:Nat} {d:Option Tmp} {ty src dst:TypeId} {pos:String} {af:Array Edge} {g:Option (Nat×Bool)} {x:Operand}:KP (Dw P M f s k ⟨d,.convert src dst x,ty,pos,af,g⟩) (H4 P M f s k ⟨d,.convert src dst x,ty,pos,af,g⟩):=by
 simp only[Dw];split
 all_goals first
  | exact Ib hP
  | (
    rename_i hx;split
    .rename_i e h1 h2
     split
     .rename_i h3
      refine Zs Ls (λrows hr=>Zs K2 (λq _=>?_));split
      .rename_i c
       refine Zs Yt (λ_ hc=>Yh ⟨X4,Wn hP,?_⟩);unfold M5 at hc;obtain⟨bs,hb,hc⟩:=AM.1 hc;rw[hx] at hr;simp only[Xn,hx,h1,h2,h3,hr,hb,Ag,DI,hc]
      .exact Zv
     .exact Zv
    .exact Zv)
theorem Ytw (hP:We P) {f:Operand->V} {s:St} {k:Nat} {d:Option Tmp} {ty t:TypeId} {pos:String} {af:Array Edge} {g:Option (Nat×Bool)} {l c:Operand}:KP (Dw P M f s k ⟨d,.makeSlice t l c,ty,pos,af,g⟩) (H4 P M f s k ⟨d,.makeSlice t l c,ty,pos,af,g⟩):=by
 simp only[Dw];refine Zs K2 (λo _=>?_);split
 .rename_i n R
  refine Zs FF (λe he=>Zs FF (λz hz=>Zs Yt (λ_ hl=>Zs Yt (λ_ hc=>Zs Yt (λ_ h1=>Zs Yt (λ_ hR=>Qh (λh2=>Yh ⟨X4,Wn hP,?_⟩) (λ_=>Zv)))))));simp only[Xn,he,hz,Ag,hl,hc];rw[Ah ⟨by trivial,h1.1,h1.2,h2.1,h2.2⟩,hR,<-hR,iE]
 .exact Zv
theorem Xbc (hP:We P) {f:Operand->V} {s:St} {k:Nat} {d:Option Tmp} {ty:TypeId} {pos:String} {af:Array Edge} {g:Option (Nat×Bool)} {c:Call}:KP (Dw P M f s k ⟨d,.call c,ty,pos,af,g⟩) (H4 P M f s k ⟨d,.call c,ty,pos,af,g⟩):=by
 simp only[Dw];split
 .rename_i x hc
  split
  .rename_i h Bv hx
   refine (Xbq hP).mono λy ⟨C,h1,h2⟩=>⟨C,h1,?_⟩;simp only[Xn,hc,hx,h2]
  .exact Zv
 .rename_i hc
  split
  .rename_i b x t t' ha ht
   refine Qh (λhe=>Xfd.kp.mono λy hy=>⟨X4,Wn hP,?_⟩) (λ_=>Zv);simp only[Xn,hc,ha,ht,he,if_true];rw[<-he];exact hy
  .exact Zv
 .rename_i hc
  split
  .rename_i x t ha ht
   split
   .rename_i i off n hx
    refine Zs K2 (λo _=>?_);split
    .refine Zs Yt (λ_ hn=>Qh (λhe=>Yh ⟨X4,Wn hP,?_⟩) (λ_=>Zv))
     simp only[Xn,hc,ha,ht,hx,he,if_true,hn]
    .exact Zv
   .rename_i rows hx
    refine Zs K2 (λo _=>?_);split
    .refine Zs Yt (λ_ hn=>Qh (λhe=>Yh ⟨X4,Wn hP,?_⟩) (λ_=>Zv))
     simp only[Xn,hc,ha,ht,hx,he,if_true,hn]
    .exact Zv
   .rename_i rows hx
    refine Zs K2 (λo _=>?_);split
    .refine Zs Yt (λ_ hn=>Qh (λhe=>Yh ⟨X4,Wn hP,?_⟩) (λ_=>Zv))
     simp only[Xn,hc,ha,ht,hx,he,if_true,hn]
    .exact Zv
   .exact Ib hP
  .exact Zv
 .rename_i hc
  split
  .rename_i x t ha ht
   refine Zs FF (λe he=>Zs FF (λz hz=>?_));split
   .rename_i i off n hx
    split
    .rename_i b hb
     refine Zs K2 (λo _=>?_);split
     .refine Qh (λh=>Zs Yt (λ_ h1=>Zs Yt (λ_ h2=>Yh ⟨X4,Wn hP,?_⟩))) (λ_=>Zv)
      simp only[Xn,hc,ha,ht,hx,he,hz,hb,Ag];rw[Ah ⟨h.1,h.2.1,h1,h.2.2.1,h.2.2.2.1,h.2.2.2.2⟩,h2]
     .exact Zv
    .exact Zv
   .exact Zv
  .exact Zv
 .exact Ib hP
theorem Y9e (hP:We P) {f:Operand->V} {s:St} {k:Nat} {o:Oper}:KP (Dw P M f s k o) (H4 P M f s k o):=by
 obtain⟨d,op,ty,pos,af,g⟩:=o;cases op with
 | binOp op t x y yt=>exact Y9g hP
 | pick c a b=>exact Xau hP
 | buildSlice t n parts=>exact Yre hP
 | indexAddr t x ix=>exact Yt3 hP
 | load t a=>exact Xc4 hP
 | store t a x=>exact Y72 hP
 | slice t x lo hi mx=>exact Y9b hP
 | makeSlice t l c=>exact Ytw hP
 | index t x ix=>exact Y8y hP
 | convert src dst x=>exact Y2v hP
 | call c=>exact Xbc hP
 | _=>simp only[Dw];exact Ib hP
def kW (s:St) (ops:Array Oper) (o:Oper):KM (Bool×St):=
 match o.guard with
 | none=>ret (true,s)
 | some (j,b)=>match (ops[j]?).bind (·.dst) with
  | some d=>match s.env d with
   | .lit (.bool c)=>AE BV λo=>match o with
    | .t e=>AE (B8 (c=e)) λ_=>ret (e == b,⟨Bm s.env d (.lit (.bool e)),s.heap,s.ep⟩)
    | .k=>ret (c == b,s)
    | _=>fail
   | .AX []=>ret (false,s)
   | _=>fail
  | none=>fail
theorem Yrs {s:St} {ops:Array Oper} {o:Oper}:KP (kW s ops o) (λy=>wanted s ops o=some y.1/\y.2=s):=by
 unfold kW wanted;cases o.guard with
 | none=>exact Yh ⟨rfl,rfl⟩
 | some p=>
  obtain⟨j,b⟩:=p;simp only;cases hd:(ops[j]?).bind (·.dst) with
  | none=>exact Zv
  | some d=>
   simp only[DI];cases he:s.env d with
   | lit v=>cases v with
    | bool c=>
     refine Zs K2 (λq _=>?_);cases q with
     | t e=>
      refine Zs Yt (λ_ hc=>Yh ⟨by subst hc;rfl,?_⟩);have:Bm s.env d (.lit (.bool e))=s.env:=by
       funext t
       unfold Bm;split
       .rename_i h;rw[h,he,hc]
       .rfl
      rw[this]
     | k=>exact Yh ⟨rfl,rfl⟩
     | _=>exact Zv
    | _=>exact Zv
   | AX l=>cases l with
    | nil=>exact Yh ⟨rfl,rfl⟩
    | cons x l=>exact Zv
   | _=>exact Zv
def JI (P:Program) (M:X9) (ops:Array Oper):(k:Nat)->List Oper->(s:St)->KM St
 | _,[],s=>ret s
 | k,o::rest,s=>AE (kW s ops o) λg=>if g.1 then AE (Dw P M g.2.AQ g.2 k o) λy=>JI P M ops (k+1) rest (y.2.put o.dst y.1) else JI P M ops (k+1) rest (g.2.put o.dst (.AX []))
theorem Y1v {C C':Nat->Kr} {ops:Array Oper}:∀(l:List Oper) {k:Nat} {s:St},(∀j,k<=j->C j=C' j)->Gb P M C ops s k l=Gb P M C' ops s k l:=by
 intro l
 induction l with
 | nil=>intros;rfl
 | cons o l ih=>
  intro k s h;simp only[Gb,h k (B2 _)];simp only[λs=>ih (k:=k+1) (s:=s) (λj hj=>h j (by omega))]
theorem Yy4 {C C':Nat->Kr} {ops:Array Oper}:∀(l:List Oper) {k:Nat} {s:St} {recs:List Rec},(∀j,k<=j->C j=C' j)->Fy P M C ops s recs k l=Fy P M C' ops s recs k l:=by
 intro l
 induction l with
 | nil=>intros;rfl
 | cons o l ih=>
  intro k s recs h;simp only[Fy,h k (B2 _)];simp only[λs recs=>ih (k:=k+1) (s:=s) (recs:=recs) (λj hj=>h j (by omega))]
def Ou (C:Nat->Kr) (k:Nat) (D:Kr):Nat->Kr:=λj=>if j=k then D else C j
theorem Xer (hP:We P) {ops:Array Oper}:∀(l:List Oper) {k:Nat} {s:St},KP (JI P M ops k l s) (λs'=>∃C:Nat->Kr,(∀j,HX P M (C j))/\Gb P M C ops s k l=some s'):=by
 intro l
 induction l with
 | nil=>intro k s;exact Yh ⟨λ_=>X4,λ_=>Wn hP,rfl⟩
 | cons o l ih=>
  intro k s;simp only[JI,Gb];refine Zs Yrs (λg hg=>?_);obtain⟨g,s0⟩:=g;obtain⟨hg,Qr⟩:=hg;simp only at hg Qr;subst Qr;cases g with
  | true=>
   simp only[if_true];refine Zs (Y9e hP) (λy hy=>ih.mono λs' ⟨C,h1,h2⟩=>?_);obtain⟨D,d1,d2⟩:=hy;refine⟨Ou C k D,λj=>?_,?_⟩
   .unfold Ou;split
    .exact d1
    .exact h1 j
   .rw[hg]
    simp only[Ag,if_true,Ou];unfold I6;rw[d2,Ag,<-h2];exact Y1v l (λj hj=>by simp only[Ou];rw[Ai (by omega)])
  | false=>
   simp only[Bp,if_false];refine ih.mono λs' ⟨C,h1,h2⟩=>⟨C,h1,?_⟩;rw[hg];exact h2
def ZH (P:Program) (M:X9) (ops:Array Oper):(recs:List Rec)->(k:Nat)->List Oper->(s:St)->KM St
 | _,_,[],s=>ret s
 | recs,k,o::rest,s=>AE (kW s ops o) λg=>if g.1 then (if Mh ops g.2.ep recs (KW recs o) k o (BZ g.2 o) (I7 M g.2.AQ o)=true then
   AE (Dw P M g.2.AQ (g.2.only (BZ g.2 o)) k o) λy=>ZH P M ops (recs++[⟨KW recs o,BZ g.2 o,I7 M g.2.AQ o⟩]) (k+1) rest ((g.2.merge k (BZ g.2 o) (I7 M g.2.AQ o) y.2).put o.dst y.1) else fail)
  else if Mh ops g.2.ep recs (KW recs o) k o [] false=true then ZH P M ops (recs++[⟨KW recs o,[],false⟩]) (k+1) rest (g.2.put o.dst (.AX [])) else fail
theorem Xba (hP:We P) {ops:Array Oper}:∀(l:List Oper) {k:Nat} {s:St} {recs:List Rec},KP (ZH P M ops recs k l s) (λs'=>∃C:Nat->Kr,(∀j,HX P M (C j))/\Fy P M C ops s recs k l=some s'):=by
 intro l
 induction l with
 | nil=>intro k s recs;exact Yh ⟨λ_=>X4,λ_=>Wn hP,rfl⟩
 | cons o l ih=>
  intro k s recs;simp only[ZH,Fy];refine Zs Yrs (λg hg=>?_);obtain⟨g,s0⟩:=g;obtain⟨hg,Qr⟩:=hg;simp only at hg Qr;subst Qr;cases g with
  | true=>
   simp only[if_true];refine Qh (λha=>Zs (Y9e hP) (λy hy=>ih.mono λs' ⟨C,h1,h2⟩=>?_)) (λ_=>Zv);obtain⟨D,d1,d2⟩:=hy;refine⟨Ou C k D,λj=>?_,?_⟩
   .unfold Ou;split
    .exact d1
    .exact h1 j
   .rw[hg]
    simp only[Ag,if_true,Ou,ha];rw[d2,Ag,<-h2];exact Yy4 l (λj hj=>by simp only[Ou];rw[Ai (by omega)])
  | false=>
   simp only[Bp,if_false];refine Qh (λha=>ih.mono λs' ⟨C,h1,h2⟩=>⟨C,h1,?_⟩) (λ_=>Zv);rw[hg];simp only[Ag,Bp,if_false,ha,if_true];exact h2
end
inductive It where
 | c (x:Code)
 | Bn (i:Nat)
def SX (P:Program) (R:Ex->St->Prop):List It->Ex->St->Prop
 | [],e,s=>R e s
 | .c x::k,.normal,s=>Cx P x s (λe s=>SX P R k e s)
 | .c x::k,.ret,s=>SX P R k .ret s
 | .c x::k,.exit j,s=>SX P R k (.exit j) s
 | .Bn i::k,.exit j,s=>if j=i then SX P R k .normal s else SX P R k (.exit j) s
 | .Bn i::k,.normal,s=>SX P R k .normal s
 | .Bn i::k,.ret,s=>SX P R k .ret s
structure Res where
 BL:List It
 ex:Ex
 st:St
def El (P:Program) (M:X9):(n:Nat)->List It->Ex->(s:St)->KM Res
 | 0,BL,ex,s=>ret ⟨BL,ex,s⟩
 | n+1,BL,ex,s=>match BL with
  | []=>ret ⟨[],ex,s⟩
  | .Bn i::k=>match ex with
   | .exit j=>if j=i then El P M n k .normal s else El P M n k (.exit j) s
   | .normal=>El P M n k .normal s
   | .ret=>El P M n k .ret s
  | .c x::k=>match ex with
   | .ret=>El P M n k .ret s
   | .exit j=>El P M n k (.exit j) s
   | .normal=>match x with
    | .skip=>El P M n k .normal s
    | .ret=>El P M n k .ret s
    | .exit i=>El P M n k (.exit i) s
    | .seq a b=>El P M n (.c a::.c b::k) .normal s
    | .cond c a b=>match s.AQ c with
     | .lit (.bool t)=>AE (kV t) λe=>if e then El P M n (.c a::k) .normal s else El P M n (.c b::k) .normal s
     | _=>fail
    | .block i c=>El P M n (.c c::.Bn i::k) .normal s
    | .loop c=>El P M n (.c c::.c (.loop c)::k) .normal s
    | .region _ ops d=>match d with
     | false=>AE (JI P M ops 0 ops.toList ⟨s.env,s.heap,s.ep+1⟩) λs'=>El P M n k .normal s'
     | true=>if Region.noSelect ops=true then AE (ZH P M ops [] 0 ops.toList ⟨s.env,s.heap,s.ep+1⟩) λs'=>El P M n k .normal s' else fail
    | _=>fail
section
variable {P:Program} {M:X9} {R:Ex->St->Prop}
theorem Xfg (M:X9) (hP:We P) {k:List It} {S:St} {i:Nat} {d0 d1:Tmp} {x0 y:Operand} {t yt e Rg Ln:TypeId} {p0 p1:String} {Rh Lo:Array Edge} (Q6:Q0 P t=some e) (hx:S.AQ x0=.tr []) (hy:(({S with ep:=S.ep+1}:St).put (some d0) (.tr [])).AQ y=.lit (.slice none 0 0))
  (h:∀b,SX P R k .normal ((({S with ep:=S.ep+1}:St).put (some d0) (.tr [])).put (some d1) (.lit (.bool b)))):
  SX P R (.c (.region i #[⟨some d0,.move x0,Rg,p0,Rh,none⟩,⟨some d1,.binOp .eql t (.tmp d0) y yt,Ln,p1,Lo,none⟩] false)::k) .normal S:=
 Xfh M hP (R:=λe s=>SX P R k e s) Q6 hx hy h
def Xao:List It->Option (Operand×Tmp×Tmp×TypeId×Operand×List It)
 | .c (.region _ ops false)::k=>match ops.toList with
  | [⟨some d0,.move x0,_,_,_,none⟩,⟨some d1,.binOp .eql t (.tmp d) y _,_,_,_,none⟩]=>if d=d0 then some (x0,d0,d1,t,y,k) else none
  | _=>none
 | _=>none
theorem kX (M:X9) (hP:We P) {BL k:List It} {S:St} {d0 d1:Tmp} {x0 y:Operand} {t e:TypeId} (hs:Xao BL=some (x0,d0,d1,t,y,k)) (Q6:Q0 P t=some e) (hx:S.AQ x0=.tr []) (hy:(({S with ep:=S.ep+1}:St).put (some d0) (.tr [])).AQ y=.lit (.slice none 0 0))
  (h:∀b,SX P R k .normal ((({S with ep:=S.ep+1}:St).put (some d0) (.tr [])).put (some d1) (.lit (.bool b)))):SX P R BL .normal S:=by
 unfold Xao at hs;split at hs
 .rename_i i ops k'
  split at hs
  .rename_i c0 z0 Rg p0 Rh c1 u d z yt Ln p1 Lo hl
   split at hs
   .rename_i hd
    simp only[AF,A7] at hs;obtain⟨rfl,rfl,rfl,rfl,rfl,rfl⟩:=hs;subst hd;obtain rfl:ops=#[⟨some d,.move z0,Rg,p0,Rh,none⟩,⟨some c1,.binOp .eql u (.tmp d) z yt,Ln,p1,Lo,none⟩]:=by
     apply Array.toList_inj.1;rw[hl]
    exact Xfg M hP Q6 hx hy h
   .cases hs
  .cases hs
 .cases hs
theorem Xe9 (hP:We P):∀(n:Nat) {BL:List It} {ex:Ex} {s:St},KP (El P M n BL ex s) (λr=>SX P R r.BL r.ex r.st->SX P R BL ex s):=by
 intro n
 induction n with
 | zero=>intro BL ex s;exact Yh id
 | succ n ih=>
  intro BL ex s;simp only[El];split
  .exact Yh id
  .rename_i i k
   split
   .rename_i j
    refine Qh (λhj=>ih.mono λr hr h=>?_) (λhj=>ih.mono λr hr h=>?_)
    .simp only[SX];rw[Ah hj];exact hr h
    .simp only[SX];rw[Ai hj];exact hr h
   .exact ih.mono λr hr h=>hr h
   .exact ih.mono λr hr h=>hr h
  .rename_i x k
   split
   .exact ih.mono λr hr h=>hr h
   .exact ih.mono λr hr h=>hr h
   .split
    .exact ih.mono λr hr h=>Xfn (hr h)
    .exact ih.mono λr hr h=>Rb (hr h)
    .exact ih.mono λr hr h=>Xe4 (hr h)
    .refine ih.mono λr hr h=>Rc (zD (hr h) λe s h=>?_)
     cases e<;>exact h
    .rename_i c a b
     split
     .rename_i t hc
      refine Zs Yx8 (λe he=>?_);subst he;cases t with
      | true=>exact ih.mono λr hr h=>Y3t hc (hr h)
      | false=>exact ih.mono λr hr h=>Y3t hc (hr h)
     .exact Zv
    .rename_i i c
     refine ih.mono λr hr h=>Xcq (zD (hr h) λe s h=>?_);cases e<;>exact h
    .rename_i c
     refine ih.mono λr hr h=>Xd1 (zD (hr h) λe s h=>?_);cases e<;>exact h
    .rename_i i ops d
     split
     .refine Zs (Xer hP _) (λs' hs=>ih.mono λr hr h=>?_)
      obtain⟨C,h1,h2⟩:=hs;exact Rf hP C h1 h2 (hr h)
     .refine Qh (λhn=>Zs (Xba hP _) (λs' hs=>ih.mono λr hr h=>?_)) (λ_=>Zv)
      obtain⟨C,h1,h2⟩:=hs;exact Xfm hP C h1 hn h2 (hr h)
    .exact Zv
theorem Yxq (hP:We P) (n:Nat) {BL:List It} {ex:Ex} {s:St}:KP (El P M n BL ex s) (λr=>∀R,SX P R r.BL r.ex r.st->SX P R BL ex s):=λq a EG q' e ho R=>Xe9 hP n q a EG q' e ho
def ZI (P:Program) (M:X9) (f:FuncId) (fn:Func) (xs:List V) (r:Res):KM (V×List V):=match r.BL with
 | []=>match r.ex with
  | .exit _=>fail
  | .normal=>Rn P M f fn xs r.st
  | .ret=>Rn P M f fn xs r.st
 | _=>fail
def runK (P:Program) (M:X9) (f:FuncId) (fn:Func) (xs:List V) (n:Nat) (BL:List It) (s:St):KM (V×List V):=
 AE (El P M n BL .normal s) (ZI P M f fn xs)
theorem Xe0 (hP:We P) {f:FuncId} {fn:Func} {xs:List V} {n:Nat} {BL:List It} {s:St}:KP (runK P M f fn xs n BL s) (λy=>SX P (Rj P M f fn xs y) BL .normal s):=by
 refine Zs (Yxq hP n) (λr hr=>?_);obtain⟨st,ex,s1⟩:=r;unfold ZI;cases st with
 | cons x l=>exact Zv
 | nil=>cases ex with
  | exit i=>exact Zv
  | normal=>exact Y3n.kp.mono λy hy=>hr _ ⟨trivial,hy⟩
  | ret=>exact Y3n.kp.mono λy hy=>hr _ ⟨trivial,hy⟩
def Ov {α:Type} (x:Option (α×List Prop×List O)):Option (Prop×α):=match x with|some (a,EG,[])=>some (On EG,a)|_=>none
theorem Y3b {α:Type} {x:KM α} {q:List O} {Q:α->Prop} {p:Prop} {a:α} (h:KP x Q) (e:Ov (x q)=some (p,a)) (hp:p):Q a:=by
 unfold Ov at e;split at e
 .rename_i b EG hx
  injection e with e;injection e with e1 e2;subst e2;exact h q _ _ _ hx (by rw[e1];exact hp)
 .cases e
theorem Y3g (hP:We P) {f:FuncId} {fn:Func} {xs:List V} {y:V×List V} {BL:List It} {s:St} {p:Prop} (n:Nat) (q:List O) (hp:p) (e:Ov (runK P M f fn xs n BL s q)=some (p,y)):SX P (Rj P M f fn xs y) BL .normal s:=
 Y3b (x:=runK P M f fn xs n BL s) (Q:=λy=>SX P (Rj P M f fn xs y) BL .normal s) (Xe0 hP) e hp
def EH (f:List (Id×Id)):V->V
 | .ptr id i off=>match Di f id with|some Ax=>.ptr Ax i off|none=>.undef
 | .sl id off len=>match Di f id with|some Ax=>.sl Ax off len|none=>(match off,len with|0,0=>.lit (.slice none 0 0)|_,_=>.undef)
 | .lit v=>.lit v
 | .tr rows=>.tr rows
 | .vw rows=>.vw rows
 | .rp sh row off=>.rp sh row off
 | _=>.undef
def MF (f:List (Id×Id)):V->V
 | .agg xs=>.agg (xs.map (EH f))
 | .AX xs=>.AX (xs.map (EH f))
 | .fn g xs=>.fn g (xs.map (EH f))
 | x=>EH f x
theorem Yqu {f:List (Id×Id)} {x:V} (h:EH f x≠.undef\/x=.undef):Dj f x (EH f x):=by
 cases x with
 | undef=>trivial
 | ptr id i off=>
  simp only[EH] at h ⊢;split
  .rename_i Ax hr;exact⟨hr,rfl,rfl⟩
  .rename_i hr;rw[hr] at h;simp at h
 | sl id off len=>
  simp only[EH] at h ⊢;split
  .rename_i Ax hr;exact⟨hr,rfl,rfl⟩
  .rename_i hr
   rw[hr] at h;simp only at h;split
   .exact⟨hr,rfl,rfl⟩
   .rename_i Yj
    exfalso;split at h
    .rename_i h1 h2;exact Yj rfl rfl
    .simp at h
 | lit v=>rfl
 | tr rows=>rfl
 | vw rows=>rfl
 | rp sh row off=>rfl
 | agg _=>simp[EH] at h
 | AX _=>simp[EH] at h
 | fn _ _=>simp[EH] at h
 | own _ _=>simp[EH] at h
 | CQ _=>simp[EH] at h
def ZJ:V->Bool|.undef=>false|_=>true
theorem Rq {x:V} (h:ZJ x=true):x≠.undef:=by rintro rfl;cases h
theorem kY {f:List (Id×Id)}:∀{xs:List V},(xs.map (EH f)).all ZJ=true->JC f xs (xs.map (EH f)):=by
 intro xs
 induction xs with
 | nil=>intro _;trivial
 | cons x xs ih=>
  intro h;simp only[CD,Ef,Bh] at h;exact⟨Yqu (.inl (Rq h.1)),ih h.2⟩
def MG:V->Bool
 | .agg xs|.AX xs|.fn _ xs=>xs.all ZJ
 | x=>ZJ x
theorem Xeh {f:List (Id×Id)} {x:V} (h:MG (MF f x)=true):VR f x (MF f x):=by
 cases x with
 | agg xs=>exact kY h
 | AX xs=>exact kY h
 | fn g xs=>exact⟨rfl,kY h⟩
 | undef=>trivial
 | lit v=>rfl
 | tr rows=>rfl
 | vw rows=>rfl
 | rp sh row off=>rfl
 | own e rows=>cases h
 | CQ cs=>cases h
 | ptr id i off=>exact Yqu (x:=.ptr id i off) (.inl λe=>by have h2:MG (EH f (.ptr id i off))=true:=h;rw[e] at h2;cases h2)
 | sl id off len=>exact Yqu (x:=.sl id off len) (.inl λe=>by have h2:MG (EH f (.sl id off len))=true:=h;rw[e] at h2;cases h2)
def Rr (f:List (Id×Id)) (p:Id×Be):Option Be:=match Di f p.1 with
 | none=>none
 | some _=>some ⟨p.2.box,p.2.own,p.2.cl,(if p.2.box then 0 else p.2.el),if p.2.box then p.2.rows.map (λr=>r.map (EH f)) else p.2.rows⟩
def JJ (f:List (Id×Id)) (S:St) (p:Id×Be):Option Be:=match Di f p.1 with
 | none=>none
 | some Ax=>(S.heap Ax).map λc=>⟨c.box,c.own,c.cl,(if c.box then 0 else c.el),c.rows⟩
def Rt (f:List (Id×Id)) (p:Id×Be):Bool:=match Di f p.1 with
 | none=>!p.2.box&&p.2.own&&(match p.2.rows with|[]=>true|_=>false)
 | some _=>if p.2.box then (match p.2.rows with|[r]=>(r.map (EH f)).all ZJ|_=>false) else true
theorem Xfk {f:List (Id×Id)} {S:St} {p:Id×Be} (h:JJ f S p=Rr f p) (hn:Rt f p=true):BR f S p.1 p.2:=by
 obtain⟨id,b⟩:=p;unfold BR;unfold JJ Rr at h;unfold Rt at hn;simp only at h hn ⊢;split
 .rename_i hr
  rw[hr] at hn;simp only[Bh,NA] at hn;refine⟨hn.1.1,hn.1.2,?_⟩;cases hb:b.rows with
  | nil=>rfl
  | cons x l=>rw[hb] at hn;simp at hn
 .rename_i Ax hr
  rw[hr] at h hn;simp only at h hn;obtain⟨c,h1,h2⟩:=AM.1 h;injection h2 with e1 e2 e3 e4 e5;refine⟨c,h1,e1,e2,e3,?_⟩;cases Ge:b.box with
  | true=>
   rw[Ge] at hn e1 e5;simp only[if_true] at hn e5 ⊢;cases hb:b.rows with
   | nil=>rw[hb] at hn;cases hn
   | cons r l=>cases l with
    | cons r2 l=>rw[hb] at hn;cases hn
    | nil=>
     rw[hb] at hn e5;exact⟨r,_,rfl,e5,kY hn⟩
  | false=>
   rw[Ge] at e1 e4 e5;rw[e1] at e4;simp only[Bp,if_false] at e4 e5 ⊢;exact⟨e4,e5⟩
def Ru (f:List (Id×Id)) (l:List (Nat×V)) (h:List (Id×Be)) (S:St):List V×List (Option Be):=(l.map λp=>S.env p.1,h.map λp=>JJ f S p)
def Rv (f:List (Id×Id)) (l:List (Nat×V)) (h:List (Id×Be)):List V×List (Option Be):=(l.map λp=>MF f p.2,h.map λp=>Rr f p)
def JK (f:List (Id×Id)) (l:List (Nat×V)) (h:List (Id×Be)) (ep:Nat):Bool:=kI f l h ep&&(l.all λp=>MG (MF f p.2))&&h.all λp=>Rt f p
theorem Yn3 {α β:Type} {g1 g2:α->β} {l:List α} (h:l.map g1=l.map g2):∀x∈l,g1 x=g2 x:=by
 induction l with
 | nil=>intro x hx;simp at hx
 | cons y l ih=>
  simp only[CD,V8] at h;intro x hx;rcases BX.1 hx with rfl|hx
  .exact h.1
  .exact ih h.2 x hx
theorem Xew {f:List (Id×Id)} {l:List (Nat×V)} {h:List (Id×Be)} {ep:Nat} {S:St} (e:Ru f l h S=Rv f l h) (hb:JK f l h ep=true):Lr f S l h ep:=by
 simp only[Ru,Rv,A7] at e;simp only[JK,Bh,Cf] at hb;refine⟨λp hp=>?_,λp hp=>Xfk (Yn3 e.2 p hp) (hb.2 p hp),hb.1.1⟩;rw[Yn3 e.1 p hp];exact Xeh (hb.1.2 p hp)
def MH:V->KM V
 | .sl id off len=>AE BV λo=>match o with
  | .num n _ _ _=>AE (B8 (len=n)) λ_=>ret (.sl id off n)
  | _=>fail
 | x=>ret x
theorem Y3f {x:V}:KP (MH x) (λy=>y=x):=by
 unfold MH;split
 .refine Zs K2 (λo _=>?_)
  split
  .exact Zs Yt (λ_ h=>Yh (by rw[h]))
  .exact Zv
 .exact Yh rfl
def lens:List V->KM (List V)
 | []=>ret []
 | x::xs=>AE (MH x) λy=>AE (lens xs) λys=>ret (y::ys)
theorem Yra:∀{xs:List V},KP (lens xs) (λys=>ys=xs):=by
 intro xs
 induction xs with
 | nil=>exact Yh rfl
 | cons x xs ih=>exact Zs Y3f (λy hy=>Zs ih (λys Oq=>Yh (by rw[hy,Oq])))
def Rw:V->KM V
 | .agg xs=>AE (lens xs) λys=>ret (.agg ys)
 | .fn g xs=>AE (lens xs) λys=>ret (.fn g ys)
 | x=>MH x
theorem Xeb {x:V}:KP (Rw x) (λy=>y=x):=by
 unfold Rw;split
 .exact Zs Yra (λy hy=>Yh (by rw[hy]))
 .exact Zs Yra (λy hy=>Yh (by rw[hy]))
 .exact Y3f
def Y4z (S:St):List (Nat×V)->KM (List V)
 | []=>ret []
 | p::l=>AE (Rw (S.env p.1)) λy=>AE (Y4z S l) λys=>ret (y::ys)
theorem Xeq {S:St}:∀{l:List (Nat×V)},KP (Y4z S l) (λys=>ys=l.map λp=>S.env p.1):=by
 intro l
 induction l with
 | nil=>exact Yh rfl
 | cons p l ih=>exact Zs Xeb (λy hy=>Zs ih (λys Oq=>Yh (by rw[hy,Oq];rfl)))
def Rx:Option Be->KM (Option Be)
 | some ⟨true,own,cl,el,[row]⟩=>AE (lens row) λr=>ret (some ⟨true,own,cl,el,[r]⟩)
 | x=>ret x
theorem Xeo {x:Option Be}:KP (Rx x) (λy=>y=x):=by
 unfold Rx;split
 .exact Zs Yra (λr hr=>Yh (by rw[hr]))
 .exact Yh rfl
def Ry (f:List (Id×Id)) (S:St):List (Id×Be)->KM (List (Option Be))
 | []=>ret []
 | p::l=>AE (Rx (JJ f S p)) λy=>AE (Ry f S l) λys=>ret (y::ys)
theorem Xe6 {f:List (Id×Id)} {S:St}:∀{l:List (Id×Be)},KP (Ry f S l) (λys=>ys=l.map λp=>JJ f S p):=by
 intro l
 induction l with
 | nil=>exact Yh rfl
 | cons p l ih=>exact Zs Xeo (λy hy=>Zs ih (λys Oq=>Yh (by rw[hy,Oq];rfl)))
def Y8b (f:List (Id×Id)) (l:List (Nat×V)) (h:List (Id×Be)) (r:Res):KM (List It×List V×List (Option Be)):=match r.ex with
 | .normal=>AE (Y4z r.st l) λvs=>AE (Ry f r.st h) λbs=>ret (r.BL,vs,bs)
 | _=>fail
def MI (P:Program) (M:X9) (f:List (Id×Id)) (l:List (Nat×V)) (h:List (Id×Be)) (n:Nat) (BL:List It) (s:St):KM (List It×List V×List (Option Be)):=
 AE (El P M n BL .normal s) (Y8b f l h)
def isC:List It->Bool
 | .c _::_=>true
 | _=>false
theorem Y3e (hP:We P) {BL k2:List It} {s:St} {p:Prop} {l:List (Nat×V)} {h:List (Id×Be)} {ep:Nat} (f:List (Id×Id)) (n:Nat) (q:List O) (hp:p) (hn:SX P R k2 .normal (Ok l h ep))
  (e:Ov (MI P M f l h n BL s q)=some (p,(k2,Rv f l h))) (hb:(isC k2&&JK f l h ep)=true):SX P R BL .normal s:=by
 simp only[Bh] at hb;refine Y3b (x:=MI P M f l h n BL s) (Q:=λy=>y=(k2,Rv f l h)->SX P R BL .normal s) ?_ e hp rfl;refine Zs (Yxq hP n) (λr hr=>?_);obtain⟨st,ex,s1⟩:=r;unfold Y8b;cases ex with
 | normal=>
  refine Zs Xeq (λvs hvs=>Zs Xe6 (λbs Lg=>Yh λhy=>hr _ ?_));simp only[A7] at hy;simp only;rw[hy.1];have D8:Ru f l h s1=Rv f l h:=by
   rw[<-hy.2,hvs,Lg];rfl
  cases k2 with
  | nil=>cases hb.1
  | cons x k=>cases x with
   | Bn i=>cases hb.1
   | c x=>exact Xe2 f (Xew D8 hb.2) hn
 | ret=>exact Zv
 | exit i=>exact Zv
end
end Go.Proofs.YthdljdelfgofdaaGreatDoor.Ev
namespace Go.Proofs.YthdljdelfgofdaaGreatDoor.Ev
open Go
section
variable {α:Type}
def idx (xs:List α) (i:Int):Option α:=if 0<=i then xs[i.toNat]? else none
def Y4 (sz:Nat) (xs ys:List α):Option (List α):=if (xs.length+ys.length)*sz<=140737488355328/\xs.length+ys.length<=9223372036854775807 then some (xs++ys) else none
def H5 (sz:Nat) (n:Int) (z:α):Option (List α):=if 0<=n/\n.toNat*sz<=70368744177664/\n.toNat<=9223372036854775807 then some (List.replicate n.toNat z) else none
def Yv (xs:List α) (l h:Int):Option (List α):=if 0<=l/\l<=h/\h.toNat<=xs.length then some ((xs.drop l.toNat).take (h.toNat - l.toNat)) else none
def Lt (z:α) (xs:List α) (l h:Int):Option (List α):=if l.toNat+(h.toNat - l.toNat)<=xs.length then some (xs.take l.toNat++List.replicate (h.toNat - l.toNat) z++xs.drop (l.toNat+(h.toNat - l.toNat))) else none
def Jb (xs:List α) (i:Int) (a:α):Option (List α):=some (xs.set i.toNat a)
end
def Ze (l:List UInt8):ByteArray:=⟨l.toArray⟩
def FU:Nat:=18446744073709551616
def JL (n:Int):Int:=IntKind.i64.wrap n
def w8 (n:Int):Int:=IntKind.u8.wrap n
def Zl (a b:Int):Int:=IntKind.i64.wrap (a+b)
def Y8 (a b:Int):Int:=IntKind.i64.wrap (a - b)
def X5 (a b:Int):Int:=IntKind.i64.wrap (a*b)
def E2 (a b:Int):Int:=IntKind.i64.wrap (a.tdiv b)
def C4 (a b:Int):Int:=a.tmod b
def Lu (a b:Int):Int:=IntKind.i64.wrap ((BitVec.ofInt IntKind.i64.bits a &&& BitVec.ofInt IntKind.i64.bits b).toNat)
def orW (a b:Int):Int:=IntKind.i64.wrap ((BitVec.ofInt IntKind.i64.bits a ||| BitVec.ofInt IntKind.i64.bits b).toNat)
def ZK (a b:Int):Int:=IntKind.i64.wrap ((BitVec.ofInt IntKind.i64.bits a ^^^ BitVec.ofInt IntKind.i64.bits b).toNat)
def Rz (a b:Int):Int:=IntKind.i64.wrap (a*2^min b.toNat IntKind.i64.bits)
def R0 (a b:Int):Int:=a.fdiv (2^min b.toNat IntKind.i64.bits)
def TL (a:Int):Int:=IntKind.i64.wrap (0 - a)
def Y5h (a b:Int):Int:=IntKind.u8.wrap (a - b)
def Dp (x y:Int):Int:=if y < x then y else x
def Fi (x y:Int):Int:=if y > x then y else x
def FG (b:Int):Option Unit:=if b=0 then none else some ()
def Lv (b:Int):Option Unit:=if 0<=b then some () else none
def FH (b:ByteArray) (i:Int):Option Int:=if 0<=i then (b[i.toNat]?).map λc=>(c.toNat:Int) else none
def EI (b:ByteArray) (l h:Int):Option ByteArray:=if 0<=l/\l<=h/\h.toNat<=b.size then some (b.extract l.toNat h.toNat) else none
def JM (xs:List Int):ByteArray:=⟨(xs.map λn=>UInt8.ofNat n.toNat).toArray⟩
def Z9 (a b:ByteArray):Option Unit:=if ((a.size+b.size:Nat):Int) > IntKind.i64.max then none else some ()
theorem Xai {n:Int} (h1:-9223372036854775808<=n) (h2:n < 9223372036854775808):JL n=n:=by
 simp[JL,IntKind.wrap,IntKind.bits,IntKind.signed];omega
end Go.Proofs.YthdljdelfgofdaaGreatDoor.Ev
namespace Go.Proofs.YthdljdelfgofdaaGreatDoor.Ev
open Go Go.RowKit KM
variable [Anchor]
abbrev il (n:Int):V:=.lit (.int .i64 n)
abbrev bl (b:Bool):V:=.lit (.bool b)
section
variable {P:Program} {M:X9}
def JN (M:X9) (f:FuncId) (xs:List V):St:=(St.enters ⟨λ_=>.undef,λ_=>none,0⟩ 0 (M.AV f) xs).getD ⟨λ_=>.undef,λ_=>none,0⟩
theorem Yxp (hP:We P) {f:FuncId} {fn:Func} {c:Code} {xs:List V} {r:V} {os:List V} (CU:P.funcs[f]?=some fn) (hc:fn.body=some c) (hs:(St.enters ⟨λ_=>.undef,λ_=>none,0⟩ 0 (M.AV f) xs).isSome=true)
  (h:SX P (Rj P M f fn xs (r,os)) [.c c] .normal (JN M f xs)):Zq P M (f,xs,r,os):=by
 obtain⟨s1,h1⟩:=Ft.1 hs;refine Xd2 hP CU hc h1 ?_;have:JN M f xs=s1:=by unfold JN;rw[h1];rfl
 rw[<-this];exact h
end
theorem aa {p q:Prop} (h:p) (k:q):p/\q:=⟨h,k⟩
theorem tt:True:=trivial
theorem Xci {α β:Type} {x:Option α} {f:α->Option β} {b:β} (h:x.bind f=some b):∃a,x=some a/\f a=some b:=AA.1 h
theorem Xbi {β:Type} {t:Bool} {x y:Option β} {b:β} (h:(if t=true then x else y)=some b):(t=true/\x=some b)\/(t=false/\y=some b):=by
 cases t with
 | true=>exact .inl ⟨rfl,h⟩
 | false=>exact .inr ⟨rfl,h⟩
section
variable {α:Type}
theorem G6 {xs:List α} {i:Int} {a:α} (h:idx xs i=some a):W1 (il i)=some i.toNat:=by
 unfold idx at h;split at h
 .rename_i h0;simp[W1,h0]
 .cases h
theorem CX (e:α->List V) {xs:List α} {i:Int} {a:α} (h:idx xs i=some a):(xs.map e)[i.toNat]?=some (e a):=by
 unfold idx at h;split at h
 .rw[D5,h];rfl
 .cases h
theorem H6 (e:α->List V) {xs:List α} {i:Int} {a:α} (h:idx xs i=some a):i.toNat < (xs.map e).length:=(Dg.1 (CX e h)).1
theorem G7 (e:α->List V) (xs:List α):(xs.map e).length=xs.length:=GL ..
theorem Ox (e:α->List V) (xs:List α):(xs.map e).length=(xs.map e).length:=rfl
theorem CM (n:Nat) {e:α->List V} (he:∀a,(e a).length=n) (xs:List α):Hv n (xs.map e)=true:=by
 unfold Hv;rw[Cf];intro r hr;obtain⟨a,_,rfl⟩:=D7.1 hr;simp[he]
theorem ZL {e:α->List V} (he:∀a,(e a).all Mf=true) (xs:List α):Fx (xs.map e)=true:=by
 unfold Fx;rw[Cf];intro r hr;obtain⟨a,_,rfl⟩:=D7.1 hr;exact he a
theorem Hd (e:α->List V) {sz:Nat} {xs ys zs:List α} (h:Y4 sz xs ys=some zs):xs.map e++ys.map e=zs.map e:=by
 unfold Y4 at h;split at h
 .injection h with h;rw[<-h,Gt]
 .cases h
theorem FI (e:α->List V) {sz:Nat} {xs ys zs:List α} (h:Y4 sz xs ys=some zs):((xs.map e).length+(ys.map e).length)*sz<=140737488355328/\(xs.map e).length+(ys.map e).length<=9223372036854775807:=by
 unfold Y4 at h;split at h
 .rename_i hh;simpa using hh
 .cases h
theorem MJ (e:α->List V) {sz:Nat} {ys zs:List α} (h:Y4 sz [] ys=some zs):ys.map e=zs.map e:=Hd e h
theorem Lx {sz:Nat} {n:Int} {z:α} {xs:List α} (h:H5 sz n z=some xs):W1 (il n)=some n.toNat:=by
 unfold H5 at h;split at h
 .rename_i h0;simp[W1,h0.1]
 .cases h
theorem ZM {sz:Nat} {n:Int} {z:α} {xs:List α} (h:H5 sz n z=some xs):n.toNat*sz<=70368744177664/\n.toNat<=9223372036854775807:=by
 unfold H5 at h;split at h
 .rename_i h0;exact h0.2
 .cases h
theorem ZN (e:α->List V) {sz:Nat} {n:Int} {z:α} {xs:List α} (h:H5 sz n z=some xs):List.replicate n.toNat (e z)=xs.map e:=by
 unfold H5 at h;split at h
 .injection h with h;rw[<-h,List.map_replicate]
 .cases h
theorem DV {xs ys:List α} {l h:Int} (e:Yv xs l h=some ys):W1 (il l)=some l.toNat/\W1 (il h)=some h.toNat:=by
 unfold Yv at e;split at e
 .rename_i h0
  refine⟨by simp[W1,h0.1],?_⟩;have:0<=h:=by omega
  simp[W1,this]
 .cases e
theorem Em (en:α->List V) {xs ys:List α} {l h:Int} (e:Yv xs l h=some ys):l.toNat<=h.toNat/\h.toNat<=(xs.map en).length:=by
 unfold Yv at e;split at e
 .rename_i h0
  rw[GL];omega
 .cases e
theorem EJ (en:α->List V) {xs ys:List α} {l h:Int} (e:Yv xs l h=some ys):((xs.map en).drop l.toNat).take (h.toNat - l.toNat)=ys.map en:=by
 unfold Yv at e;split at e
 .injection e with e;rw[<-e,List.map_take,List.map_drop]
 .cases e
end
def Zc (n:Int):List V:=[.lit (.int .i64 n)]
def CC (n:Int):List V:=[.lit (.int .u8 n)]
def Yc (b:Bool):List V:=[.lit (.bool b)]
def Zp (b:ByteArray):List V:=[.lit (.string b)]
theorem Jo (n:Int):(Zc n).length=1:=rfl
theorem Oy (n:Bool):(Yc n).length=1:=rfl
theorem Q8 (n:ByteArray):(Zp n).length=1:=rfl
theorem R1 (n:Int):(Zc n).all Mf=true:=rfl
abbrev iu (n:Int):V:=.lit (.int .u8 n)
abbrev ss (b:ByteArray):V:=.lit (.string b)
theorem Ic {b:ByteArray} {i m:Int} (h:FH b i=some m):IZ b (il i)=some m:=by
 unfold FH at h;unfold IZ;split at h
 .rename_i h0
  show (if 0<=i then some i.toNat else none).bind _=_;rw[Ah h0];exact h
 .cases h
theorem ssx {b c:ByteArray} {l h:Int} (e:EI b l h=some c):M4 b (some (il l)) (some (il h))=some c:=by
 unfold EI at e;split at e
 .rename_i h0
  unfold M4;show ((if 0<=h then some h.toNat else none).bind λh=>(if 0<=l then some l.toNat else none).bind λl=>_)=_;rw[Ah (by omega),Ah h0.1];simp only[Ag];rw[Ah (by omega)];exact e
 .cases e
theorem ZO {b c:ByteArray} {h:Int} (e:EI b 0 h=some c):M4 b none (some (il h))=some c:=by
 have:=ssx e;unfold M4 at this ⊢;exact this
theorem MK {b c:ByteArray} {l:Int} (e:EI b l (b.size:Int)=some c):M4 b (some (il l)) none=some c:=by
 have:=ssx e;unfold M4 at this ⊢;exact this
theorem stx (xs:List Int):M5 (xs.map λn=>[V.lit (.int .u8 n)])=some (JM xs):=by
 have:NH (xs.map λn=>[V.lit (.int .u8 n)])=some (xs.map λn=>UInt8.ofNat n.toNat):=by
  induction xs with
  | nil=>rfl
  | cons x xs ih=>
   unfold NH at ih ⊢;simp only[CD,Ty];rw[ih];rfl
 unfold M5;rw[this];rfl
section
variable {α:Type}
theorem Ie (e:α->List V) {xs ys:List α} {i:Int} {a:α} (h:Jb xs i a=some ys):(xs.map e).set i.toNat (e a)=ys.map e:=by
 unfold Jb at h;injection h with h;rw[<-h,List.map_set]
theorem Kc (e:α->List V) {xs ys:List α} {i:Int} {a:α} (h:Jb xs i a=some ys):(xs.map e).length=(ys.map e).length:=by
 rw[<-Ie e h,KQ]
theorem ixc (e:α->List V) {xs ys:List α} {i:Int} {a:α} (h:idx ys i=some a) (hl:(xs.map e).length=(ys.map e).length):i.toNat < (xs.map e).length:=hl▸H6 e h
theorem kZ (en:α->List V) {xs ys:List α} {l h:Int} (e:Yv xs l h=some ys):l.toNat+(h.toNat - l.toNat)<=(xs.map en).length:=by
 have:=Em en e;omega
end
section
variable {α:Type}
theorem lA {sz:Nat} {r:List α} (h:Y4 sz [] []=some r):[]=r:=by
 unfold Y4 at h;split at h
 .injection h
 .cases h
theorem lB (n:Nat):(0+0)*n<=140737488355328/\0+0<=9223372036854775807:=by simp
theorem clrl (e:α->List V) {z:α} {xs ys:List α} {l h:Int} (q:Lt z xs l h=some ys):l.toNat+(h.toNat - l.toNat)<=(xs.map e).length:=by
 unfold Lt at q;split at q
 .rwa [GL]
 .cases q
theorem clrr (e:α->List V) {z:α} {xs ys:List α} {l h:Int} (q:Lt z xs l h=some ys):(xs.map e).take l.toNat++List.replicate (h.toNat - l.toNat) (e z)++(xs.map e).drop (l.toNat+(h.toNat - l.toNat))=ys.map e:=by
 unfold Lt at q;split at q
 .injection q with q;rw[<-q];simp
 .cases q
theorem clrs (e:α->List V) {z:α} {xs ys:List α} {l h:Int} (q:Lt z xs l h=some ys):(xs.map e).length=(ys.map e).length:=by
 unfold Lt at q;split at q
 .injection q with q;rw[<-q];simp;omega
 .cases q
end
def ks:Nat->List O->List O
 | 0,l=>l
 | n+1,l=>.k::ks n l
def BE (q:List O) (p:Prop):Prop:=p
theorem ee:BE [] True:=trivial
section
variable {q:List O} {p:Prop} {α:Type}
theorem kk (n:Nat) (k:BE q p):BE (ks n q) p:=k
theorem gg {c b:Bool} (h:c=b) (k:BE q p):BE (.t b::q) (c=b/\p):=⟨h,k⟩
theorem rr {P:Program} {M:X9} {y:FuncId×List V×V×List V} (h:Zq P M y) (k:BE q p):BE (.res y.2.2.1 y.2.2.2::q) (Zq P M y/\p):=⟨h,k⟩
theorem xb (e:α->List V) {xs:List α} {i:Int} {a:α} (h:idx xs i=some a) (k:BE q p):BE (.row i.toNat (e a)::q) (W1 (il i)=some i.toNat/\(xs.map e)[i.toNat]?=some (e a)/\p):=⟨G6 h,CX e h,k⟩
theorem xd (e:α->List V) {xs:List α} {i:Int} {a:α} (h:idx xs i=some a) (k:BE q p):BE (.row i.toNat (e a)::.cell (e a)::q) (W1 (il i)=some i.toNat/\i.toNat < (xs.map e).length/\(xs.map e)[i.toNat]?=some (e a)/\(xs.map e)[i.toNat]?=some (e a)/\p):=⟨G6 h,H6 e h,CX e h,CX e h,k⟩
theorem xp (e:α->List V) {xs ys:List α} {i:Int} {a b:α} (h:idx xs i=some a) (h2:Jb xs i b=some ys) (k:BE q p):BE (.row i.toNat (e a)::.put (e a) (ys.map e)::q) (W1 (il i)=some i.toNat/\i.toNat < (xs.map e).length/\(xs.map e)[i.toNat]?=some (e a)/\(xs.map e)[i.toNat]?=some (e a)/\(xs.map e).set i.toNat (e b)=ys.map e/\p):=⟨G6 h,H6 e h,CX e h,CX e h,Ie e h2,k⟩
theorem xq (e:α->List V) {xs:List α} {i:Int} {a:α} (h:idx xs i=some a) (ys:List α) (k:BE q p):BE (.row i.toNat (e a)::.put (e a) (ys.map e)::q) (W1 (il i)=some i.toNat/\i.toNat < (xs.map e).length/\(xs.map e)[i.toNat]?=some (e a)/\(xs.map e)[i.toNat]?=some (e a)/\p):=⟨G6 h,H6 e h,CX e h,CX e h,k⟩
theorem ln (e:α->List V) (xs:List α) (k:BE q p):BE (.num (xs.map e).length 0 0 []::q) ((xs.map e).length=(xs.map e).length/\p):=⟨rfl,k⟩
theorem lr (e:α->List V) (xs:List α) (k:BE q p):BE (.num xs.length 0 0 []::q) ((xs.map e).length=xs.length/\p):=⟨G7 e xs,k⟩
theorem tp (x:O) (k:BE q p):BE (x::q) p:=k
theorem tq (l:List O) (k:BE q p):BE (l++q) p:=k
theorem ta (e:α->List V) (ys zs:List α) (k:BE q p):BE (.app (ys.map e) true (zs.map e) (zs.map e).length::q) p:=k
theorem oa (n:Nat) {e:α->List V} (he:∀a,(e a).length=n) (x:α) (k:BE q p):BE q (1=([x].map e).length/\[x].map e=[x].map e/\Hv n ([x].map e)=true/\p):=⟨rfl,rfl,CM n he [x],k⟩
theorem ol (n:Nat) {e:α->List V} (he:∀a,(e a).length=n) (hl:∀a,(e a).all Mf=true) (ys:List α) (k:BE q p):BE q (ys.map e=ys.map e/\Fx (ys.map e)=true/\Hv n (ys.map e)=true/\0=(([]:List α).map e).length/\p):=⟨rfl,ZL hl ys,CM n he ys,rfl,k⟩
theorem ox (e:α->List V) {sz:Nat} {xs ys zs:List α} (h:Y4 sz xs ys=some zs) (k:BE q p):BE q ((xs.map e).length=(xs.map e).length/\(((xs.map e).length+(ys.map e).length)*sz<=140737488355328/\(xs.map e).length+(ys.map e).length<=9223372036854775807)/\xs.map e++ys.map e=zs.map e/\p):=⟨rfl,FI e h,Hd e h,k⟩
theorem oe (e:α->List V) (xs:List α) (k:BE q p):BE q ((xs.map e).length=(xs.map e).length/\p):=⟨rfl,k⟩
theorem ob {a:Prop} (h:a) (k:BE q p):BE q (a/\p):=⟨h,k⟩
end
theorem H7 {b:Int} {u:Unit} (h:FG b=some u):b≠0:=by
 unfold FG at h;split at h
 .cases h
 .assumption
theorem TM {b:Int} {u:Unit} (h:Lv b=some u):0<=b:=by
 unfold Lv at h;split at h
 .assumption
 .cases h
theorem Yd {a b:ByteArray} {u:Unit} (h:Z9 a b=some u):¬((a.size+b.size:Nat):Int) > IntKind.i64.max:=by
 unfold Z9 at h;split at h
 .cases h
 .assumption
def ML (f:Func):Code:=f.body.getD .skip
def at_:List Nat->Code->List It->List It
 | 0::p,.seq a b,k=>at_ p a (.c b::k)
 | _::p,.seq _ b,k=>at_ p b k
 | 0::p,.cond _ a _,k=>at_ p a k
 | _::p,.cond _ _ b,k=>at_ p b k
 | _::p,.block i c,k=>at_ p c (.Bn i::k)
 | _::p,.loop c,k=>at_ p c (.c (.loop c)::k)
 | _,c,k=>.c c::k
end Go.Proofs.YthdljdelfgofdaaGreatDoor.Ev
namespace Go.Proofs.YthdljdelfgofdaaGreatDoor.Ev
open Go Go.RowKit
variable [Anchor]
section
variable {P:Program} {M:X9} {w:World} {ok top:Nat->Prop}
theorem Yqp:∀{us:List Value} {xs:List V},us.length=xs.length->FD P w ok top [] us xs (xs.map λ_=>V.undef) []
 | [],[],_=>.nil
 | u::us,x::xs,h=>.cons (f1:=[]) (f2:=[]) rfl (Yqp (by simpa using h))
theorem Yp1 {ms:List Yw} {us:List Value} {xs:List V} {G:List Nat} (h:Oc P w ok top ms us xs G):ms=[]->us.length=xs.length/\G=[]/\∀(j:Nat) (u:Value) (x:V),us[j]?=some u->xs[j]?=some x->∀U,En w ok U u x:=by
 induction h with
 | nil=>intro _;exact⟨rfl,rfl,λj u x hu=>by simp at hu⟩
 | cons h hs ih=>
  intro hm;subst hm;obtain⟨h1,rfl,h2⟩:=ih rfl;obtain⟨h3,rfl⟩:=h;refine⟨by simp[h1],rfl,λj u x hu hx=>?_⟩;cases j with
  | zero=>simp at hu hx;subst hu;subst hx;exact h3
  | succ j=>exact h2 j u x (by simpa using hu) (by simpa using hx)
theorem TN {f:FuncId} {xs:List V} {v:Value} {x:V} (CU:∃fn,P.funcs[f]?=some fn/\fn.body.isSome=true) (hm:M.AV f=[]) (hv:∀(w':World) (ok top:Nat->Prop),FE P w' ok top v x [])
  (h:∀(w:World) (us:List Value) (ok:Nat->Prop),Mi w (λ_=>False)->(∀g,ok g->g < w.heap.size)->us.length=xs.length->(∀(j:Nat) (u:Value) (x:V),us[j]?=some u->xs[j]?=some x->∀U,En w ok U u x)->
   Calls P f us.toArray w (λe w'=>e=.returned v/\Below w.heap.size w w')):Zq P M (f,xs,x,xs.map λ_=>.undef):=by
 refine⟨CU,?_⟩;show Oh P (M.AV f) f xs x _;rw[hm];intro w us G T X ok hT M8 Oi hG Yl hX;obtain⟨hl,rfl,he⟩:=Yp1 M8 rfl;have:=h w us.toList ok ⟨hT.1,hT.2.1,λg hg=>hg.elim⟩ (λg hg=>(Yl g hg).1) hl he;rw[Array.toArray_toList] at this;exact this.mono λe w' ⟨he,hb⟩=>⟨v,he,⟨⟨hb.os,hb.tape,hb.output,hb.size,λk hk _=>hb.block k hk⟩,ok,T,[],[],hv w' ok T,Yqp hl,by simp,λg hg=>by simp at hg,λg hg=>.inl hg,λg hg=>⟨Hq (Yl g hg).1 hb.size,(Yl g hg).2⟩⟩⟩
theorem lC {v:Value} (hv:DJ v=true) (w':World) (ok top:Nat->Prop):FE P w' ok top v (.lit v) []:=show Dh P w' ok top v (.lit v) [] from .lit hv
theorem lD:∀l:List ByteArray,(l.map Zp).flatten=l.map λx=>V.lit (.string x)
 | []=>rfl
 | a::l=>by simp only[CD,Ee,lD l];rfl
theorem Xb9 {f:FuncId} {xs:List V} {e:TypeId} {l:List ByteArray} (CU:∃fn,P.funcs[f]?=some fn/\fn.body.isSome=true) (hm:M.AV f=[]) (Yp:l.length<=maxLen)
  (h:∀(w:World) (us:List Value) (ok:Nat->Prop),Mi w (λ_=>False)->(∀g,ok g->g < w.heap.size)->us.length=xs.length->(∀(j:Nat) (u:Value) (x:V),us[j]?=some u->xs[j]?=some x->∀U,En w ok U u x)->
   Calls P f us.toArray w (λr w'=>r=.returned (.slice (some ⟨w.heap.size,0,none⟩) l.length l.length)/\w'=w.alloc (.cells (l.map Value.string).toArray e))):Zq P M (f,xs,.tr (l.map Zp),xs.map λ_=>.undef):=by
 refine⟨CU,?_⟩;show Oh P (M.AV f) f xs (.tr (l.map Zp)) _;rw[hm];intro w us G T X ok hT M8 Oi hG Yl hX;obtain⟨hl,rfl,he⟩:=Yp1 M8 rfl;have:=h w us.toList ok ⟨hT.1,hT.2.1,λg hg=>hg.elim⟩ (λg hg=>(Yl g hg).1) hl he;rw[Array.toArray_toList] at this;refine this.mono λr w' ⟨hr,hw⟩=>⟨_,hr,?_⟩;subst hw;have hs:=T3 w (.cells (l.map Value.string).toArray e);have CJ:=iY w (.cells (l.map Value.string).toArray e);have hXs:¬X w.heap.size:=λhx=>by
  obtain⟨cur,t,hc⟩:=hX _ hx;have:=(HM.1 hc).1;omega
 refine⟨(C3.refl w.heap.size T w).alloc (B2 _) _,λg=>ok g\/g=w.heap.size,λ_=>False,[],[],?_,Yqp hl,by simp,λg hg=>by simp at hg,λg hg=>hg.elim,λg hg=>?_⟩
 .show Dh P _ (λg=>ok g\/g=w.heap.size) _ _ (.tr (l.map Zp)) []
  refine .tr (.tr (u:=λk=>(l.map Value.string)[k]?.getD (.bool false)) (sz:=1) (by simp) (B2 _) Yp (λr hr=>?_) (.inr rfl) (λk x hx=>?_) (λk x hx=>?_))
  .obtain⟨v,_,rfl⟩:=D7.1 hr;rfl
  .rw[lD,D5] at hx
   obtain⟨y,hy,rfl⟩:=AM.1 hx;have hk:(l.map Value.string)[k]?=some (.string y):=by rw[D5,hy];rfl
   rw[hk];unfold World.cell?;rw[CJ];simp[hk]
  .rw[lD,D5] at hx
   obtain⟨y,hy,rfl⟩:=AM.1 hx;have hk:(l.map Value.string)[k]?=some (.string y):=by rw[D5,hy];rfl
   rw[hk];exact .lit rfl
 .rcases hg with hg|rfl
  .exact⟨by have:=(Yl g hg).1;omega,λh=>h,(Yl g hg).2.2⟩
  .exact⟨by omega,λh=>h,hXs⟩
theorem Ig {U:AZ} {u v:Value} (h:En w ok U u (.lit v)):u=v:=by cases h;rfl
theorem Xd7 {U:AZ} {u:Value} {l:List ByteArray} (h:En w ok U u (.tr (l.map Zp))):
  (∃A c,u=.slice A 0 c/\l=[])\/∃g o c,u=.slice (some ⟨g,o,none⟩) l.length c/\ok g/\l.length<=c/\∀(j:Nat) x,l[j]?=some x->w.cell? ⟨g,o+j,none⟩=some (.string x):=by
 cases h with
 | tr h=>
  have hf:(l.map Zp).flatten=l.map λx=>V.lit (.string x):=lD l;generalize hq:l.map Zp=rows at h;cases h with
  | emp=>exact .inl ⟨_,_,rfl,by simpa using hq⟩
  | @tr g o n c sz rows u hn hc hm hs hg hu hr=>
   subst hq;rw[hf] at hu hr;have T1:n=l.length:=by rw[<-hn];simp
   subst T1;refine .inr ⟨g,o,c,rfl,hg,hc,λj x hx=>?_⟩;have h1:(l.map λx=>V.lit (.string x))[j]?=some (V.lit (.string x)):=by rw[D5,hx];rfl
   rw[hu j _ h1];have:=hr j _ h1;generalize u j=q at this;cases this;rfl
theorem Xbd {w:World} {ok ok' top top':Nat->Prop} {ms:List Yw} {us:List Value} {xs os:List V} {fo:List Nat} (h:FD P w ok top ms us xs os fo):ms=[]->fo=[]/\FD P w ok' top' [] us xs os []:=by
 induction h with
 | nil=>intro _;exact⟨rfl,.nil⟩
 | cons h hs ih=>
  intro hm;subst hm;obtain⟨rfl,h2⟩:=ih rfl;have h1:_=[]:=h;subst h1;exact⟨rfl,.cons (f1:=[]) (f2:=[]) rfl h2⟩
theorem Xc8 {f:FuncId} {xs:List V} {e:TypeId} {rows:List (List V)} {os:List V} (hm:M.AV f=[]) (h:Zq P M (f,xs,.own e rows,os)):Zq P M (f,xs,.tr rows,os):=by
 refine⟨h.1,?_⟩;have hc:Oh P (M.AV f) f xs (.own e rows) os:=h.2;show Oh P (M.AV f) f xs (.tr rows) os;rw[hm] at hc ⊢;intro w us G T X ok hT M8 Oi hG Yl hX;have hG0:G=[]:=(Yp1 M8 rfl).2.1;refine (hc w us G T X ok hT M8 Oi hG Yl hX).mono λr w' ⟨v,hr,hd⟩=>⟨v,hr,⟨hd.left,?_⟩⟩;obtain⟨ok',top',fr,fo,h1,h2,h3,h4,h5,h6⟩:=hd.ex;have h1:Dh P w' ok' top' v (.own e rows) fr:=h1;obtain⟨rfl,PK⟩:=Xbd (ok':=λg=>ok' g\/g∈fr) (top':=λg=>top' g/\g ∉ fr) h2 rfl;subst hG0;refine⟨λg=>ok' g\/g∈fr,λg=>top' g/\g ∉ fr,[],[],?_,PK,by simp,λg hg=>by simp at hg,λg hg=>h5 g hg.1,λg hg=>?_⟩
 .show Dh P w' _ _ v (.tr rows) []
  cases h1 with
  | own h _=>exact .tr (h.ow.rd λg hg=>.inr hg)
 .rcases hg with hg|hg
  .exact⟨(h6 g hg).1,λhh=>(h6 g hg).2.1 hh.1,(h6 g hg).2.2⟩
  .have hk:=h4 g (by simpa using hg)
   refine⟨hk.1,λhh=>hh.2 hg,λhx=>?_⟩;obtain⟨cur,t,hh⟩:=hX g hx;have:=(HM.1 hh).1;rcases hk.2 with hk|hk
   .simp at hk
   .omega
end
end Go.Proofs.YthdljdelfgofdaaGreatDoor.Ev
namespace Go.Proofs.YthdljdelfgofdaaGreatDoor.Ev
open Go Go.Proofs
structure Zd where
 weight:Int
 prio:Bool
 every:Int
 cap:Int
 deriving DecidableEq
structure Zg where
 Ab:List Zd
 Av:Int
 As:Int
 An:Int
 Ap:Int
 Al:Int
 deriving DecidableEq
structure Zj where
 write:Bool
 addr:Int
 size:Int
 Az:Int
 lock:Bool
 Aa:List Int
 deriving DecidableEq
structure Zm where
 at_:Int
 Aj:Int
 Bq:Zj
 deriving DecidableEq
structure Zb where
 Am:List Zm
 waits:List Int
 A3:List Int
 deriving DecidableEq
structure Yg where
 at_:Int
 Bd:Int
 deriving DecidableEq
structure Zi where
 live:Bool
 Aj:Int
 Ao:Int
 first:Bool
 B5:Int
 left:Int
 Ar:Int
 second:Bool
 deriving DecidableEq
structure Zn where
 AD:List Int
 timer:Int
 A2:List Int
 deriving DecidableEq
structure Zf where
 mem:List Int
 dev:Zn
 deriving DecidableEq
structure Zh where
 queue:List Zj
 Ao:Int
 done:Int
 tries:Int
 Ay:Bool
 broken:Bool
 deriving DecidableEq
structure Zk where
 tokens:Int
 count:Int
 deriving DecidableEq
structure Zt where
 A5:Int
 Aj:Int
 write:Bool
 addr:Int
 size:Int
 value:Int
 Ar:Int
 deriving DecidableEq
structure Za where
 Ae:Zg
 now:Int
 m:List Zh
 Bo:Yg
 buckets:List Zk
 splits:List Int
 Af:Int
 held:Int
 last:Int
 addr:Zi
 Aa:Zi
 model:Zf
 Aw:Int
 log:List Zt
 deriving DecidableEq
structure Zz where
 c:Zg
 s:Zb
 b:Za
 on:Bool
 deriving DecidableEq
structure Zr where
 A5:Int
 addr:Int
 kind:Int
 Aj:Int
 Aa:Int
 from_:Int
 ready:Bool
 Ar:Int
 C5:Int
 deriving DecidableEq
structure Z3 where
 Ae:Zg
 script:Zb
 DW:Option Za
 deriving DecidableEq
structure Z0 where
 b:List Int
 i:Int
 h:Int
 deriving DecidableEq
abbrev Zd.z0:Zd:=⟨0,false,0,0⟩
abbrev Zg.z0:Zg:=⟨[],0,0,0,0,0⟩
abbrev Zj.z0:Zj:=⟨false,0,0,0,false,[]⟩
abbrev Zb.z0:Zb:=⟨[],[],[]⟩
abbrev Yg.z0:Yg:=⟨0,0⟩
abbrev Zi.z0:Zi:=⟨false,0,0,false,0,0,0,false⟩
abbrev Zn.z0:Zn:=⟨[],0,[]⟩
abbrev Zf.z0:Zf:=⟨[],Zn.z0⟩
abbrev Zh.z0:Zh:=⟨[],0,0,0,false,false⟩
abbrev Zk.z0:Zk:=⟨0,0⟩
abbrev Zt.z0:Zt:=⟨0,0,false,0,0,0,0⟩
abbrev Za.z0:Za:=⟨Zg.z0,0,[],Yg.z0,[],[],0,0,0,Zi.z0,Zi.z0,Zf.z0,0,[]⟩
abbrev Zz.z0:Zz:=⟨Zg.z0,Zb.z0,Za.z0,false⟩
abbrev Zr.z0:Zr:=⟨0,0,0,0,0,0,false,0,0⟩
abbrev Z3.z0:Z3:=⟨Zg.z0,Zb.z0,none⟩
def Zyj (x0:ByteArray) (x1:Int)  (k:(List ByteArray)->Int->Int->Option (List ByteArray)) (v0:List ByteArray) (v1:Int) (v2:Int):Option (List ByteArray):=
 if decide (v2 < (x0.size:Int))=true then (
  (FH x0 v2).bind λa0=>
  if decide (a0=x1)=true then (
   (EI x0 v1 v2).bind λs0=>
   (Y4 16 v0 [s0]).bind λz0=>
   k z0 (Zl v2 1) (Zl v2 1))
  else (
   k v0 v1 (Zl v2 1)))
 else (
  (EI x0 v1 (x0.size:Int)).bind λs1=>
  (Y4 16 v0 [s1]).bind λz1=>
  some z1)
def ZP (x0:ByteArray) (x1:Int)  : Nat->(List ByteArray)->Int->Int->Option (List ByteArray)
 | 0,_,_,_=>none
 | m+1,v0,v1,v2=>Zyj x0 x1  (ZP x0 x1  m) v0 v1 v2
def W0 (x0:ByteArray) (x1:Int):Option (List ByteArray):=
 ZP x0 x1 FU [] 0 0
def Z4 (x0:Int) (x1:Int) (x2:Int):Option Bool:=
 if decide (x0≥x1)=true then (
  some (decide (x0<=x2)))
 else (
  some false)
def lE (x0:Zg)  (v0:Bool):Option Int:=
 if v0=true then (
  some 0)
 else (
  some (X5 (Zl x0.An 2) (Zl x0.As 6)))
def R2 (x0:Zg):Option Int:=
 (Z4 x0.An 0 3).bind λr0=>
 if (!r0)=true then (
  lE x0 true)
 else (
  (Z4 x0.As 0 3).bind λr1=>
  lE x0 (!r1))
def MM (x0:Zg):Option Int:=
 (R2 x0).bind λr0=>
 if decide (r0=0)=true then (
  some 0)
 else (
  (Z4 x0.Al 1 40).bind λr1=>
  if (!r1)=true then (
   some 0)
  else (
   (R2 x0).bind λr2=>
   some (Zl (X5 2 r2) x0.Al)))
def lF (x0:Zg):Option Bool:=
 (Z4 x0.Av 1 4).bind λr0=>
 if r0=true then (
  (R2 x0).bind λr1=>
  if decide (r1 > 0)=true then (
   (Z4 x0.Ap 1 12).bind λr2=>
   if r2=true then (
    (Z4 x0.Al 1 40).bind λr3=>
    some r3)
   else (
    some false))
  else (
   some false))
 else (
  some false)
def Zwr (x0:Zg)  (k:Int->Int->Option Bool) (v0:Int) (v1:Int):Option Bool:=
 if decide (v1 < (x0.Ab.length:Int))=true then (
  (idx x0.Ab v1).bind λa0=>
  (Z4 a0.weight 1 4).bind λr0=>
  if (!r0)=true then (
   some false)
  else (
   if (!a0.prio)=true then (
    if decide (a0.every≠0)=true then (
     some false)
    else (
     if decide (a0.cap≠0)=true then (
      some false)
     else (
      if a0.prio=true then (
       (MM x0).bind λr1=>
       (Z4 a0.every (X5 (X5 2 v0) r1) 1000).bind λr2=>
       if (!r2)=true then (
        some false)
       else (
        (Z4 a0.cap 1 8).bind λr3=>
        if (!r3)=true then (
         some false)
        else (
         k v0 (Zl v1 1))))
      else (
       k v0 (Zl v1 1)))))
   else (
    if a0.prio=true then (
     (MM x0).bind λr1=>
     (Z4 a0.every (X5 (X5 2 v0) r1) 1000).bind λr2=>
     if (!r2)=true then (
      some false)
     else (
      (Z4 a0.cap 1 8).bind λr3=>
      if (!r3)=true then (
       some false)
      else (
       k v0 (Zl v1 1))))
    else (
     k v0 (Zl v1 1)))))
 else (
  (Z4 (x0.Ab.length:Int) 1 4).bind λr4=>
  if r4=true then (
   (lF x0).bind λr5=>
   some r5)
  else (
   some false))
def Oz (x0:Zg)  : Nat->Int->Int->Option Bool
 | 0,_,_=>none
 | m+1,v0,v1=>Zwr x0  (Oz x0  m) v0 v1
def Zvy (x0:Zg)  (k:Int->Int->Option Bool) (v0:Int) (v2:Int):Option Bool:=
 if decide (v2 < (x0.Ab.length:Int))=true then (
  (idx x0.Ab v2).bind λa1=>
  if a1.prio=true then (
   k (Zl v0 1) (Zl v2 1))
  else (
   k v0 (Zl v2 1)))
 else (
  Oz x0 FU v0 0)
def lG (x0:Zg)  : Nat->Int->Int->Option Bool
 | 0,_,_=>none
 | m+1,v0,v2=>Zvy x0  (lG x0  m) v0 v2
def MN (x0:Zg):Option Bool:=
 lG x0 FU 0 0
def ZQ (x0:Zg):Option Zg:=
 (Y4 32 [] x0.Ab).bind λz0=>
 some {x0 with Ab:=z0}
def Yar  : Option Zn:=
 (H5 8 4 0).bind λm0=>
 some (Zn.mk m0 0 [])
def ZR  : Option Zf:=
 (H5 8 192 0).bind λm0=>
 (Yar).bind λr0=>
 some (Zf.mk m0 r0)
def lH (x0:Zd):Option Zk:=
 if (!x0.prio)=true then (
  some Zk.z0)
 else (
  some (Zk.mk (Fi 0 x0.cap) 0))
def lI (x0:Zg)  (k:Za->Int->Option (Za×Bool)) (Ad:Za) (v0:Int):Option (Za×Bool):=
 if decide (v0 < (x0.Ab.length:Int))=true then (
  (Y4 56 Ad.m [Zh.z0]).bind λz0=>
  (idx x0.Ab v0).bind λa0=>
  (lH a0).bind λr0=>
  (Y4 16 Ad.buckets [r0]).bind λz1=>
  (Y4 8 Ad.splits [0]).bind λz2=>
  k {Ad with m:=z0,buckets:=z1,splits:=z2} (Zl v0 1))
 else (
  some (Ad,true))
def lJ (x0:Zg)  : Nat->Za->Int->Option (Za×Bool)
 | 0,_,_=>none
 | m+1,Ad,v0=>lI x0  (lJ x0  m) Ad v0
def lK (x0:Zg):Option (Za×Bool):=
 (MN x0).bind λr1=>
 if (!r1)=true then (
  some (Za.z0,false))
 else (
  (ZQ x0).bind λr2=>
  (ZR).bind λr3=>
  lJ x0 FU (Za.mk r2 0 [] Yg.z0 [] [] (-1) 0 (-1) Zi.z0 Zi.z0 r3 0 []) 0)
def ZS (x0:Int) (A4:Int->ByteArray->Option ByteArray) (v0:Int) (v1:ByteArray) (v2:Int):Option ByteArray:=
 (Z9 (JM [(w8 (Zl 48 v2))]) v1).bind λn0=>
 A4 (E2 v0 10) ((JM [(w8 (Zl 48 v2))])++v1)
def Z29 (x0:Int)  (k:Int->ByteArray->Option ByteArray) (v0:Int) (v1:ByteArray):Option ByteArray:=
 if decide (v0≠0)=true then (
  if decide ((C4 v0 10) < 0)=true then (
   ZS x0 k v0 v1 (TL (C4 v0 10)))
  else (
   ZS x0 k v0 v1 (C4 v0 10)))
 else (
  if decide (x0 < 0)=true then (
   (Z9 (Ze [45]) v1).bind λn1=>
   some ((Ze [45])++v1))
  else (
   some v1))
def TO (x0:Int)  : Nat->Int->ByteArray->Option ByteArray
 | 0,_,_=>none
 | m+1,v0,v1=>Z29 x0  (TO x0  m) v0 v1
def Qs (x0:Int):Option ByteArray:=
 if decide (x0=0)=true then (
  some (Ze [48]))
 else (
  TO x0 FU x0 ByteArray.empty)
def Zs6 (x0:Zg)  (k:ByteArray->Int->Option ByteArray) (v0:ByteArray) (v1:Int):Option ByteArray:=
 if decide (v1 < (x0.Ab.length:Int))=true then (
  (idx x0.Ab v1).bind λa0=>
  (Z9 v0 (Ze [32])).bind λn0=>
  (Qs a0.weight).bind λr0=>
  (Z9 (v0++(Ze [32])) r0).bind λn1=>
  if a0.prio=true then (
   (Z9 ((v0++(Ze [32]))++r0) (Ze [58])).bind λn2=>
   (Qs a0.every).bind λr1=>
   (Z9 (((v0++(Ze [32]))++r0)++(Ze [58])) r1).bind λn3=>
   (Z9 ((((v0++(Ze [32]))++r0)++(Ze [58]))++r1) (Ze [58])).bind λn4=>
   (Qs a0.cap).bind λr2=>
   (Z9 (((((v0++(Ze [32]))++r0)++(Ze [58]))++r1)++(Ze [58])) r2).bind λn5=>
   k ((((((v0++(Ze [32]))++r0)++(Ze [58]))++r1)++(Ze [58]))++r2) (Zl v1 1))
  else (
   k ((v0++(Ze [32]))++r0) (Zl v1 1)))
 else (
  some v0)
def ZT (x0:Zg)  : Nat->ByteArray->Int->Option ByteArray
 | 0,_,_=>none
 | m+1,v0,v1=>Zs6 x0  (ZT x0  m) v0 v1
def R3 (x0:Zg):Option ByteArray:=
 (MN x0).bind λr3=>
 if (!r3)=true then (
  some ByteArray.empty)
 else (
  (Qs x0.Av).bind λr4=>
  (Z9 r4 (Ze [32])).bind λn6=>
  (Qs x0.As).bind λr5=>
  (Z9 (r4++(Ze [32])) r5).bind λn7=>
  (Z9 ((r4++(Ze [32]))++r5) (Ze [32])).bind λn8=>
  (Qs x0.An).bind λr6=>
  (Z9 (((r4++(Ze [32]))++r5)++(Ze [32])) r6).bind λn9=>
  (Z9 ((((r4++(Ze [32]))++r5)++(Ze [32]))++r6) (Ze [32])).bind λn10=>
  (Qs x0.Ap).bind λr7=>
  (Z9 (((((r4++(Ze [32]))++r5)++(Ze [32]))++r6)++(Ze [32])) r7).bind λn11=>
  (Z9 ((((((r4++(Ze [32]))++r5)++(Ze [32]))++r6)++(Ze [32]))++r7) (Ze [32])).bind λn12=>
  (Qs x0.Al).bind λr8=>
  (Z9 (((((((r4++(Ze [32]))++r5)++(Ze [32]))++r6)++(Ze [32]))++r7)++(Ze [32])) r8).bind λn13=>
  ZT x0 FU ((((((((r4++(Ze [32]))++r5)++(Ze [32]))++r6)++(Ze [32]))++r7)++(Ze [32]))++r8) 0)
def O0 (x0:List ByteArray) (x1:ByteArray)  (k:Int->Option Int) (v0:Int):Option Int:=
 if decide (v0 < (x0.length:Int))=true then (
  (idx x0 v0).bind λa0=>
  if (a0.toList == x1.toList)=true then (
   some v0)
  else (
   k (Zl v0 1)))
 else (
  some (-1))
def O1 (x0:List ByteArray) (x1:ByteArray)  : Nat->Int->Option Int
 | 0,_=>none
 | m+1,v0=>O0 x0 x1  (O1 x0 x1  m) v0
def Ly (x0:List ByteArray) (x1:ByteArray):Option Int:=
 O1 x0 x1 FU 0
def lL (x0:Zg) (x1:Int)  (v0:Bool):Option Int:=
 if v0=true then (
  some 0)
 else (
  (idx x0.Ab x1).bind λa0=>
  some (X5 a0.weight x0.Av))
def R4 (x0:Zg) (x1:Int):Option Int:=
 (MN x0).bind λr0=>
 if (!r0)=true then (
  lL x0 x1 true)
 else (
  (Z4 x1 0 (Y8 (x0.Ab.length:Int) 1)).bind λr1=>
  lL x0 x1 (!r1))
def TP (x0:Yg) (x1:Zg):Option Bool:=
 (MN x1).bind λr0=>
 if r0=true then (
  (Z4 x0.at_ 0 (Y8 (x1.Ab.length:Int) 1)).bind λr1=>
  if r1=true then (
   (R4 x1 x0.at_).bind λr2=>
   (Z4 x0.Bd 0 r2).bind λr3=>
   some r3)
  else (
   some false))
 else (
  some false)
def Zus (x0:List Int)  (k:Int->Option Bool) (v0:Int):Option Bool:=
 if decide (v0 < (x0.length:Int))=true then (
  (idx x0 v0).bind λa0=>
  (Z4 a0 0 255).bind λr0=>
  if (!r0)=true then (
   some false)
  else (
   k (Zl v0 1)))
 else (
  some (decide ((x0.length:Int)<=512)))
def lM (x0:List Int)  : Nat->Int->Option Bool
 | 0,_=>none
 | m+1,v0=>Zus x0  (lM x0  m) v0
def ZU (x0:List Int):Option Bool:=
 lM x0 FU 0
def H8 (x0:Int):Option Int:=
 (Z4 x0 0 2).bind λr0=>
 if (!r0)=true then (
  some 0)
 else (
  (Lv x0).bind λn0=>
  some (Rz 1 x0))
def Qn (x0:Int):Option Int:=
 (H8 x0).bind λr0=>
 if decide (r0=0)=true then (
  some 0)
 else (
  (H8 x0).bind λr1=>
  (Lv (X5 8 r1)).bind λn0=>
  some (Rz 1 (X5 8 r1)))
def Zuu (x0:List Int)  (k:Int->Option Bool) (v0:Int):Option Bool:=
 if decide (v0 < (x0.length:Int))=true then (
  (idx x0 v0).bind λa0=>
  (Qn 2).bind λr0=>
  (Z4 a0 0 (Y8 r0 1)).bind λr1=>
  if (!r1)=true then (
   some false)
  else (
   k (Zl v0 1)))
 else (
  some true)
def lN (x0:List Int)  : Nat->Int->Option Bool
 | 0,_=>none
 | m+1,v0=>Zuu x0  (lN x0  m) v0
def ZV (x0:List Int):Option Bool:=
 lN x0 FU 0
def ZW (x0:Zn):Option Bool:=
 if decide ((x0.AD.length:Int)=4)=true then (
  (ZV x0.AD).bind λr0=>
  if r0=true then (
   (Qn 2).bind λr1=>
   (Z4 x0.timer 0 (Y8 r1 1)).bind λr2=>
   if r2=true then (
    if decide ((x0.A2.length:Int)<=4)=true then (
     (ZV x0.A2).bind λr3=>
     some r3)
    else (
     some false))
   else (
    some false))
  else (
   some false))
 else (
  some false)
def ZX (x0:Zf):Option Bool:=
 if decide ((x0.mem.length:Int)=192)=true then (
  (ZU x0.mem).bind λr0=>
  if r0=true then (
   (ZW x0.dev).bind λr1=>
   some r1)
  else (
   some false))
 else (
  some false)
def JO (x0:Int):Option Int:=
 (Z4 x0 0 3).bind λr0=>
 if (!r0)=true then (
  some 0)
 else (
  (idx [1,4,4,8] x0).bind λa0=>
  some a0)
def Lz (x0:Int) (x1:Int):Option Bool:=
 (H8 x1).bind λr0=>
 if decide (r0 > 0)=true then (
  if decide (x0≥0)=true then (
   (H8 x1).bind λr1=>
   (FG r1).bind λn0=>
   some (decide ((C4 x0 r1)=0)))
  else (
   some false))
 else (
  some false)
def lO (x0:Int) (x1:Int) (x2:Int)  (v0:Int) (v1:Bool):Option Int:=
 if v1=true then (
  some (Y8 (Zl x0 v0) (X5 4 v0)))
 else (
  some (Zl x0 v0))
def ZY (x0:Int) (x1:Int) (x2:Int)  (v0:Int) (v2:Bool):Option Int:=
 if v2=true then (
  some (-1))
 else (
  if decide (x2=2)=true then (
   (FG (X5 4 v0)).bind λn0=>
   lO x0 x1 x2 v0 (decide ((C4 (Zl x0 v0) (X5 4 v0))=0)))
  else (
   lO x0 x1 x2 v0 false))
def ZZ (x0:Int) (x1:Int) (x2:Int):Option Int:=
 (H8 x1).bind λr0=>
 (Lz x0 x1).bind λr1=>
 if (!r1)=true then (
  ZY x0 x1 x2 r0 true)
 else (
  (Z4 x0 0 511).bind λr2=>
  if (!r2)=true then (
   ZY x0 x1 x2 r0 true)
  else (
   (JO x2).bind λr3=>
   ZY x0 x1 x2 r0 (decide (r3=0))))
def aA (x0:Int) (x1:Int) (x2:Int) (A4:Int->(List Int)->Option (List Int)) (v0:Int) (v1:List Int) (v2:Bool):Option (List Int):=
 if v2=true then (
  (Y4 8 v1 [v0]).bind λz0=>
  (ZZ v0 x1 x2).bind λr0=>
  A4 r0 z0)
 else (
  (JO x2).bind λr1=>
  if decide ((v1.length:Int) < r1)=true then (
   some [])
  else (
   some v1))
def aB (x0:Int) (x1:Int) (x2:Int)  (k:Int->(List Int)->Option (List Int)) (v0:Int) (v1:List Int):Option (List Int):=
 (JO x2).bind λr2=>
 if decide ((v1.length:Int) < r2)=true then (
  (ZZ v0 x1 x2).bind λr3=>
  aA x0 x1 x2 k v0 v1 (decide (r3≥0)))
 else (
  aA x0 x1 x2 k v0 v1 false)
def lP (x0:Int) (x1:Int) (x2:Int)  : Nat->Int->(List Int)->Option (List Int)
 | 0,_,_=>none
 | m+1,v0,v1=>aB x0 x1 x2  (lP x0 x1 x2  m) v0 v1
def aC (x0:Int) (x1:Int) (x2:Int):Option (List Int):=
 lP x0 x1 x2 FU x0 []
def Zuz (x0:Int) (x1:Int) (x2:Int)  (k:(List Int)->Int->Option Bool) (v0:List Int) (v1:Int):Option Bool:=
 if decide (v1 < (v0.length:Int))=true then (
  (idx v0 v1).bind λa0=>
  (idx v0 0).bind λa1=>
  if decide ((E2 a0 64)≠(E2 a1 64))=true then (
   some false)
  else (
   k v0 (Zl v1 1)))
 else (
  some (decide ((v0.length:Int) > 0)))
def lQ (x0:Int) (x1:Int) (x2:Int)  : Nat->(List Int)->Int->Option Bool
 | 0,_,_=>none
 | m+1,v0,v1=>Zuz x0 x1 x2  (lQ x0 x1 x2  m) v0 v1
def aD (x0:Int) (x1:Int) (x2:Int):Option Bool:=
 (aC x0 x1 x2).bind λr0=>
 lQ x0 x1 x2 FU r0 0
def Zyp (x0:Zj)  (k:Int->Option Bool) (v0:Int):Option Bool:=
 if decide (v0 < (x0.Aa.length:Int))=true then (
  (idx x0.Aa v0).bind λa0=>
  (Qn x0.size).bind λr0=>
  (Z4 a0 0 (Y8 r0 1)).bind λr1=>
  if (!r1)=true then (
   some false)
  else (
   k (Zl v0 1)))
 else (
  if decide ((x0.Aa.length:Int)=0)=true then (
   if (!x0.write)=true then (
    some true)
   else (
    (JO x0.Az).bind λr2=>
    if decide ((x0.Aa.length:Int)=r2)=true then (
     some x0.write)
    else (
     some false)))
  else (
   (JO x0.Az).bind λr2=>
   if decide ((x0.Aa.length:Int)=r2)=true then (
    some x0.write)
   else (
    some false)))
def lR (x0:Zj)  : Nat->Int->Option Bool
 | 0,_=>none
 | m+1,v0=>Zyp x0  (lR x0  m) v0
def TQ (x0:Zj):Option Bool:=
 (aD x0.addr x0.size x0.Az).bind λr3=>
 if (!r3)=true then (
  some false)
 else (
  lR x0 FU 0)
def O2 (x0:Zh):Option Int:=
 if decide ((x0.queue.length:Int)=0)=true then (
  some 0)
 else (
  (idx x0.queue 0).bind λa0=>
  (JO a0.Az).bind λr0=>
  some r0)
def R5 (x0:Zh)  (v0:Bool):Option Bool:=
 if v0=true then (
  some false)
 else (
  if decide ((x0.queue.length:Int)=0)=true then (
   if decide (x0.Ao=0)=true then (
    if decide (x0.done=0)=true then (
     if decide (x0.tries=0)=true then (
      if (!x0.Ay)=true then (
       some (!x0.broken))
      else (
       some false))
     else (
      some false))
    else (
     some false))
   else (
    some false))
  else (
   (O2 x0).bind λr0=>
   (Z4 x0.done 0 (Y8 r0 1)).bind λr1=>
   if r1=true then (
    (O2 x0).bind λr2=>
    (Z4 x0.Ao x0.done (Dp (Zl x0.done 2) r2)).bind λr3=>
    some r3)
   else (
    some false)))
def Zs5 (x0:Zh)  (k:Int->Option Bool) (v1:Int):Option Bool:=
 if decide (v1 < (x0.queue.length:Int))=true then (
  (idx x0.queue v1).bind λa0=>
  (TQ a0).bind λr4=>
  if (!r4)=true then (
   some false)
  else (
   k (Zl v1 1)))
 else (
  if decide ((x0.queue.length:Int) > 4)=true then (
   R5 x0 true)
  else (
   R5 x0 (decide (x0.tries < 0))))
def lS (x0:Zh)  : Nat->Int->Option Bool
 | 0,_=>none
 | m+1,v1=>Zs5 x0  (lS x0  m) v1
def MO (x0:Zh):Option Bool:=
 lS x0 FU 0
def Yfb (x0:Zh) (x1:Zg):Option Bool:=
 (MN x1).bind λr0=>
 if r0=true then (
  (MO x0).bind λr1=>
  if r1=true then (
   some (decide (x0.tries<=x1.An)))
  else (
   some false))
 else (
  some false)
def R6 (x0:Zk) (x1:Zd):Option Bool:=
 if (!x1.prio)=true then (
  some (decide (x0.tokens=0)&&(decide (x0.count=0)&&true)))
 else (
  (Z4 x0.tokens 0 x1.cap).bind λr0=>
  if r0=true then (
   (Z4 x0.count 0 (Y8 x1.every 1)).bind λr1=>
   some r1)
  else (
   some false))
def lT (x0:Za) (x1:Int)  (v0:Int):Option Int:=
 if x0.Aa.live=true then (
  if decide (x0.Aa.Aj=x1)=true then (
   some (Zl v0 1))
  else (
   some v0))
 else (
  some v0)
def lU (x0:Za) (x1:Int)  (v1:Bool):Option Int:=
 if v1=true then (
  lT x0 x1 (Zl 0 1))
 else (
  lT x0 x1 0)
def lV (x0:Za) (x1:Int):Option Int:=
 if x0.addr.live=true then (
  lU x0 x1 (decide (x0.addr.Aj=x1)))
 else (
  lU x0 x1 false)
def MP (x0:Int):Option ByteArray:=
 (Z4 x0 0 3).bind λr0=>
 if (!r0)=true then (
  some ByteArray.empty)
 else (
  (idx [(Ze [111,107,97,121]),(Ze [101,114,114,111,114]),(Ze [114,101,116,114,121]),(Ze [115,112,108,105,116])] x0).bind λa0=>
  some a0)
def Yn (x0:Za) (x1:Zi) (x2:Bool)  (Ad:Zh) (v0:Bool):Option Bool:=
 if v0=true then (
  some false)
 else (
  if decide (x1.Ao=Ad.done)=true then (
   (Z4 x1.left 0 (Zl x0.Ae.As 2)).bind λr0=>
   if r0=true then (
    (MP x1.Ar).bind λr1=>
    if (!(r1.toList == ByteArray.empty.toList))=true then (
     if (!x1.second)=true then (
      some true)
     else (
      if decide (x1.Ar≠0)=true then (
       some (decide (x1.left=0)))
      else (
       some false)))
    else (
     some false))
   else (
    some false))
  else (
   some false))
def K6 (x0:Za) (x1:Zi) (x2:Bool)  (v1:Bool):Option Bool:=
 if v1=true then (
  some false)
 else (
  (idx x0.m x1.Aj).bind λa0=>
  if (!x2)=true then (
   if decide (x1.Ao=(Y8 a0.Ao 1))=true then (
    if decide (x1.left=0)=true then (
     if decide (x1.Ar=0)=true then (
      some (!x1.second))
     else (
      some false))
    else (
     some false))
   else (
    some false))
  else (
   if decide (x1.Ar=2)=true then (
    if decide (a0.tries≥x0.Ae.An)=true then (
     Yn x0 x1 x2 a0 true)
    else (
     if decide (x1.Ar=3)=true then (
      if a0.Ay=true then (
       Yn x0 x1 x2 a0 true)
      else (
       if decide (x0.Af=x1.Aj)=true then (
        Yn x0 x1 x2 a0 true)
       else (
        if x1.second=true then (
         Yn x0 x1 x2 a0 x0.addr.live)
        else (
         Yn x0 x1 x2 a0 false))))
     else (
      if x1.second=true then (
       Yn x0 x1 x2 a0 x0.addr.live)
      else (
       Yn x0 x1 x2 a0 false))))
   else (
    if decide (x1.Ar=3)=true then (
     if a0.Ay=true then (
      Yn x0 x1 x2 a0 true)
     else (
      if decide (x0.Af=x1.Aj)=true then (
       Yn x0 x1 x2 a0 true)
      else (
       if x1.second=true then (
        Yn x0 x1 x2 a0 x0.addr.live)
       else (
        Yn x0 x1 x2 a0 false))))
    else (
     if x1.second=true then (
      Yn x0 x1 x2 a0 x0.addr.live)
     else (
      Yn x0 x1 x2 a0 false)))))
def MQ (x0:Za) (x1:Zi) (x2:Bool):Option Bool:=
 if (!x1.live)=true then (
  some ((x1.live == false)&&(decide (x1.Aj=0)&&(decide (x1.Ao=0)&&((x1.first == false)&&(decide (x1.B5=0)&&(decide (x1.left=0)&&(decide (x1.Ar=0)&&((x1.second == false)&&true)))))))))
 else (
  (Z4 x1.Aj 0 (Y8 (x0.m.length:Int) 1)).bind λr2=>
  if (!r2)=true then (
   K6 x0 x1 x2 true)
  else (
   (Z4 x1.B5 1 3).bind λr3=>
   if (!r3)=true then (
    K6 x0 x1 x2 true)
   else (
    (idx x0.splits x1.Aj).bind λa1=>
    K6 x0 x1 x2 (decide (a1 > 0)))))
def R7 (x0:Za)  (v0:Bool):Option Bool:=
 if v0=true then (
  some false)
 else (
  (idx x0.m x0.Af).bind λa0=>
  if decide ((a0.queue.length:Int) > 0)=true then (
   (idx a0.queue 0).bind λa1=>
   if a1.lock=true then (
    if (!a0.broken)=true then (
     (idx x0.splits x0.Af).bind λa2=>
     some (decide (a2=0)))
    else (
     some false))
   else (
    some false))
  else (
   some false))
def lW (x0:Za)  (k:Int->Option Bool) (v1:Int):Option Bool:=
 if decide (v1 < (x0.m.length:Int))=true then (
  (idx x0.m v1).bind λa3=>
  if decide (a3.Ao > 0)=true then (
   (idx a3.queue 0).bind λa4=>
   if a4.lock=true then (
    if (!a3.broken)=true then (
     if decide (x0.Af≠v1)=true then (
      some false)
     else (
      k (Zl v1 1)))
    else (
     k (Zl v1 1)))
   else (
    k (Zl v1 1)))
  else (
   k (Zl v1 1)))
 else (
  if decide (x0.Af=(-1))=true then (
   some (decide (x0.held=0)))
  else (
   (Z4 x0.Af 0 (Y8 (x0.m.length:Int) 1)).bind λr0=>
   if (!r0)=true then (
    R7 x0 true)
   else (
    (Z4 x0.held 0 x0.Ae.Al).bind λr1=>
    R7 x0 (!r1))))
def Zvs (x0:Za)  : Nat->Int->Option Bool
 | 0,_=>none
 | m+1,v1=>lW x0  (Zvs x0  m) v1
def aE (x0:Za):Option Bool:=
 Zvs x0 FU 0
def lX (x0:Za)  (k:Int->Option Bool) (v0:Int):Option Bool:=
 if decide (v0 < (x0.log.length:Int))=true then (
  (idx x0.log v0).bind λa0=>
  (Z4 a0.A5 0 (Y8 x0.now 1)).bind λr0=>
  if (!r0)=true then (
   some false)
  else (
   if decide (v0 > 0)=true then (
    (idx x0.log (Y8 v0 1)).bind λa1=>
    if decide (a0.A5<=a1.A5)=true then (
     some false)
    else (
     (Z4 a0.Aj 0 (Y8 (x0.m.length:Int) 1)).bind λr1=>
     if (!r1)=true then (
      some false)
     else (
      (Lz a0.addr a0.size).bind λr2=>
      if (!r2)=true then (
       some false)
      else (
       (Z4 a0.addr 0 511).bind λr3=>
       if (!r3)=true then (
        some false)
       else (
        (Qn a0.size).bind λr4=>
        (Z4 a0.value 0 (Y8 r4 1)).bind λr5=>
        if (!r5)=true then (
         some false)
        else (
         (Z4 a0.Ar 0 1).bind λr6=>
         if (!r6)=true then (
          some false)
         else (
          k (Zl v0 1))))))))
   else (
    (Z4 a0.Aj 0 (Y8 (x0.m.length:Int) 1)).bind λr1=>
    if (!r1)=true then (
     some false)
    else (
     (Lz a0.addr a0.size).bind λr2=>
     if (!r2)=true then (
      some false)
     else (
      (Z4 a0.addr 0 511).bind λr3=>
      if (!r3)=true then (
       some false)
      else (
       (Qn a0.size).bind λr4=>
       (Z4 a0.value 0 (Y8 r4 1)).bind λr5=>
       if (!r5)=true then (
        some false)
       else (
        (Z4 a0.Ar 0 1).bind λr6=>
        if (!r6)=true then (
         some false)
        else (
         k (Zl v0 1)))))))))
 else (
  some true)
def lY (x0:Za)  : Nat->Int->Option Bool
 | 0,_=>none
 | m+1,v0=>lX x0  (lY x0  m) v0
def aF (x0:Za):Option Bool:=
 lY x0 FU 0
def lZ (x0:Za)  (k:Int->Option Bool) (v0:Int):Option Bool:=
 if decide (v0 < (x0.Ae.Ab.length:Int))=true then (
  (idx x0.m v0).bind λa0=>
  (Yfb a0 x0.Ae).bind λr0=>
  if (!r0)=true then (
   some false)
  else (
   (idx x0.buckets v0).bind λa1=>
   (idx x0.Ae.Ab v0).bind λa2=>
   (R6 a1 a2).bind λr1=>
   if (!r1)=true then (
    some false)
   else (
    (idx x0.splits v0).bind λa3=>
    (Z4 a3 0 x0.Ae.Ap).bind λr2=>
    if (!r2)=true then (
     some false)
    else (
     (lV x0 v0).bind λr3=>
     if decide ((Y8 a0.Ao a0.done)≠r3)=true then (
      some false)
     else (
      k (Zl v0 1))))))
 else (
  (MQ x0 x0.Aa true).bind λr4=>
  if r4=true then (
   (MQ x0 x0.addr false).bind λr5=>
   if r5=true then (
    (aE x0).bind λr6=>
    if r6=true then (
     (aF x0).bind λr7=>
     some r7)
    else (
     some false))
   else (
    some false))
  else (
   some false))
def l5 (x0:Za)  : Nat->Int->Option Bool
 | 0,_=>none
 | m+1,v0=>lZ x0  (l5 x0  m) v0
def Qv (x0:Za)  (v1:Bool):Option Bool:=
 if v1=true then (
  some false)
 else (
  l5 x0 FU 0)
def L0 (x0:Za):Option Bool:=
 (MN x0.Ae).bind λr8=>
 if (!r8)=true then (
  Qv x0 true)
 else (
  (Z4 x0.now 0 4000).bind λr9=>
  if (!r9)=true then (
   Qv x0 true)
  else (
   if decide ((x0.m.length:Int)≠(x0.Ae.Ab.length:Int))=true then (
    Qv x0 true)
   else (
    if decide ((x0.buckets.length:Int)≠(x0.Ae.Ab.length:Int))=true then (
     Qv x0 true)
    else (
     if decide ((x0.splits.length:Int)≠(x0.Ae.Ab.length:Int))=true then (
      Qv x0 true)
     else (
      (TP x0.Bo x0.Ae).bind λEK=>
      if (!EK)=true then (
       Qv x0 true)
      else (
       (Z4 x0.last (-1) (Y8 (x0.Ae.Ab.length:Int) 1)).bind λHe=>
       if (!He)=true then (
        Qv x0 true)
       else (
        (ZX x0.model).bind λG8=>
        if (!G8)=true then (
         Qv x0 true)
        else (
         if decide (x0.Aw < 0)=true then (
          Qv x0 true)
         else (
          Qv x0 (decide (x0.Aw > x0.now)))))))))))
def R8 (x0:Zj):Option Zj:=
 (Y4 8 [] x0.Aa).bind λz0=>
 some {x0 with Aa:=z0}
def Ykp (x0:Zh)  (k:(List Zj)->Int->Option Zh) (v0:List Zj) (v1:Int):Option Zh:=
 if decide (v1 < (x0.queue.length:Int))=true then (
  (idx x0.queue v1).bind λa0=>
  (R8 a0).bind λr0=>
  (Y4 64 v0 [r0]).bind λz0=>
  k z0 (Zl v1 1))
 else (
  some {x0 with queue:=v0})
def l6 (x0:Zh)  : Nat->(List Zj)->Int->Option Zh
 | 0,_,_=>none
 | m+1,v0,v1=>Ykp x0  (l6 x0  m) v0 v1
def O3 (x0:Zh):Option Zh:=
 l6 x0 FU [] 0
def aG (x0:Zn):Option Zn:=
 (Y4 8 [] x0.AD).bind λz0=>
 (Y4 8 [] x0.A2).bind λz1=>
 some (Zn.mk z0 x0.timer z1)
def aH (x0:Zf):Option Zf:=
 (Y4 8 [] x0.mem).bind λz0=>
 (aG x0.dev).bind λr0=>
 some (Zf.mk z0 r0)
def l7 (x0:Za)  (k:Za->Int->Option Za) (Ad:Za) (v0:Int):Option Za:=
 if decide (v0 < (x0.m.length:Int))=true then (
  (idx x0.m v0).bind λa0=>
  (O3 a0).bind λr0=>
  (Y4 56 Ad.m [r0]).bind λz0=>
  k {Ad with m:=z0} (Zl v0 1))
 else (
  (Y4 16 [] x0.buckets).bind λz1=>
  (Y4 8 [] x0.splits).bind λz2=>
  (aH x0.model).bind λr1=>
  (Y4 56 [] x0.log).bind λz3=>
  some {Ad with buckets:=z1,splits:=z2,model:=r1,log:=z3})
def aI (x0:Za)  : Nat->Za->Int->Option Za
 | 0,_,_=>none
 | m+1,Ad,v0=>l7 x0  (aI x0  m) Ad v0
def TR (x0:Za):Option Za:=
 (ZQ x0.Ae).bind λr2=>
 aI x0 FU {x0 with Ae:=r2,m:=[]} 0
def l8 (x0:Zh) (x1:Int)  (v0:Bool):Option Int:=
 if v0=true then (
  some (-1))
 else (
  (idx x0.queue 0).bind λa0=>
  (aC a0.addr a0.size a0.Az).bind λr0=>
  (idx r0 x1).bind λa1=>
  some a1)
def R9 (x0:Zh) (x1:Int):Option Int:=
 (MO x0).bind λr1=>
 if (!r1)=true then (
  l8 x0 x1 true)
 else (
  (O2 x0).bind λr2=>
  (Z4 x1 0 (Y8 r2 1)).bind λr3=>
  l8 x0 x1 (!r3))
def aJ (x0:Za)  (Ad:Zr):Option Zr:=
 if x0.Aa.live=true then (
  (idx x0.m x0.Aa.Aj).bind λa0=>
  (R9 a0 x0.Aa.Ao).bind λr0=>
  some {Ad with Aa:=r0,from_:=x0.Aa.Aj})
 else (
  some Ad)
def l9 (x0:Za):Option Zr:=
 if x0.addr.live=true then (
  (idx x0.m x0.addr.Aj).bind λa1=>
  (R9 a1 x0.addr.Ao).bind λr1=>
  if x0.addr.first=true then (
   aJ x0 (Zr.mk x0.now r1 2 x0.addr.Aj (-1) (-1) true 0 (-1)))
  else (
   aJ x0 (Zr.mk x0.now r1 3 x0.addr.Aj (-1) (-1) true 0 (-1))))
 else (
  aJ x0 (Zr.mk x0.now (-1) 0 (-1) (-1) (-1) true 0 (-1)))
def mA (x0:Zb) (x1:Int)  (k:(List Zm)->Int->Option (List Zm)) (v0:List Zm) (v1:Int):Option (List Zm):=
 if decide (v1 < (x0.Am.length:Int))=true then (
  (idx x0.Am v1).bind λa0=>
  if decide (a0.at_=x1)=true then (
   (R8 a0.Bq).bind λr0=>
   (Y4 80 v0 [{a0 with Bq:=r0}]).bind λz0=>
   k z0 (Zl v1 1))
  else (
   k v0 (Zl v1 1)))
 else (
  some v0)
def mB (x0:Zb) (x1:Int)  : Nat->(List Zm)->Int->Option (List Zm)
 | 0,_,_=>none
 | m+1,v0,v1=>mA x0 x1  (mB x0 x1  m) v0 v1
def mC (x0:Zb) (x1:Int):Option (List Zm):=
 mB x0 x1 FU [] 0
def aK (x0:Zh) (x1:Zj)  (Ad:Zh) (v0:Bool):Option (Zh×Bool):=
 if v0=true then (
  some (Ad,false))
 else (
  (R8 x1).bind λr0=>
  (Y4 64 Ad.queue [r0]).bind λz0=>
  some ({Ad with queue:=z0},true))
def mD (x0:Zh) (x1:Zj):Option (Zh×Bool):=
 (O3 x0).bind λr1=>
 (MO x0).bind λr2=>
 if (!r2)=true then (
  aK x0 x1 r1 true)
 else (
  (TQ x1).bind λr3=>
  if (!r3)=true then (
   aK x0 x1 r1 true)
  else (
   aK x0 x1 r1 (decide ((x0.queue.length:Int)=4))))
def mE (x0:Zk) (x1:Zd)  (v0:Bool):Option Zk:=
 if v0=true then (
  some x0)
 else (
  if decide ((Zl x0.count 1)=x1.every)=true then (
   some (Zk.mk (Dp x1.cap (Zl x0.tokens 1)) 0))
  else (
   some (Zk.mk x0.tokens (Zl x0.count 1))))
def mF (x0:Zk) (x1:Zd):Option Zk:=
 if (!x1.prio)=true then (
  mE x0 x1 true)
 else (
  (R6 x0 x1).bind λr0=>
  mE x0 x1 (!r0))
def mG (x0:Zh)  (Ad:Zh) (v0:Bool):Option (Zh×Bool):=
 if v0=true then (
  some (Ad,false))
 else (
  some ({Ad with Ao:=(Y8 Ad.Ao 1)},true))
def mH (x0:Zh):Option (Zh×Bool):=
 (O3 x0).bind λr0=>
 (MO x0).bind λr1=>
 if (!r1)=true then (
  mG x0 r0 true)
 else (
  mG x0 r0 (decide (x0.Ao=x0.done)))
def mI (x0:Zk) (x1:Zd)  (v0:Bool):Option Zk:=
 if v0=true then (
  some (Zk.mk (Dp x1.cap (Zl x0.tokens 1)) x0.count))
 else (
  some x0)
def mJ (x0:Zk) (x1:Zd):Option Zk:=
 if x1.prio=true then (
  (R6 x0 x1).bind λr0=>
  mI x0 x1 r0)
 else (
  mI x0 x1 false)
def mK (x0:Yg) (x1:Zg) (x2:Int)  (v0:Bool):Option Yg:=
 if v0=true then (
  (R4 x1 x2).bind λr0=>
  some (Yg.mk x0.at_ (Dp r0 (Zl x0.Bd 1))))
 else (
  some x0)
def mL (x0:Yg) (x1:Zg) (x2:Int):Option Yg:=
 (TP x0 x1).bind λr1=>
 if r1=true then (
  mK x0 x1 x2 (decide (x0.at_=x2)))
 else (
  mK x0 x1 x2 false)
def TS (x0:Za) (x1:Zi):Option Za:=
 (idx x0.m x1.Aj).bind λa0=>
 (mH a0).bind λr0=>
 (Jb x0.m x1.Aj r0.1).bind λy0=>
 if decide (x1.B5=1)=true then (
  (idx x0.buckets x1.Aj).bind λa1=>
  (idx x0.Ae.Ab x1.Aj).bind λa2=>
  (mJ a1 a2).bind λr1=>
  (Jb x0.buckets x1.Aj r1).bind λy1=>
  some {x0 with m:=y0,buckets:=y1})
 else (
  if decide (x1.B5=2)=true then (
   (mL x0.Bo x0.Ae x1.Aj).bind λr2=>
   some {x0 with m:=y0,Bo:=r2})
  else (
   some {x0 with m:=y0}))
def Z3a (x0:List Int) (x1:Int)  (v0:Bool):Option Int:=
 if v0=true then (
  some 0)
 else (
  (FG (x0.length:Int)).bind λn0=>
  (idx x0 (C4 x1 (x0.length:Int))).bind λa0=>
  some a0)
def aL (x0:List Int) (x1:Int):Option Int:=
 if decide ((x0.length:Int)=0)=true then (
  Z3a x0 x1 true)
 else (
  Z3a x0 x1 (decide (x1 < 0)))
def mM (x0:Zg) (x1:Zb) (x2:Int):Option Int:=
 (aL x1.waits x2).bind λr0=>
 some (Fi 1 (Dp x0.Ap (Zl (Dp r0 99) 1)))
def aM (x0:Zj) (x1:Int):Option Int:=
 if (!x0.write)=true then (
  some 0)
 else (
  (idx x0.Aa x1).bind λa0=>
  some a0)
def Zww (x0:Int)  (v0:Bool):Option Int:=
 if v0=true then (
  some 0)
 else (
  if decide (x0 < 128)=true then (
   some 1)
  else (
   if decide (x0 < 192)=true then (
    some 2)
   else (
    some 3)))
def mN (x0:Int):Option Int:=
 if decide (x0 < 0)=true then (
  Zww x0 true)
 else (
  Zww x0 (decide (x0≥224)))
def aN (x0:List Int) (x1:Int) (x2:Int):Option Bool:=
 (ZU x0).bind λr0=>
 if r0=true then (
  (Lz x1 x2).bind λr1=>
  if r1=true then (
   (H8 x2).bind λr2=>
   some (decide (x1<=(Y8 (x0.length:Int) r2))))
  else (
   some false))
 else (
  some false)
def aO (x0:List Int) (x1:Int) (x2:Int) (x3:Int)  (k:Int->(List Int)->Int->Option (List Int×Bool)) (v0:Int) (v1:List Int) (v2:Int):Option (List Int×Bool):=
 (H8 x2).bind λr0=>
 if decide (v2 < r0)=true then (
  (idx v1 (Zl x1 v2)).bind λa0=>
  (Jb v1 (Zl x1 v2) (C4 v0 256)).bind λy0=>
  k (E2 v0 256) y0 (Zl v2 1))
 else (
  some (v1,true))
def mO (x0:List Int) (x1:Int) (x2:Int) (x3:Int)  : Nat->Int->(List Int)->Int->Option (List Int×Bool)
 | 0,_,_,_=>none
 | m+1,v0,v1,v2=>aO x0 x1 x2 x3  (mO x0 x1 x2 x3  m) v0 v1 v2
def mP (x0:List Int) (x1:Int) (x2:Int) (x3:Int)  (v1:List Int) (v3:Bool):Option (List Int×Bool):=
 if v3=true then (
  some (v1,false))
 else (
  mO x0 x1 x2 x3 FU x3 v1 0)
def mQ (x0:List Int) (x1:Int) (x2:Int) (x3:Int):Option (List Int×Bool):=
 (Y4 8 [] x0).bind λz0=>
 (aN x0 x1 x2).bind λr1=>
 if (!r1)=true then (
  mP x0 x1 x2 x3 z0 true)
 else (
  (Qn x2).bind λr2=>
  (Z4 x3 0 (Y8 r2 1)).bind λr3=>
  mP x0 x1 x2 x3 z0 (!r3))
def aP (x0:Zn) (x1:Bool) (x2:Int) (x3:Int)  (Ad:Zn) (v0:Bool):Option (Zn×Int×Bool):=
 if v0=true then (
  (idx Ad.A2 0).bind λa0=>
  (Yv Ad.A2 1 (Ad.A2.length:Int)).bind λs0=>
  some ({Ad with A2:=s0},a0,true))
 else (
  some (Ad,0,false))
def aQ (x0:Zn) (x1:Bool) (x2:Int) (x3:Int)  (Ad:Zn) (v1:Bool):Option (Zn×Int×Bool):=
 if v1=true then (
  (Y4 8 Ad.A2 [x3]).bind λz0=>
  some ({Ad with A2:=z0},x3,true))
 else (
  if decide (x2=20)=true then (
   if (!x1)=true then (
    aP x0 x1 x2 x3 Ad (decide ((Ad.A2.length:Int) > 0)))
   else (
    aP x0 x1 x2 x3 Ad false))
  else (
   aP x0 x1 x2 x3 Ad false))
def mR (x0:Zn) (x1:Bool) (x2:Int) (x3:Int)  (Ad:Zn) (v2:Bool):Option (Zn×Int×Bool):=
 if v2=true then (
  some ({Ad with timer:=x3},x3,true))
 else (
  if decide (x2=16)=true then (
   (Qn 2).bind λr0=>
   (FG r0).bind λn0=>
   some ({Ad with timer:=(C4 (Zl Ad.timer 1) r0)},Ad.timer,true))
  else (
   if decide (x2=20)=true then (
    if x1=true then (
     aQ x0 x1 x2 x3 Ad (decide ((Ad.A2.length:Int) < 4)))
    else (
     aQ x0 x1 x2 x3 Ad false))
   else (
    aQ x0 x1 x2 x3 Ad false)))
def mS (x0:Zn) (x1:Bool) (x2:Int) (x3:Int)  (Ad:Zn) (v3:Bool):Option (Zn×Int×Bool):=
 if v3=true then (
  (idx Ad.AD (E2 x2 4)).bind λa1=>
  (Jb Ad.AD (E2 x2 4) x3).bind λy0=>
  some ({Ad with AD:=y0},x3,true))
 else (
  (Z4 x2 0 12).bind λr1=>
  if r1=true then (
   (idx Ad.AD (E2 x2 4)).bind λa2=>
   some (Ad,a2,true))
  else (
   if decide (x2=16)=true then (
    mR x0 x1 x2 x3 Ad x1)
   else (
    mR x0 x1 x2 x3 Ad false)))
def MR (x0:Zn) (x1:Bool) (x2:Int) (x3:Int)  (Ad:Zn) (v4:Bool):Option (Zn×Int×Bool):=
 if v4=true then (
  some (Ad,0,false))
 else (
  (Z4 x2 0 12).bind λr2=>
  if r2=true then (
   mS x0 x1 x2 x3 Ad x1)
  else (
   mS x0 x1 x2 x3 Ad false))
def mT (x0:Zn) (x1:Bool) (x2:Int) (x3:Int):Option (Zn×Int×Bool):=
 (aG x0).bind λr3=>
 (ZW x0).bind λr4=>
 if (!r4)=true then (
  MR x0 x1 x2 x3 r3 true)
 else (
  if decide ((C4 x2 4)≠0)=true then (
   MR x0 x1 x2 x3 r3 true)
  else (
   if x1=true then (
    (Qn 2).bind λr5=>
    (Z4 x3 0 (Y8 r5 1)).bind λr6=>
    MR x0 x1 x2 x3 r3 (!r6))
   else (
    MR x0 x1 x2 x3 r3 false)))
def aR (x0:List Int) (x1:Int) (x2:Int)  (k:Int->Int->Option (Int×Bool)) (v0:Int) (v1:Int):Option (Int×Bool):=
 if decide (v1≥0)=true then (
  (idx x0 (Zl x1 v1)).bind λa0=>
  k (Zl (X5 v0 256) a0) (Y8 v1 1))
 else (
  some (v0,true))
def mU (x0:List Int) (x1:Int) (x2:Int)  : Nat->Int->Int->Option (Int×Bool)
 | 0,_,_=>none
 | m+1,v0,v1=>aR x0 x1 x2  (mU x0 x1 x2  m) v0 v1
def mV (x0:List Int) (x1:Int) (x2:Int):Option (Int×Bool):=
 (aN x0 x1 x2).bind λr0=>
 if (!r0)=true then (
  some (0,false))
 else (
  (H8 x2).bind λr1=>
  mU x0 x1 x2 FU 0 (Y8 r1 1))
def mX (x0:Zf) (x1:Bool) (x2:Int) (x3:Int) (x4:Int)  (Ad:Zf) (At:Zn) (v0:Int) (v1:Bool):Option (Zf×Int×Int):=
 if v1=true then (
  some ((Zf.mk Ad.mem At),v0,0))
 else (
  some (Ad,0,1))
def mY (x0:Zf) (x1:Bool) (x2:Int) (x3:Int) (x4:Int)  (AJ:Zf) (v2:Int) (v3:Bool):Option (Zf×Int×Int):=
 if v3=true then (
  if x1=true then (
   (mQ x0.mem x2 x3 x4).bind λr0=>
   some ((Zf.mk r0.1 AJ.dev),x4,0))
  else (
   (mV x0.mem x2 x3).bind λr1=>
   some (AJ,r1.1,0)))
 else (
  if decide (v2=3)=true then (
   (mT x0.dev x1 (Y8 x2 192) x4).bind λr2=>
   if decide (x3=2)=true then (
    mX x0 x1 x2 x3 x4 AJ r2.1 r2.2.1 r2.2.2)
   else (
    mX x0 x1 x2 x3 x4 AJ r2.1 r2.2.1 false))
  else (
   some (AJ,0,1)))
def MS (x0:Zf) (x1:Bool) (x2:Int) (x3:Int) (x4:Int)  (AJ:Zf) (v4:Bool):Option (Zf×Int×Int):=
 if v4=true then (
  some (AJ,0,1))
 else (
  (mN x2).bind λr3=>
  if decide (r3=1)=true then (
   mY x0 x1 x2 x3 x4 AJ r3 (decide (r3=1)))
  else (
   mY x0 x1 x2 x3 x4 AJ r3 (decide (r3=2))))
def TT (x0:Zf) (x1:Bool) (x2:Int) (x3:Int) (x4:Int):Option (Zf×Int×Int):=
 (aH x0).bind λr4=>
 (ZX x0).bind λr5=>
 if (!r5)=true then (
  MS x0 x1 x2 x3 x4 r4 true)
 else (
  (Lz x2 x3).bind λr6=>
  if (!r6)=true then (
   MS x0 x1 x2 x3 x4 r4 true)
  else (
   if x1=true then (
    (Qn x3).bind λr7=>
    (Z4 x4 0 (Y8 r7 1)).bind λr8=>
    MS x0 x1 x2 x3 x4 r4 (!r8))
   else (
    MS x0 x1 x2 x3 x4 r4 false)))
def mZ (x0:Zh)  (Ad:Zh) (v0:Bool):Option (Zh×Bool):=
 if v0=true then (
  some (Ad,false))
 else (
  (O2 x0).bind λr0=>
  if decide ((Zl Ad.done 1)=r0)=true then (
   (Yv Ad.queue 1 (Ad.queue.length:Int)).bind λs0=>
   some ((Zh.mk s0 0 0 0 false false),true))
  else (
   some ((Zh.mk Ad.queue Ad.Ao (Zl Ad.done 1) 0 false Ad.broken),true)))
def nA (x0:Zh):Option (Zh×Bool):=
 (O3 x0).bind λr1=>
 (MO x0).bind λr2=>
 if (!r2)=true then (
  mZ x0 r1 true)
 else (
  mZ x0 r1 (decide (x0.Ao=x0.done)))
def aS (x0:Za) (x1:Zb)  (Ad:Za) (At:Zh) (AJ:Zt):Option Za:=
 (Y4 56 Ad.log [AJ]).bind λz0=>
 (nA At).bind λr0=>
 (idx Ad.m x0.Aa.Aj).bind λa0=>
 (Jb Ad.m x0.Aa.Aj r0.1).bind λy0=>
 if decide (Ad.Af=x0.Aa.Aj)=true then (
  if decide (r0.1.done=0)=true then (
   some {Ad with m:=y0,Af:=(-1),held:=0,log:=z0})
  else (
   some {Ad with m:=y0,log:=z0}))
 else (
  some {Ad with m:=y0,log:=z0})
def nB (x0:Za) (x1:Zb):Option Za:=
 (idx x0.m x0.Aa.Aj).bind λa1=>
 if decide (x0.Aa.Ar=2)=true then (
  (Jb x0.m x0.Aa.Aj {a1 with tries:=(Zl a1.tries 1)}).bind λy1=>
  (TS {x0 with m:=y1,Aa:=Zi.z0} x0.Aa).bind λr1=>
  some r1)
 else (
  if decide (x0.Aa.Ar=3)=true then (
   (Jb x0.m x0.Aa.Aj {a1 with Ay:=true}).bind λy2=>
   (mM x0.Ae x1 x0.Aw).bind λr2=>
   (idx x0.splits x0.Aa.Aj).bind λa2=>
   (Jb x0.splits x0.Aa.Aj r2).bind λy3=>
   (TS {x0 with m:=y2,splits:=y3,Aa:=Zi.z0} x0.Aa).bind λr3=>
   some r3)
  else (
   (idx a1.queue 0).bind λa3=>
   (R9 a1 x0.Aa.Ao).bind λr4=>
   if decide (x0.Aa.Ar=0)=true then (
    (aM a3 x0.Aa.Ao).bind λr5=>
    (TT x0.model a3.write r4 a3.size r5).bind λr6=>
    aS x0 x1 {x0 with Aa:=Zi.z0,model:=r6.1} a1 (Zt.mk x0.now x0.Aa.Aj a3.write r4 a3.size r6.2.1 x0.Aa.Ar))
   else (
    aS x0 x1 {x0 with Aa:=Zi.z0} a1 (Zt.mk x0.now x0.Aa.Aj a3.write r4 a3.size 0 x0.Aa.Ar))))
def nC (x0:Zb) (x1:Int):Option Int:=
 (aL x0.A3 x1).bind λr0=>
 if decide (r0=2)=true then (
  some r0)
 else (
  if decide (r0=3)=true then (
   some r0)
  else (
   some 0))
def nD (x0:Zg) (x1:Zb) (x2:Int):Option Int:=
 (aL x1.waits x2).bind λr0=>
 some (Fi 0 (Dp x0.As r0))
def aT (x0:Za) (x1:Zb)  (Ad:Zi):Option Za:=
 some {x0 with addr:=Zi.z0,Aa:=Ad,Aw:=(Zl x0.Aw 1)}
def Ju (x0:Za) (x1:Zb)  (Ad:Zi) (v0:Bool):Option Za:=
 if v0=true then (
  aT x0 x1 {Ad with Ar:=3})
 else (
  aT x0 x1 Ad)
def TU (x0:Za) (x1:Zb)  (Ad:Zi) (At:Zh) (v1:Int) (v2:Int):Option Za:=
 if (!At.broken)=true then (
  if decide (v2=3)=true then (
   if decide (v1=2)=true then (
    if (!At.Ay)=true then (
     Ju x0 x1 Ad (decide (x0.Af≠Ad.Aj)))
    else (
     Ju x0 x1 Ad false))
   else (
    Ju x0 x1 Ad false))
  else (
   Ju x0 x1 Ad false))
 else (
  Ju x0 x1 Ad false)
def Jp (x0:Za) (x1:Zb)  (Ad:Zi) (At:Zh) (v1:Int) (v2:Int) (v3:Bool):Option Za:=
 if v3=true then (
  TU x0 x1 {Ad with Ar:=2} At v1 v2)
 else (
  TU x0 x1 Ad At v1 v2)
def TV (x0:Za) (x1:Zb)  (Ad:Zi) (At:Zh) (v1:Int) (v2:Int):Option Za:=
 if (!At.broken)=true then (
  if decide (v2=2)=true then (
   if decide (v1=1)=true then (
    Jp x0 x1 Ad At v1 v2 (decide (At.tries < x0.Ae.An)))
   else (
    if decide (v1=2)=true then (
     Jp x0 x1 Ad At v1 v2 (decide (At.tries < x0.Ae.An)))
    else (
     Jp x0 x1 Ad At v1 v2 false)))
  else (
   Jp x0 x1 Ad At v1 v2 false))
 else (
  Jp x0 x1 Ad At v1 v2 false)
def TW (x0:Za) (x1:Zb)  (Ad:Zi) (At:Zh) (v1:Int) (v2:Int) (v4:Bool):Option Za:=
 if v4=true then (
  TV x0 x1 {Ad with left:=(Zl Ad.left 2)} At v1 v2)
 else (
  TV x0 x1 Ad At v1 v2)
def TX (x0:Za) (x1:Zb)  (Ad:Zi) (At:Zh) (v1:Int) (v2:Int):Option Za:=
 if decide (v1=3)=true then (
  TW x0 x1 Ad At v1 v2 (!At.broken))
 else (
  TW x0 x1 Ad At v1 v2 false)
def TY (x0:Za) (x1:Zb)  (AJ:Zh) (TZ:Zj) (v5:Int) (v1:Int) (v2:Int) (v6:Bool):Option Za:=
 if v6=true then (
  TX x0 x1 {x0.addr with Ar:=1} AJ v1 v2)
 else (
  (nD x0.Ae x1 x0.Aw).bind λr0=>
  (aM TZ x0.addr.Ao).bind λr1=>
  (TT x0.model TZ.write v5 TZ.size r1).bind λr2=>
  TX x0 x1 {x0.addr with left:=r0,Ar:=r2.2.2} AJ v1 v2)
def nE (x0:Za) (x1:Zb):Option Za:=
 if (!x0.addr.live)=true then (
  some {x0 with addr:=Zi.z0})
 else (
  (idx x0.m x0.addr.Aj).bind λa0=>
  (idx a0.queue 0).bind λa1=>
  (R9 a0 x0.addr.Ao).bind λr3=>
  (mN r3).bind λr4=>
  (nC x1 x0.Aw).bind λr5=>
  if a0.broken=true then (
   TY x0 x1 a0 a1 r3 r4 r5 true)
  else (
   TY x0 x1 a0 a1 r3 r4 r5 (decide (r4=0))))
def aU (x0:Zh):Option Bool:=
 (MO x0).bind λr0=>
 if r0=true then (
  (O2 x0).bind λr1=>
  some (decide (x0.Ao < r1)))
 else (
  some false)
def aV (x0:Zk) (x1:Zd)  (v0:Bool):Option (Zk×Bool):=
 if v0=true then (
  some (x0,false))
 else (
  some ((Zk.mk (Y8 x0.tokens 1) x0.count),true))
def nF (x0:Zk) (x1:Zd):Option (Zk×Bool):=
 if (!x1.prio)=true then (
  aV x0 x1 true)
 else (
  (R6 x0 x1).bind λr0=>
  if (!r0)=true then (
   aV x0 x1 true)
  else (
   aV x0 x1 (decide (x0.tokens=0))))
def nG (x0:Zh)  (Ad:Zh) (v0:Bool):Option (Zh×Bool):=
 if v0=true then (
  some (Ad,false))
 else (
  some ({Ad with Ao:=(Zl Ad.Ao 1)},true))
def nH (x0:Zh):Option (Zh×Bool):=
 (O3 x0).bind λr0=>
 (aU x0).bind λr1=>
 if (!r1)=true then (
  nG x0 r0 true)
 else (
  nG x0 r0 (decide (x0.Ao=(Zl x0.done 2))))
def Zuw (x0:Yg) (x1:Zg) (x2:List Bool)  (k:Int->Option (Yg×Int)) (v0:Int):Option (Yg×Int):=
 if decide (v0<=(x2.length:Int))=true then (
  (FG (x2.length:Int)).bind λn0=>
  (idx x2 (C4 (Zl x0.at_ v0) (x2.length:Int))).bind λa0=>
  if a0=true then (
   (R4 x1 (C4 (Zl x0.at_ v0) (x2.length:Int))).bind λr0=>
   some ((Yg.mk (C4 (Zl x0.at_ v0) (x2.length:Int)) (Y8 r0 1)),(C4 (Zl x0.at_ v0) (x2.length:Int))))
  else (
   k (Zl v0 1)))
 else (
  some ((Yg.mk x0.at_ 0),(-1)))
def nI (x0:Yg) (x1:Zg) (x2:List Bool)  : Nat->Int->Option (Yg×Int)
 | 0,_=>none
 | m+1,v0=>Zuw x0 x1 x2  (nI x0 x1 x2  m) v0
def nJ (x0:Yg) (x1:Zg) (x2:List Bool)  (v1:Bool):Option (Yg×Int):=
 if v1=true then (
  some ((Yg.mk x0.at_ (Y8 x0.Bd 1)),x0.at_))
 else (
  nI x0 x1 x2 FU 1)
def nK (x0:Yg) (x1:Zg) (x2:List Bool)  (v2:Bool):Option (Yg×Int):=
 if v2=true then (
  some (x0,(-1)))
 else (
  if decide (x0.Bd > 0)=true then (
   (idx x2 x0.at_).bind λa1=>
   nJ x0 x1 x2 a1)
  else (
   nJ x0 x1 x2 false))
def nL (x0:Yg) (x1:Zg) (x2:List Bool):Option (Yg×Int):=
 (TP x0 x1).bind λr1=>
 if (!r1)=true then (
  nK x0 x1 x2 true)
 else (
  nK x0 x1 x2 (decide ((x2.length:Int)≠(x1.Ab.length:Int))))
def nM (x0:Za) (DO:Za->Zi->(List Bool)->Int->Option Za) (Ad:Za) (At:Zi) (v0:List Bool) (v1:Int) (v2:Bool):Option Za:=
 if v2=true then (
  (idx Ad.buckets v1).bind λa0=>
  (idx Ad.Ae.Ab v1).bind λa1=>
  (nF a0 a1).bind λr0=>
  (Jb Ad.buckets v1 r0.1).bind λy0=>
  DO {Ad with buckets:=y0} (Zi.mk false v1 0 false 1 0 0 false) v0 (Zl v1 1))
 else (
  DO Ad At v0 (Zl v1 1))
def nN (x0:Za)  (Ad:Za) (At:Zi) (AJ:Zh):Option Za:=
 (nH AJ).bind λr1=>
 (idx Ad.m At.Aj).bind λa2=>
 (Jb Ad.m At.Aj r1.1).bind λy1=>
 some {Ad with m:=y1,last:=At.Aj,addr:=At}
def aW (x0:Za)  (Ad:Za) (At:Zi) (AJ:Zh) (v3:Bool):Option Za:=
 if v3=true then (
  nN x0 {Ad with Af:=At.Aj,held:=0} At AJ)
 else (
  nN x0 Ad At AJ)
def aX (x0:Za)  (Ad:Za) (At:Zi) (AJ:Zh):Option Za:=
 (idx AJ.queue 0).bind λa3=>
 if a3.lock=true then (
  if (!AJ.broken)=true then (
   aW x0 Ad At AJ (decide (Ad.Af < 0)))
  else (
   aW x0 Ad At AJ false))
 else (
  aW x0 Ad At AJ false)
def O4 (x0:Za)  (Ad:Za) (At:Zi):Option Za:=
 if decide (At.Aj < 0)=true then (
  some Ad)
 else (
  (idx Ad.m At.Aj).bind λa4=>
  if decide (a4.Ao=0)=true then (
   aX x0 Ad {At with live:=true,Ao:=a4.Ao,first:=true} a4)
  else (
   aX x0 Ad {At with live:=true,Ao:=a4.Ao,first:=(decide (Ad.last≠At.Aj))} a4))
def aY (x0:Za)  (Ad:Za) (At:Zi) (v0:List Bool) (v4:Bool):Option Za:=
 if v4=true then (
  (nL Ad.Bo Ad.Ae v0).bind λr2=>
  O4 x0 {Ad with Bo:=r2.1} {At with Aj:=r2.2,B5:=2})
 else (
  O4 x0 Ad At)
def Ua (x0:Za) (DO:Za->Zi->(List Bool)->Int->Option Za) (Ad:Za) (At:Zi) (v0:List Bool) (v1:Int) (v5:Bool):Option Za:=
 if v5=true then (
  (idx v0 v1).bind λa5=>
  if a5=true then (
   (idx Ad.buckets v1).bind λa6=>
   nM x0 DO Ad At v0 v1 (decide (a6.tokens > 0)))
  else (
   nM x0 DO Ad At v0 v1 false))
 else (
  if decide (At.Aj < 0)=true then (
   aY x0 Ad At v0 (decide (Ad.Af < 0)))
  else (
   aY x0 Ad At v0 false))
def RA (x0:Za)  (k:Za->Zi->(List Bool)->Int->Option Za) (Ad:Za) (At:Zi) (v0:List Bool) (v1:Int):Option Za:=
 if decide (v1 < (Ad.m.length:Int))=true then (
  Ua x0 k Ad At v0 v1 (decide (At.Aj < 0)))
 else (
  Ua x0 k Ad At v0 v1 false)
def RB (x0:Za)  : Nat->Za->Zi->(List Bool)->Int->Option Za
 | 0,_,_,_,_=>none
 | m+1,Ad,At,v0,v1=>RA x0  (RB x0  m) Ad At v0 v1
def nO (x0:Za)  (At:Zi) (v0:List Bool):Option Za:=
 RB x0 FU x0 At v0 0
def nP (x0:Za)  (v0:List Bool) (v6:Bool):Option Za:=
 if v6=true then (
  nO x0 (Zi.mk false x0.Af 0 false 3 0 0 false) v0)
 else (
  nO x0 (Zi.mk false (-1) 0 false 0 0 0 false) v0)
def nQ (x0:Za)  (k:(List Bool)->Int->Option Za) (v0:List Bool) (v7:Int):Option Za:=
 if decide (v7 < (x0.m.length:Int))=true then (
  (idx x0.m v7).bind λa7=>
  (aU a7).bind λr3=>
  if r3=true then (
   (idx x0.splits v7).bind λa8=>
   if decide (a8=0)=true then (
    if decide (x0.Af < 0)=true then (
     (Y4 1 v0 [true]).bind λz0=>
     k z0 (Zl v7 1))
    else (
     (Y4 1 v0 [decide (x0.Af=v7)]).bind λz0=>
     k z0 (Zl v7 1)))
   else (
    (Y4 1 v0 [false]).bind λz0=>
    k z0 (Zl v7 1)))
  else (
   (Y4 1 v0 [false]).bind λz0=>
   k z0 (Zl v7 1)))
 else (
  if decide (x0.Af≥0)=true then (
   (idx v0 x0.Af).bind λa9=>
   nP x0 v0 a9)
  else (
   nP x0 v0 false))
def nR (x0:Za)  : Nat->(List Bool)->Int->Option Za
 | 0,_,_=>none
 | m+1,v0,v7=>nQ x0  (nR x0  m) v0 v7
def nS (x0:Za):Option Za:=
 nR x0 FU [] 0
def Ub (x0:Za) (x1:Zb)  (Ad:Za) (At:Zr):Option (Za×Zr):=
 some ({Ad with now:=(Zl Ad.now 1)},At)
def Uc (x0:Za) (x1:Zb)  (Ad:Za) (AJ:Zr):Option (Za×Zr):=
 (nE Ad x1).bind λr0=>
 (nS r0).bind λr1=>
 if r1.addr.live=true then (
  Ub x0 x1 r1 {AJ with C5:=r1.addr.Aj})
 else (
  Ub x0 x1 r1 AJ)
def O5 (x0:Za) (x1:Zb)  (Ad:Za) (AJ:Zr) (v0:Bool):Option (Za×Zr):=
 if v0=true then (
  (idx Ad.m Ad.Af).bind λa0=>
  (Jb Ad.m Ad.Af {a0 with broken:=true}).bind λy0=>
  Uc x0 x1 {Ad with m:=y0,Af:=(-1),held:=0} AJ)
 else (
  Uc x0 x1 Ad AJ)
def K8 (x0:Za) (x1:Zb)  (Ad:Za) (AJ:Zr):Option (Za×Zr):=
 if AJ.ready=true then (
  if decide (Ad.Af≥0)=true then (
   O5 x0 x1 Ad AJ (decide (Ad.held≥Ad.Ae.Al)))
  else (
   O5 x0 x1 Ad AJ false))
 else (
  Ub x0 x1 Ad AJ)
def O6 (x0:Za) (x1:Zb)  (Ad:Za) (AJ:Zr) (v1:Bool):Option (Za×Zr):=
 if v1=true then (
  if Ad.addr.live=true then (
   (TS {Ad with addr:=Zi.z0,Aa:={Ad.Aa with second:=true}} Ad.addr).bind λr2=>
   K8 x0 x1 r2 {AJ with ready:=false,Ar:=Ad.Aa.Ar})
  else (
   K8 x0 x1 {Ad with Aa:={Ad.Aa with second:=true}} {AJ with ready:=false,Ar:=Ad.Aa.Ar}))
 else (
  if Ad.Aa.live=true then (
   (nB Ad x1).bind λr3=>
   K8 x0 x1 r3 {AJ with Ar:=Ad.Aa.Ar})
  else (
   K8 x0 x1 Ad AJ))
def nT (x0:Za) (x1:Zb)  (Ad:Za) (AJ:Zr) (v2:Bool):Option (Za×Zr):=
 if v2=true then (
  K8 x0 x1 {Ad with Aa:={Ad.Aa with left:=(Y8 Ad.Aa.left 1)}} {AJ with ready:=false})
 else (
  if Ad.Aa.live=true then (
   if decide (Ad.Aa.Ar≠0)=true then (
    O6 x0 x1 Ad AJ (!Ad.Aa.second))
   else (
    O6 x0 x1 Ad AJ false))
  else (
   O6 x0 x1 Ad AJ false))
def O7 (x0:Za) (x1:Zb)  (Ad:Za) (AJ:Zr):Option (Za×Zr):=
 if Ad.Aa.live=true then (
  nT x0 x1 Ad AJ (decide (Ad.Aa.left > 0)))
 else (
  nT x0 x1 Ad AJ false)
def nU (x0:Za) (x1:Zb)  (k:Za->Zr->Int->Option (Za×Zr)) (Ad:Za) (AJ:Zr) (v3:Int):Option (Za×Zr):=
 if decide (v3 < (Ad.m.length:Int))=true then (
  (idx Ad.splits v3).bind λa1=>
  (Jb Ad.splits v3 (Fi 0 (Y8 a1 1))).bind λy1=>
  (idx Ad.buckets v3).bind λa2=>
  (idx Ad.Ae.Ab v3).bind λa3=>
  (mF a2 a3).bind λr4=>
  (Jb Ad.buckets v3 r4).bind λy2=>
  k {Ad with buckets:=y2,splits:=y1} AJ (Zl v3 1))
 else (
  if decide (Ad.Af≥0)=true then (
   O7 x0 x1 {Ad with held:=(Dp Ad.Ae.Al (Zl Ad.held 1))} AJ)
  else (
   O7 x0 x1 Ad AJ))
def RC (x0:Za) (x1:Zb)  : Nat->Za->Zr->Int->Option (Za×Zr)
 | 0,_,_,_=>none
 | m+1,Ad,AJ,v3=>nU x0 x1  (RC x0 x1  m) Ad AJ v3
def nV (x0:Za) (x1:Zb)  (k:Za->Zr->(List Zm)->Int->Option (Za×Zr)) (Ad:Za) (AJ:Zr) (v4:List Zm) (v5:Int):Option (Za×Zr):=
 if decide (v5 < (v4.length:Int))=true then (
  (idx v4 v5).bind λa4=>
  (Z4 a4.Aj 0 (Y8 (Ad.m.length:Int) 1)).bind λr5=>
  if r5=true then (
   (idx Ad.m a4.Aj).bind λa5=>
   (mD a5 a4.Bq).bind λr6=>
   (Jb Ad.m a4.Aj r6.1).bind λy3=>
   k {Ad with m:=y3} AJ v4 (Zl v5 1))
  else (
   k Ad AJ v4 (Zl v5 1)))
 else (
  RC x0 x1 FU Ad AJ 0)
def aZ (x0:Za) (x1:Zb)  : Nat->Za->Zr->(List Zm)->Int->Option (Za×Zr)
 | 0,_,_,_,_=>none
 | m+1,Ad,AJ,v4,v5=>nV x0 x1  (aZ x0 x1  m) Ad AJ v4 v5
def bA (x0:Za) (x1:Zb):Option (Za×Zr):=
 (TR x0).bind λr7=>
 (l9 r7).bind λr8=>
 (mC x1 r7.now).bind λr9=>
 aZ x0 x1 FU r7 r8 r9 0
def nW (x0:Za) (x1:Zb)  (v0:Bool):Option (Za×Zr):=
 if v0=true then (
  (TR x0).bind λr0=>
  some (r0,Zr.z0))
 else (
  (bA x0 x1).bind λr1=>
  some (r1.1,r1.2))
def nX (x0:Za) (x1:Zb):Option (Za×Zr):=
 (L0 x0).bind λr2=>
 if (!r2)=true then (
  nW x0 x1 true)
 else (
  nW x0 x1 (decide (x0.now=4000)))
def nY (x0:Int):Option ByteArray:=
 if decide (x0=0)=true then (
  some (Ze [105,100,108,101]))
 else (
  if decide (x0=2)=true then (
   some (Ze [102,105,114,115,116]))
  else (
   if decide (x0=3)=true then (
    some (Ze [110,101,120,116]))
   else (
    some ByteArray.empty)))
def MT (x0:Int):Option ByteArray:=
 if decide (x0 < 0)=true then (
  some (Ze [45]))
 else (
  (Qs x0).bind λr0=>
  some r0)
def bB (x0:Zr)  (v0:ByteArray):Option ByteArray:=
 (MP x0.Ar).bind λr0=>
 (Z9 v0 r0).bind λn0=>
 (Z9 (v0++r0) (Ze [32])).bind λn1=>
 (MT x0.C5).bind λr1=>
 (Z9 ((v0++r0)++(Ze [32])) r1).bind λn2=>
 some (((v0++r0)++(Ze [32]))++r1)
def nZ (x0:Zr):Option ByteArray:=
 (Qs x0.A5).bind λr2=>
 (Z9 r2 (Ze [32])).bind λn3=>
 (nY x0.kind).bind λr3=>
 (Z9 (r2++(Ze [32])) r3).bind λn4=>
 (Z9 ((r2++(Ze [32]))++r3) (Ze [32])).bind λn5=>
 (MT x0.Aj).bind λr4=>
 (Z9 (((r2++(Ze [32]))++r3)++(Ze [32])) r4).bind λn6=>
 (Z9 ((((r2++(Ze [32]))++r3)++(Ze [32]))++r4) (Ze [58])).bind λn7=>
 (MT x0.addr).bind λr5=>
 (Z9 (((((r2++(Ze [32]))++r3)++(Ze [32]))++r4)++(Ze [58])) r5).bind λn8=>
 (Z9 ((((((r2++(Ze [32]))++r3)++(Ze [32]))++r4)++(Ze [58]))++r5) (Ze [32])).bind λn9=>
 (MT x0.from_).bind λr6=>
 (Z9 (((((((r2++(Ze [32]))++r3)++(Ze [32]))++r4)++(Ze [58]))++r5)++(Ze [32])) r6).bind λn10=>
 (Z9 ((((((((r2++(Ze [32]))++r3)++(Ze [32]))++r4)++(Ze [58]))++r5)++(Ze [32]))++r6) (Ze [58])).bind λn11=>
 (MT x0.Aa).bind λr7=>
 (Z9 (((((((((r2++(Ze [32]))++r3)++(Ze [32]))++r4)++(Ze [58]))++r5)++(Ze [32]))++r6)++(Ze [58])) r7).bind λn12=>
 (Z9 ((((((((((r2++(Ze [32]))++r3)++(Ze [32]))++r4)++(Ze [58]))++r5)++(Ze [32]))++r6)++(Ze [58]))++r7) (Ze [32])).bind λn13=>
 if x0.ready=true then (
  (Z9 (((((((((((r2++(Ze [32]))++r3)++(Ze [32]))++r4)++(Ze [58]))++r5)++(Ze [32]))++r6)++(Ze [58]))++r7)++(Ze [32])) (Ze [114,101,97,100,121,32])).bind λn14=>
  bB x0 ((((((((((((r2++(Ze [32]))++r3)++(Ze [32]))++r4)++(Ze [58]))++r5)++(Ze [32]))++r6)++(Ze [58]))++r7)++(Ze [32]))++(Ze [114,101,97,100,121,32])))
 else (
  (Z9 (((((((((((r2++(Ze [32]))++r3)++(Ze [32]))++r4)++(Ze [58]))++r5)++(Ze [32]))++r6)++(Ze [58]))++r7)++(Ze [32])) (Ze [119,97,105,116,32])).bind λn15=>
  bB x0 ((((((((((((r2++(Ze [32]))++r3)++(Ze [32]))++r4)++(Ze [58]))++r5)++(Ze [32]))++r6)++(Ze [58]))++r7)++(Ze [32]))++(Ze [119,97,105,116,32])))
def Ylj (x0:Za)  (k:Int->Option Bool) (v0:Int):Option Bool:=
 if decide (v0 < (x0.m.length:Int))=true then (
  (idx x0.m v0).bind λa0=>
  if decide ((a0.queue.length:Int) > 0)=true then (
   some false)
  else (
   k (Zl v0 1)))
 else (
  some true)
def oA (x0:Za)  : Nat->Int->Option Bool
 | 0,_=>none
 | m+1,v0=>Ylj x0  (oA x0  m) v0
def oC (x0:Za):Option Bool:=
 oA x0 FU 0
def Yhz (x0:Zb)  (k:Int->Int->Option Int) (v0:Int) (v1:Int):Option Int:=
 if decide (v1 < (x0.Am.length:Int))=true then (
  (idx x0.Am v1).bind λa0=>
  k (Fi v0 a0.at_) (Zl v1 1))
 else (
  some v0)
def oD (x0:Zb)  : Nat->Int->Int->Option Int
 | 0,_,_=>none
 | m+1,v0,v1=>Yhz x0  (oD x0  m) v0 v1
def oF (x0:Zb):Option Int:=
 oD x0 FU (-1) 0
def Ud (x0:Za) (x1:Zb) (A4:Za->Int->Option (Za×Int)) (Ad:Za) (v0:Int) (v1:Bool):Option (Za×Int):=
 if v1=true then (
  (bA Ad x1).bind λr0=>
  A4 r0.1 (Zl v0 1))
 else (
  some (Ad,v0))
def bC (x0:Za) (x1:Zb)  (k:Za->Int->Option (Za×Int)) (Ad:Za) (v0:Int):Option (Za×Int):=
 if decide (Ad.now < 4000)=true then (
  (oC Ad).bind λr1=>
  if (!r1)=true then (
   Ud x0 x1 k Ad v0 true)
  else (
   (oF x1).bind λr2=>
   Ud x0 x1 k Ad v0 (decide (Ad.now<=r2))))
 else (
  Ud x0 x1 k Ad v0 false)
def RD (x0:Za) (x1:Zb)  : Nat->Za->Int->Option (Za×Int)
 | 0,_,_=>none
 | m+1,Ad,v0=>bC x0 x1  (RD x0 x1  m) Ad v0
def oG (x0:Za) (x1:Zb):Option (Za×Int):=
 (TR x0).bind λr3=>
 (L0 x0).bind λr4=>
 if (!r4)=true then (
  some (r3,0))
 else (
  RD x0 x1 FU r3 0)
def Ykh (x0:Za)  (k:Int->Option Bool) (v0:Int):Option Bool:=
 if decide (v0 < (x0.m.length:Int))=true then (
  (idx x0.m v0).bind λa0=>
  if decide ((a0.queue.length:Int) > 0)=true then (
   some false)
  else (
   k (Zl v0 1)))
 else (
  (L0 x0).bind λr0=>
  some r0)
def oH (x0:Za)  : Nat->Int->Option Bool
 | 0,_=>none
 | m+1,v0=>Ykh x0  (oH x0  m) v0
def oI (x0:Za):Option Bool:=
 oH x0 FU 0
def oJ (x0:List Zt) (A4:Zf->Int->Option (Zf×Int)) (Ad:Zf) (At:Zf) (v0:Int) (v1:Bool):Option (Zf×Int):=
 if v1=true then (
  some (Ad,v0))
 else (
  A4 At (Zl v0 1))
def Zwc (x0:List Zt)  (k:Zf->Int->Option (Zf×Int)) (Ad:Zf) (v0:Int):Option (Zf×Int):=
 if decide (v0 < (x0.length:Int))=true then (
  (idx x0 v0).bind λa0=>
  if decide (a0.Ar=1)=true then (
   k Ad (Zl v0 1))
  else (
   (TT Ad a0.write a0.addr a0.size a0.value).bind λr0=>
   if decide (r0.2.2≠a0.Ar)=true then (
    oJ x0 k Ad r0.1 v0 true)
   else (
    oJ x0 k Ad r0.1 v0 (decide (r0.2.1≠a0.value)))))
 else (
  some (Ad,(-1)))
def bD (x0:List Zt)  : Nat->Zf->Int->Option (Zf×Int)
 | 0,_,_=>none
 | m+1,Ad,v0=>Zwc x0  (bD x0  m) Ad v0
def oK (x0:List Zt):Option (Zf×Int):=
 (ZR).bind λr1=>
 bD x0 FU r1 0
def bE (x0:Zt)  (v0:ByteArray):Option ByteArray:=
 (Qs x0.A5).bind λr0=>
 (Z9 r0 (Ze [32])).bind λn0=>
 (Qs x0.Aj).bind λr1=>
 (Z9 (r0++(Ze [32])) r1).bind λn1=>
 (Z9 ((r0++(Ze [32]))++r1) (Ze [32])).bind λn2=>
 (Z9 (((r0++(Ze [32]))++r1)++(Ze [32])) v0).bind λn3=>
 (Qs x0.addr).bind λr2=>
 (Z9 ((((r0++(Ze [32]))++r1)++(Ze [32]))++v0) r2).bind λn4=>
 (Z9 (((((r0++(Ze [32]))++r1)++(Ze [32]))++v0)++r2) (Ze [32])).bind λn5=>
 (Qs x0.value).bind λr3=>
 (Z9 ((((((r0++(Ze [32]))++r1)++(Ze [32]))++v0)++r2)++(Ze [32])) r3).bind λn6=>
 (Z9 (((((((r0++(Ze [32]))++r1)++(Ze [32]))++v0)++r2)++(Ze [32]))++r3) (Ze [32])).bind λn7=>
 (MP x0.Ar).bind λr4=>
 (Z9 ((((((((r0++(Ze [32]))++r1)++(Ze [32]))++v0)++r2)++(Ze [32]))++r3)++(Ze [32])) r4).bind λn8=>
 some (((((((((r0++(Ze [32]))++r1)++(Ze [32]))++v0)++r2)++(Ze [32]))++r3)++(Ze [32]))++r4)
def oL (x0:Zt):Option ByteArray:=
 if x0.write=true then (
  bE x0 (Ze [119,114,105,116,101,32]))
 else (
  bE x0 (Ze [114,101,97,100,32]))
def oM (x0:Zz) (x1:ByteArray):Option (Zz×ByteArray):=
 if (x1.toList == (Ze [110,101,119]).toList)=true then (
  (lK x0.c).bind λr0=>
  if (!r0.2)=true then (
   some (x0,(Ze [110,111])))
  else (
   some ({x0 with b:=r0.1,on:=true},(Ze [111,107]))))
 else (
  if (x1.toList == (Ze [99,111,110,102]).toList)=true then (
   (R3 x0.c).bind λr1=>
   if (r1.toList == ByteArray.empty.toList)=true then (
    some (x0,(Ze [110,111,110,101])))
   else (
    some (x0,r1)))
  else (
   (Ly [(Ze [115,116,101,112]),(Ze [111,117,116]),(Ze [108,111,103]),(Ze [105,100,108,101]),(Ze [111,107])] x1).bind λr2=>
   if decide (r2 < 0)=true then (
    some (x0,(Ze [119,104,97,116])))
   else (
    if (!x0.on)=true then (
     some (x0,(Ze [110,111,110,101])))
    else (
     if (x1.toList == (Ze [115,116,101,112]).toList)=true then (
      (nX x0.b x0.s).bind λr3=>
      if decide (x0.b.now=4000)=true then (
       some (x0,(Ze [101,110,100])))
      else (
       (nZ r3.2).bind λr4=>
       some ({x0 with b:=r3.1},r4)))
     else (
      if (x1.toList == (Ze [111,117,116]).toList)=true then (
       (oG x0.b x0.s).bind λr5=>
       (Qs r5.2).bind λr6=>
       some ({x0 with b:=r5.1},r6))
      else (
       if (x1.toList == (Ze [105,100,108,101]).toList)=true then (
        (oI x0.b).bind λr7=>
        if r7=true then (
         some (x0,(Ze [121,101,115])))
        else (
         some (x0,(Ze [110,111]))))
       else (
        if (x1.toList == (Ze [111,107]).toList)=true then (
         (oK x0.b.log).bind λr8=>
         (MT r8.2).bind λr9=>
         some (x0,r9))
        else (
         if decide ((x0.b.log.length:Int)=0)=true then (
          some (x0,(Ze [45])))
         else (
          (idx x0.b.log (Y8 (x0.b.log.length:Int) 1)).bind λa0=>
          (oL a0).bind λEK=>
          (Z9 EK (Ze [32,111,102,32])).bind λn0=>
          (Qs (x0.b.log.length:Int)).bind λHe=>
          (Z9 (EK++(Ze [32,111,102,32])) He).bind λn1=>
          some (x0,((EK++(Ze [32,111,102,32]))++He)))))))))))
def bF (x0:ByteArray) (A4:Int->Int->Int->Option (Int×Bool)) (v0:Int) (v1:Int) (v2:Int) (v3:Bool):Option (Int×Bool):=
 if v3=true then (
  (FH x0 v2).bind λa0=>
  A4 (Zl (X5 v0 10) (JL (Y5h a0 48))) (Zl v1 1) (Zl v2 1))
 else (
  A4 v0 v1 (Zl v2 1))
def RE (x0:ByteArray)  (v0:Int) (v1:Int):Option (Int×Bool):=
 if decide (v1 > 9)=true then (
  some (0,false))
 else (
  if decide ((x0.size:Int) > 10)=true then (
   some (0,false))
  else (
   (Qs v0).bind λr0=>
   if (!(r0.toList == x0.toList))=true then (
    some (0,false))
   else (
    some (v0,true))))
def Wr (x0:ByteArray)  (v0:Int) (v1:Int) (v4:Bool):Option (Int×Bool):=
 if v4=true then (
  RE x0 (TL v0) v1)
 else (
  RE x0 v0 v1)
def Ue (x0:ByteArray) (A4:Int->Int->Int->Option (Int×Bool)) (v0:Int) (v1:Int) (v2:Int) (v5:Bool):Option (Int×Bool):=
 if v5=true then (
  (FH x0 v2).bind λa1=>
  if decide (a1≥48)=true then (
   bF x0 A4 v0 v1 v2 (decide (a1<=57)))
  else (
   bF x0 A4 v0 v1 v2 false))
 else (
  if decide ((x0.size:Int) > 0)=true then (
   (FH x0 0).bind λa2=>
   Wr x0 v0 v1 (decide (a2=45)))
  else (
   Wr x0 v0 v1 false))
def oN (x0:ByteArray)  (k:Int->Int->Int->Option (Int×Bool)) (v0:Int) (v1:Int) (v2:Int):Option (Int×Bool):=
 if decide (v2 < (x0.size:Int))=true then (
  Ue x0 k v0 v1 v2 (decide (v2 < 11)))
 else (
  Ue x0 k v0 v1 v2 false)
def oO (x0:ByteArray)  : Nat->Int->Int->Int->Option (Int×Bool)
 | 0,_,_,_=>none
 | m+1,v0,v1,v2=>oN x0  (oO x0  m) v0 v1 v2
def J9 (x0:ByteArray):Option (Int×Bool):=
 oO x0 FU 0 0 0
def RG (x0:ByteArray) (A4:Zg->(List ByteArray)->Int->Option (Zg×Bool)) (Ad:Zg) (At:Zd) (v0:List ByteArray) (v1:Int):Option (Zg×Bool):=
 (Y4 32 Ad.Ab [At]).bind λz0=>
 A4 {Ad with Ab:=z0} v0 (Zl v1 1)
def bG (x0:ByteArray)  (k:Zg->(List ByteArray)->Int->Option (Zg×Bool)) (Ad:Zg) (v0:List ByteArray) (v1:Int):Option (Zg×Bool):=
 if decide (v1 < (v0.length:Int))=true then (
  (idx v0 v1).bind λa0=>
  (W0 a0 58).bind λr0=>
  (idx r0 0).bind λa1=>
  (J9 a1).bind λr1=>
  if decide ((r0.length:Int)=3)=true then (
   (idx r0 1).bind λa2=>
   (J9 a2).bind λr2=>
   (idx r0 2).bind λa3=>
   (J9 a3).bind λr3=>
   RG x0 k Ad (Zd.mk r1.1 true r2.1 r3.1) v0 v1)
  else (
   RG x0 k Ad (Zd.mk r1.1 false 0 0) v0 v1))
 else (
  (R3 Ad).bind λr4=>
  if (!(r4.toList == x0.toList))=true then (
   some (Zg.z0,false))
  else (
   if (x0.toList == ByteArray.empty.toList)=true then (
    some (Zg.z0,false))
   else (
    some (Ad,true))))
def Jv (x0:ByteArray)  : Nat->Zg->(List ByteArray)->Int->Option (Zg×Bool)
 | 0,_,_,_=>none
 | m+1,Ad,v0,v1=>bG x0  (Jv x0  m) Ad v0 v1
def O8 (x0:ByteArray):Option (Zg×Bool):=
 (W0 x0 32).bind λr5=>
 if decide ((r5.length:Int) < 6)=true then (
  some (Zg.z0,false))
 else (
  (idx r5 0).bind λa4=>
  (J9 a4).bind λr6=>
  (idx r5 1).bind λa5=>
  (J9 a5).bind λr7=>
  (idx r5 2).bind λa6=>
  (J9 a6).bind λr8=>
  (idx r5 3).bind λa7=>
  (J9 a7).bind λr9=>
  (idx r5 4).bind λa8=>
  (J9 a8).bind λEK=>
  Jv x0 FU (Zg.mk [] r6.1 r7.1 r8.1 r9.1 EK.1) r5 5)
def O9 (x0:ByteArray) (A4:ByteArray->Int->Int->Int->Option Int) (v0:ByteArray) (v1:Int) (v2:Int) (v3:Int) (v4:Bool):Option Int:=
 if v4=true then (
  some 0)
 else (
  (FH v0 v3).bind λa0=>
  A4 v0 v1 (Y8 (Zl (X5 v2 10) (JL a0)) 48) (Zl v3 1))
def bH (x0:ByteArray)  (k:ByteArray->Int->Int->Int->Option Int) (v0:ByteArray) (v1:Int) (v2:Int) (v3:Int):Option Int:=
 if decide (v3 < (v0.size:Int))=true then (
  (FH v0 v3).bind λa1=>
  if decide (a1 < 48)=true then (
   O9 x0 k v0 v1 v2 v3 true)
  else (
   if decide (a1 > 57)=true then (
    O9 x0 k v0 v1 v2 v3 true)
   else (
    O9 x0 k v0 v1 v2 v3 (decide ((v0.size:Int) > 18)))))
 else (
  some (X5 v1 v2))
def OA (x0:ByteArray)  : Nat->ByteArray->Int->Int->Int->Option Int
 | 0,_,_,_,_=>none
 | m+1,v0,v1,v2,v3=>bH x0  (OA x0  m) v0 v1 v2 v3
def RH (x0:ByteArray)  (v0:ByteArray) (v1:Int):Option Int:=
 OA x0 FU v0 v1 0 0
def MU (x0:ByteArray)  (v5:Bool):Option Int:=
 if v5=true then (
  (EI x0 1 (x0.size:Int)).bind λs0=>
  RH x0 s0 (-1))
 else (
  RH x0 x0 1)
def OB (x0:ByteArray):Option Int:=
 if decide ((x0.size:Int) > 0)=true then (
  (FH x0 0).bind λa2=>
  MU x0 (decide (a2=45)))
 else (
  MU x0 false)
def Uf (x0:List ByteArray)  (k:(List Int)->Int->Option (List Int)) (v0:List Int) (v1:Int):Option (List Int):=
 if decide (v1 < (x0.length:Int))=true then (
  (idx x0 v1).bind λa0=>
  (OB a0).bind λr0=>
  (Y4 8 v0 [r0]).bind λz0=>
  k z0 (Zl v1 1))
 else (
  some v0)
def Ug (x0:List ByteArray)  : Nat->(List Int)->Int->Option (List Int)
 | 0,_,_=>none
 | m+1,v0,v1=>Uf x0  (Ug x0  m) v0 v1
def RI (x0:List ByteArray):Option (List Int):=
 Ug x0 FU [] 0
def oP (x0:Zj)  (k:ByteArray->Int->Option ByteArray) (v0:ByteArray) (v1:Int):Option ByteArray:=
 if decide (v1 < (x0.Aa.length:Int))=true then (
  (Z9 v0 (Ze [32])).bind λn0=>
  (idx x0.Aa v1).bind λa0=>
  (Qs a0).bind λr0=>
  (Z9 (v0++(Ze [32])) r0).bind λn1=>
  k ((v0++(Ze [32]))++r0) (Zl v1 1))
 else (
  some v0)
def Uh (x0:Zj)  : Nat->ByteArray->Int->Option ByteArray
 | 0,_,_=>none
 | m+1,v0,v1=>oP x0  (Uh x0  m) v0 v1
def oQ (x0:Zj)  (v0:ByteArray):Option ByteArray:=
 Uh x0 FU v0 0
def bI (x0:Zj)  (v0:ByteArray):Option ByteArray:=
 (Z9 v0 (Ze [32])).bind λn2=>
 (idx [(Ze [98,121,116,101]),(Ze [104,97,108,102]),(Ze [119,111,114,100])] x0.size).bind λa1=>
 (Z9 (v0++(Ze [32])) a1).bind λn3=>
 (Z9 ((v0++(Ze [32]))++a1) (Ze [32])).bind λn4=>
 (idx [(Ze [111,110,101]),(Ze [102,111,117,114]),(Ze [119,114,97,112]),(Ze [101,105,103,104,116])] x0.Az).bind λa2=>
 (Z9 (((v0++(Ze [32]))++a1)++(Ze [32])) a2).bind λn5=>
 (Z9 ((((v0++(Ze [32]))++a1)++(Ze [32]))++a2) (Ze [32])).bind λn6=>
 (Qs x0.addr).bind λr1=>
 (Z9 (((((v0++(Ze [32]))++a1)++(Ze [32]))++a2)++(Ze [32])) r1).bind λn7=>
 if x0.lock=true then (
  (Z9 ((((((v0++(Ze [32]))++a1)++(Ze [32]))++a2)++(Ze [32]))++r1) (Ze [32,108,111,99,107])).bind λn8=>
  oQ x0 (((((((v0++(Ze [32]))++a1)++(Ze [32]))++a2)++(Ze [32]))++r1)++(Ze [32,108,111,99,107])))
 else (
  oQ x0 ((((((v0++(Ze [32]))++a1)++(Ze [32]))++a2)++(Ze [32]))++r1))
def RJ (x0:Zj):Option ByteArray:=
 (TQ x0).bind λr2=>
 if (!r2)=true then (
  some ByteArray.empty)
 else (
  if x0.write=true then (
   bI x0 (Ze [119,114,105,116,101]))
  else (
   bI x0 (Ze [114,101,97,100])))
def Jn (x0:ByteArray)  (k:Zj->(List ByteArray)->Int->Option (Zj×Bool)) (Ad:Zj) (v0:List ByteArray) (v1:Int):Option (Zj×Bool):=
 if decide (v1 < (v0.length:Int))=true then (
  (idx v0 v1).bind λa0=>
  (OB a0).bind λr0=>
  (Y4 8 Ad.Aa [r0]).bind λz0=>
  k {Ad with Aa:=z0} v0 (Zl v1 1))
 else (
  (RJ Ad).bind λr1=>
  if (!(r1.toList == x0.toList))=true then (
   some (Zj.z0,false))
  else (
   some (Ad,true)))
def Ja (x0:ByteArray)  : Nat->Zj->(List ByteArray)->Int->Option (Zj×Bool)
 | 0,_,_,_=>none
 | m+1,Ad,v0,v1=>Jn x0  (Ja x0  m) Ad v0 v1
def Ui (x0:ByteArray)  (Ad:Zj) (v0:List ByteArray):Option (Zj×Bool):=
 Ja x0 FU Ad v0 0
def OC (x0:ByteArray)  (Ad:Zj) (v0:List ByteArray) (v2:Bool):Option (Zj×Bool):=
 if v2=true then (
  (Yv v0 1 (v0.length:Int)).bind λs0=>
  Ui x0 {Ad with lock:=true} s0)
 else (
  Ui x0 Ad v0)
def Uj (x0:ByteArray):Option (Zj×Bool):=
 (W0 x0 32).bind λr2=>
 if decide ((r2.length:Int) < 4)=true then (
  some (Zj.z0,false))
 else (
  (idx r2 0).bind λa1=>
  (idx r2 1).bind λa2=>
  (Ly [(Ze [98,121,116,101]),(Ze [104,97,108,102]),(Ze [119,111,114,100])] a2).bind λr3=>
  (idx r2 2).bind λa3=>
  (Ly [(Ze [111,110,101]),(Ze [102,111,117,114]),(Ze [119,114,97,112]),(Ze [101,105,103,104,116])] a3).bind λr4=>
  (idx r2 3).bind λa4=>
  (OB a4).bind λr5=>
  (Yv r2 4 (r2.length:Int)).bind λs1=>
  if decide ((s1.length:Int) > 0)=true then (
   (idx s1 0).bind λa5=>
   OC x0 (Zj.mk (a1.toList == (Ze [119,114,105,116,101]).toList) r5 r3 r4 false []) s1 (a5.toList == (Ze [108,111,99,107]).toList))
  else (
   OC x0 (Zj.mk (a1.toList == (Ze [119,114,105,116,101]).toList) r5 r3 r4 false []) s1 false))
def oR (x0:ByteArray) (x1:List Int)  (k:ByteArray->Int->Option ByteArray) (v0:ByteArray) (v1:Int):Option ByteArray:=
 if decide (v1 < (x1.length:Int))=true then (
  (Z9 v0 (Ze [32])).bind λn0=>
  (idx x1 v1).bind λa0=>
  (Qs a0).bind λr0=>
  (Z9 (v0++(Ze [32])) r0).bind λn1=>
  k ((v0++(Ze [32]))++r0) (Zl v1 1))
 else (
  (Z9 v0 (Ze [10])).bind λn2=>
  some (v0++(Ze [10])))
def bJ (x0:ByteArray) (x1:List Int)  : Nat->ByteArray->Int->Option ByteArray
 | 0,_,_=>none
 | m+1,v0,v1=>oR x0 x1  (bJ x0 x1  m) v0 v1
def bK (x0:ByteArray) (x1:List Int):Option ByteArray:=
 if decide ((x1.length:Int)=0)=true then (
  some ByteArray.empty)
 else (
  bJ x0 x1 FU x0 0)
def Zoy (x0:Zb)  (k:ByteArray->Int->Option ByteArray) (v0:ByteArray) (v1:Int):Option ByteArray:=
 if decide (v1 < (x0.Am.length:Int))=true then (
  (idx x0.Am v1).bind λa0=>
  (RJ a0.Bq).bind λr0=>
  if (r0.toList == ByteArray.empty.toList)=true then (
   some ByteArray.empty)
  else (
   (Z9 v0 (Ze [112,111,115,116,32])).bind λn0=>
   (Qs a0.at_).bind λr1=>
   (Z9 (v0++(Ze [112,111,115,116,32])) r1).bind λn1=>
   (Z9 ((v0++(Ze [112,111,115,116,32]))++r1) (Ze [32])).bind λn2=>
   (Qs a0.Aj).bind λr2=>
   (Z9 (((v0++(Ze [112,111,115,116,32]))++r1)++(Ze [32])) r2).bind λn3=>
   (Z9 ((((v0++(Ze [112,111,115,116,32]))++r1)++(Ze [32]))++r2) (Ze [32])).bind λn4=>
   (Z9 (((((v0++(Ze [112,111,115,116,32]))++r1)++(Ze [32]))++r2)++(Ze [32])) r0).bind λn5=>
   (Z9 ((((((v0++(Ze [112,111,115,116,32]))++r1)++(Ze [32]))++r2)++(Ze [32]))++r0) (Ze [10])).bind λn6=>
   k (((((((v0++(Ze [112,111,115,116,32]))++r1)++(Ze [32]))++r2)++(Ze [32]))++r0)++(Ze [10])) (Zl v1 1)))
 else (
  some v0)
def bL (x0:Zb)  : Nat->ByteArray->Int->Option ByteArray
 | 0,_,_=>none
 | m+1,v0,v1=>Zoy x0  (bL x0  m) v0 v1
def oS (x0:Zb):Option ByteArray:=
 (bK (Ze [119,97,105,116,115]) x0.waits).bind λr3=>
 (bK (Ze [115,97,121,115]) x0.A3).bind λr4=>
 (Z9 r3 r4).bind λn7=>
 bL x0 FU (r3++r4) 0
def RL (x0:ByteArray)  (k:Zb->(List ByteArray)->Int->Option (Zb×Bool)) (Ad:Zb) (v0:List ByteArray) (v1:Int):Option (Zb×Bool):=
 if decide (v1 < (v0.length:Int))=true then (
  (idx v0 v1).bind λa0=>
  (W0 a0 32).bind λr0=>
  (idx r0 0).bind λa1=>
  if (a1.toList == (Ze [119,97,105,116,115]).toList)=true then (
   (Yv r0 1 (r0.length:Int)).bind λs0=>
   (RI s0).bind λr1=>
   k {Ad with waits:=r1} v0 (Zl v1 1))
  else (
   if (a1.toList == (Ze [115,97,121,115]).toList)=true then (
    (Yv r0 1 (r0.length:Int)).bind λs1=>
    (RI s1).bind λr2=>
    k {Ad with A3:=r2} v0 (Zl v1 1))
   else (
    if decide ((r0.length:Int) > 3)=true then (
     (Yv r0 1 3).bind λs2=>
     (RI s2).bind λr3=>
     (idx r0 1).bind λa2=>
     (idx r0 2).bind λa3=>
     (EI a0 (Dp (a0.size:Int) (Zl (Zl (Zl (a1.size:Int) (a2.size:Int)) (a3.size:Int)) 3)) (a0.size:Int)).bind λs3=>
     (Uj s3).bind λr4=>
     (idx r3 0).bind λa4=>
     (idx r3 1).bind λa5=>
     (Y4 80 Ad.Am [(Zm.mk a4 a5 r4.1)]).bind λz0=>
     k {Ad with Am:=z0} v0 (Zl v1 1))
    else (
     k Ad v0 (Zl v1 1)))))
 else (
  (oS Ad).bind λr5=>
  if (!(r5.toList == x0.toList))=true then (
   some (Zb.z0,false))
  else (
   some (Ad,true)))
def RM (x0:ByteArray)  : Nat->Zb->(List ByteArray)->Int->Option (Zb×Bool)
 | 0,_,_,_=>none
 | m+1,Ad,v0,v1=>RL x0  (RM x0  m) Ad v0 v1
def RN (x0:ByteArray):Option (Zb×Bool):=
 (W0 x0 10).bind λr6=>
 RM x0 FU Zb.z0 r6 0
def Uk (x0:Zz) (x1:ByteArray)  (v0:List ByteArray) (v1:Bool):Option (Zz×ByteArray):=
 if v1=true then (
  (Z9 x1 (Ze [10])).bind λn0=>
  (RN (x1++(Ze [10]))).bind λr0=>
  if (!r0.2)=true then (
   some (x0,(Ze [110,111])))
  else (
   (idx v0 0).bind λa0=>
   if (a0.toList == (Ze [119,97,105,116,115]).toList)=true then (
    some ({x0 with s:={x0.s with waits:=r0.1.waits}},(Ze [111,107])))
   else (
    if (a0.toList == (Ze [115,97,121,115]).toList)=true then (
     some ({x0 with s:={x0.s with A3:=r0.1.A3}},(Ze [111,107])))
    else (
     (Y4 80 [] x0.s.Am).bind λz0=>
     (Y4 80 z0 r0.1.Am).bind λz1=>
     some ({x0 with s:={x0.s with Am:=z1}},(Ze [111,107]))))))
 else (
  some (x0,(Ze [119,104,97,116])))
def RO (x0:Zz) (x1:ByteArray):Option (Zz×ByteArray):=
 (W0 x1 32).bind λr1=>
 if decide ((r1.length:Int)=1)=true then (
  (oM x0 x1).bind λr2=>
  some (r2.1,r2.2))
 else (
  (idx r1 0).bind λa1=>
  if (a1.toList == (Ze [99,111,110,102]).toList)=true then (
   (EI x1 5 (x1.size:Int)).bind λs0=>
   (O8 s0).bind λr3=>
   if (!r3.2)=true then (
    some (x0,(Ze [110,111])))
   else (
    some ((Zz.mk r3.1 Zb.z0 Za.z0 false),(Ze [111,107]))))
  else (
   if (a1.toList == (Ze [119,97,105,116,115]).toList)=true then (
    Uk x0 x1 r1 (a1.toList == (Ze [119,97,105,116,115]).toList))
   else (
    if (a1.toList == (Ze [115,97,121,115]).toList)=true then (
     Uk x0 x1 r1 (a1.toList == (Ze [115,97,121,115]).toList))
    else (
     Uk x0 x1 r1 (a1.toList == (Ze [112,111,115,116]).toList)))))
def Z1g (x0:ByteArray)  (k:Zz->(List ByteArray)->ByteArray->Int->Option ByteArray) (Ad:Zz) (v0:List ByteArray) (v1:ByteArray) (v2:Int):Option ByteArray:=
 if decide (v2 < (v0.length:Int))=true then (
  (idx v0 v2).bind λa0=>
  if (a0.toList == ByteArray.empty.toList)=true then (
   k Ad v0 v1 (Zl v2 1))
  else (
   (RO Ad a0).bind λr0=>
   (Z9 v1 r0.2).bind λn0=>
   (Z9 (v1++r0.2) (Ze [10])).bind λn1=>
   k r0.1 v0 ((v1++r0.2)++(Ze [10])) (Zl v2 1)))
 else (
  some v1)
def bM (x0:ByteArray)  : Nat->Zz->(List ByteArray)->ByteArray->Int->Option ByteArray
 | 0,_,_,_,_=>none
 | m+1,Ad,v0,v1,v2=>Z1g x0  (bM x0  m) Ad v0 v1 v2
def Z4o (x0:ByteArray)  (v0:List ByteArray) (v3:Bool):Option ByteArray:=
 if v3=true then (
  some ByteArray.empty)
 else (
  bM x0 FU Zz.z0 v0 ByteArray.empty 0)
def RP (x0:ByteArray)  (v0:List ByteArray):Option ByteArray:=
 if decide ((x0.size:Int) > 3000)=true then (
  Z4o x0 v0 true)
 else (
  Z4o x0 v0 (decide ((v0.length:Int) > 60)))
def oT (x0:ByteArray):Option ByteArray:=
 (W0 x0 10).bind λr1=>
 (idx r1 (Y8 (r1.length:Int) 1)).bind λa1=>
 if (a1.toList == ByteArray.empty.toList)=true then (
  (Yv r1 0 (Y8 (r1.length:Int) 1)).bind λs0=>
  RP x0 s0)
 else (
  RP x0 r1)
def K7 (x0:ByteArray) (x1:ByteArray):Option (List ByteArray):=if x0.size < 4294967281/\1<=x1.size then some (Lib.splitB x1 0 (Lib.countB x0 x1) x0) else none
def RQ (x0 x1:ByteArray):Option Bool:=if x0.size < 4294967281 then some (Lib.contains x0.data.toList x1.data.toList) else none
def RR (x0 x1:ByteArray):Option (ByteArray×ByteArray×Bool):=if x0.size < 4294967281 then some (⟨(Lib.cut x0.data.toList x1.data.toList).1.toArray⟩,⟨(Lib.cut x0.data.toList x1.data.toList).2.1.toArray⟩,(Lib.cut x0.data.toList x1.data.toList).2.2) else none
def L1 (x0:ByteArray) (x1:Int):Option (Int×Bool):=if x0.size<=281474976710656 then (match Lib.atoiAll x0.data.toList with
 | .ok v=>if Lib.itoa v=x0.data.toList/\((Lib.trimPrefix x0.data.toList [45]).length:Int)<=x1 then some (v,true) else some (0,false)
 | _=>some (0,false)) else none
def OD (x0:List ByteArray)  (k:(List Int)->Int->Option (List Int×Bool)) (v0:List Int) (v1:Int):Option (List Int×Bool):=
 if decide (v1 < (x0.length:Int))=true then (
  (idx x0 v1).bind λa0=>
  (L1 a0 18).bind λr0=>
  if (!r0.2)=true then (
   some ([],false))
  else (
   (Y4 8 v0 [r0.1]).bind λz0=>
   k z0 (Zl v1 1)))
 else (
  some (v0,true))
def OE (x0:List ByteArray)  : Nat->(List Int)->Int->Option (List Int×Bool)
 | 0,_,_=>none
 | m+1,v0,v1=>OD x0  (OE x0  m) v0 v1
def L2 (x0:List ByteArray):Option (List Int×Bool):=
 OE x0 FU [] 0
def Ys (x0:Int) (x1:Int) (x2:Int):Option Bool:=
 if decide (x1<=x0)=true then (
  some (decide (x0<=x2)))
 else (
  some false)
def Zyh (x0:Zg)  (v0:Bool):Option Int:=
 if v0=true then (
  some 0)
 else (
  some (X5 (Zl x0.An 2) (Zl x0.As 6)))
def bN (x0:Zg):Option Int:=
 (Ys x0.An 0 3).bind λr0=>
 if (!r0)=true then (
  Zyh x0 true)
 else (
  (Ys x0.As 0 3).bind λr1=>
  Zyh x0 (!r1))
def bO (x0:Zg):Option Int:=
 (bN x0).bind λr0=>
 if decide (r0=0)=true then (
  some 0)
 else (
  (Ys x0.Al 1 40).bind λr1=>
  if (!r1)=true then (
   some 0)
  else (
   (bN x0).bind λr2=>
   some (Zl (X5 2 r2) x0.Al)))
def Zym (x0:Zg)  (k:Int->Int->Option Int) (v0:Int) (v1:Int):Option Int:=
 if decide (v1 < (x0.Ab.length:Int))=true then (
  (idx x0.Ab v1).bind λa0=>
  if a0.prio=true then (
   k (Zl v0 1) (Zl v1 1))
  else (
   k v0 (Zl v1 1)))
 else (
  some v0)
def oU (x0:Zg)  : Nat->Int->Int->Option Int
 | 0,_,_=>none
 | m+1,v0,v1=>Zym x0  (oU x0  m) v0 v1
def oW (x0:Zg):Option Int:=
 oU x0 FU 0 0
def oX (x0:Zg):Option Int:=
 (bO x0).bind λr0=>
 (oW x0).bind λr1=>
 some (X5 (X5 2 r0) r1)
def oY (x0:Zd) (x1:Zg):Option Bool:=
 (Ys x0.weight 1 4).bind λr0=>
 if (!r0)=true then (
  some true)
 else (
  if x0.prio=true then (
   (oX x1).bind λr1=>
   (Ys x0.every r1 1000).bind λr2=>
   if (!r2)=true then (
    some true)
   else (
    (Ys x0.cap 1 8).bind λr3=>
    some (!r3)))
  else (
   if decide (x0.every≠0)=true then (
    some true)
   else (
    some (decide (x0.cap≠0)))))
def Q1 (x0:List Zd) (Bi:Zg)  (k:Int->Option Int) (v0:Int):Option Int:=
 if decide (v0 < (x0.length:Int))=true then (
  (idx x0 v0).bind λa0=>
  (oY a0 Bi).bind λr0=>
  if r0=true then (
   some v0)
  else (
   k (Zl v0 1)))
 else (
  some (-1))
def Xb (x0:List Zd) (Bi:Zg)  : Nat->Int->Option Int
 | 0,_=>none
 | m+1,v0=>Q1 x0 Bi  (Xb x0 Bi  m) v0
def K4 (x0:List Zd) (Bi:Zg):Option Int:=
 Xb x0 Bi FU 0
def Wq (x0:List Zd) (Bi:Zg):Option Bool:=
 (K4 x0 Bi).bind λr0=>
 some (decide (r0≥0))
def L3 (x0:Zg):Option Bool:=
 (Ys (x0.Ab.length:Int) 1 4).bind λr0=>
 if (!r0)=true then (
  some false)
 else (
  (Ys x0.Av 1 4).bind λr1=>
  if (!r1)=true then (
   some false)
  else (
   (Ys x0.Ap 1 12).bind λr2=>
   if (!r2)=true then (
    some false)
   else (
    (bO x0).bind λr3=>
    if decide (r3=0)=true then (
     some false)
    else (
     (Wq x0.Ab x0).bind λr4=>
     some (!r4)))))
def oZ (x0:Int):Option ByteArray:=if -9223372036854775808<=x0/\x0<=9223372036854775807 then some ⟨(Lib.itoa x0).toArray⟩ else none
def Gg (x0:Int):Option ByteArray:=
 (oZ x0).bind λr0=>
 some r0
def o4 (x0:List Int)  (k:(List ByteArray)->Int->Option (List ByteArray)) (v0:List ByteArray) (v1:Int):Option (List ByteArray):=
 if decide (v1 < (x0.length:Int))=true then (
  (idx x0 v1).bind λa0=>
  (Gg a0).bind λr0=>
  (Y4 16 v0 [r0]).bind λz0=>
  k z0 (Zl v1 1))
 else (
  some v0)
def o5 (x0:List Int)  : Nat->(List ByteArray)->Int->Option (List ByteArray)
 | 0,_,_=>none
 | m+1,v0,v1=>o4 x0  (o5 x0  m) v0 v1
def L4 (x0:List Int):Option (List ByteArray):=
 o5 x0 FU [] 0
def Qt (x0:List ByteArray) (x1:ByteArray):Option ByteArray:=if x0.length<=140737488355328/\(Lib.join (x0.map (·.data.toList)) x1.data.toList).length<=140737488355328 then some ⟨(Lib.join (x0.map (·.data.toList)) x1.data.toList).toArray⟩ else none
def o6 (x0:Zg)  (k:(List ByteArray)->Int->Option ByteArray) (v0:List ByteArray) (v1:Int):Option ByteArray:=
 if decide (v1 < (x0.Ab.length:Int))=true then (
  (idx x0.Ab v1).bind λa0=>
  (Gg a0.weight).bind λr0=>
  if a0.prio=true then (
   (L4 [a0.weight,a0.every,a0.cap]).bind λr1=>
   (Qt r1 (Ze [58])).bind λr2=>
   (Y4 16 v0 [r2]).bind λz0=>
   k z0 (Zl v1 1))
  else (
   (Y4 16 v0 [r0]).bind λz0=>
   k z0 (Zl v1 1)))
 else (
  (Qt v0 (Ze [32])).bind λr3=>
  some r3)
def o7 (x0:Zg)  : Nat->(List ByteArray)->Int->Option ByteArray
 | 0,_,_=>none
 | m+1,v0,v1=>o6 x0  (o7 x0  m) v0 v1
def RS (x0:Zg):Option ByteArray:=
 (L3 x0).bind λr4=>
 if (!r4)=true then (
  some ByteArray.empty)
 else (
  (L4 [x0.Av,x0.As,x0.An,x0.Ap,x0.Al]).bind λr5=>
  o7 x0 FU r5 0)
def RT (x0:ByteArray) (A4:Zg->(List ByteArray)->Int->Int->Option (Zg×Bool)) (Ad:Zg) (v0:List Int) (v1:List ByteArray) (v2:Int) (v3:Int) (v4:Bool):Option (Zg×Bool):=
 if v4=true then (
  (idx v0 0).bind λa0=>
  (idx v0 1).bind λa1=>
  (idx v0 2).bind λa2=>
  (Y4 32 Ad.Ab [(Zd.mk a0 true a1 a2)]).bind λz0=>
  A4 {Ad with Ab:=z0} v1 v2 (Zl v3 1))
 else (
  some (Zg.z0,false))
def RU (x0:ByteArray) (A4:Zg->(List ByteArray)->Int->Int->Option (Zg×Bool)) (Ad:Zg) (v0:List Int) (v5:Bool) (v1:List ByteArray) (v2:Int) (v3:Int) (v6:Bool):Option (Zg×Bool):=
 if v6=true then (
  (idx v0 0).bind λa3=>
  (Y4 32 Ad.Ab [(Zd.mk a3 false 0 0)]).bind λz1=>
  A4 {Ad with Ab:=z1} v1 v2 (Zl v3 1))
 else (
  if v5=true then (
   RT x0 A4 Ad v0 v1 v2 v3 (decide ((v0.length:Int)=3)))
  else (
   RT x0 A4 Ad v0 v1 v2 v3 false))
def Kz (x0:ByteArray)  (k:Zg->(List ByteArray)->Int->Int->Option (Zg×Bool)) (Ad:Zg) (v1:List ByteArray) (v2:Int) (v3:Int):Option (Zg×Bool):=
 if decide (v3 < v2)=true then (
  (idx v1 v3).bind λa4=>
  (K7 a4 (Ze [58])).bind λr0=>
  (L2 r0).bind λr1=>
  if r1.2=true then (
   RU x0 k Ad r1.1 r1.2 v1 v2 v3 (decide ((r1.1.length:Int)=1)))
  else (
   RU x0 k Ad r1.1 r1.2 v1 v2 v3 false))
 else (
  (L3 Ad).bind λr2=>
  if (!r2)=true then (
   some (Zg.z0,false))
  else (
   (RS Ad).bind λr3=>
   if (!(r3.toList == x0.toList))=true then (
    some (Zg.z0,false))
   else (
    some (Ad,true))))
def Qz (x0:ByteArray)  : Nat->Zg->(List ByteArray)->Int->Int->Option (Zg×Bool)
 | 0,_,_,_,_=>none
 | m+1,Ad,v1,v2,v3=>Kz x0  (Qz x0  m) Ad v1 v2 v3
def Ul (x0:ByteArray)  (v7:List ByteArray) (v8:Bool):Option (Zg×Bool):=
 if v8=true then (
  some (Zg.z0,false))
 else (
  (Yv v7 0 5).bind λs0=>
  (L2 s0).bind λr4=>
  if (!r4.2)=true then (
   some (Zg.z0,false))
  else (
   (idx r4.1 0).bind λa5=>
   (idx r4.1 1).bind λa6=>
   (idx r4.1 2).bind λa7=>
   (idx r4.1 3).bind λa8=>
   (idx r4.1 4).bind λa9=>
   (Yv v7 5 (v7.length:Int)).bind λs1=>
   Qz x0 FU (Zg.mk [] a5 a6 a7 a8 a9) s1 (s1.length:Int) 0))
def L5 (x0:ByteArray):Option (Zg×Bool):=
 (K7 x0 (Ze [32])).bind λr5=>
 if decide ((r5.length:Int) < 6)=true then (
  Ul x0 r5 true)
 else (
  Ul x0 r5 (decide ((r5.length:Int) > 9)))
def Jt (x0:ByteArray) (x1:ByteArray):Option ByteArray:=if x0.size<=9223372036854775807 then some ⟨(Lib.trimSuffix x0.data.toList x1.data.toList).toArray⟩ else none
def Um  : Option (List ByteArray):=
 some [(Ze [98,121,116,101]),(Ze [104,97,108,102]),(Ze [119,111,114,100])]
def Wm (x0:List ByteArray) (x1:ByteArray)  (k:Int->Option Int) (v0:Int):Option Int:=
 if decide (v0 < (x0.length:Int))=true then (
  (idx x0 v0).bind λa0=>
  if (x1.toList == a0.toList)=true then (
   some v0)
  else (
   k (Zl v0 1)))
 else (
  some (-1))
def Wv (x0:List ByteArray) (x1:ByteArray)  : Nat->Int->Option Int
 | 0,_=>none
 | m+1,v0=>Wm x0 x1  (Wv x0 x1  m) v0
def X6 (x0:List ByteArray) (x1:ByteArray):Option Int:=
 Wv x0 x1 FU 0
def Un  : Option (List ByteArray):=
 some [(Ze [111,110,101]),(Ze [102,111,117,114]),(Ze [119,114,97,112]),(Ze [101,105,103,104,116])]
def RV (x0:Int):Option Int:=
 (Ys x0 0 3).bind λr0=>
 if (!r0)=true then (
  some 0)
 else (
  (idx [1,4,4,8] x0).bind λa0=>
  some a0)
def JP (x0:Int):Option Int:=
 (Ys x0 0 2).bind λr0=>
 if (!r0)=true then (
  some 0)
 else (
  (Lv x0).bind λn0=>
  some (Rz 1 x0))
def RW (x0:Int) (x1:Int):Option Bool:=
 (Ys x1 0 2).bind λr0=>
 if r0=true then (
  if decide (x0≥0)=true then (
   (JP x1).bind λr1=>
   (FG r1).bind λn0=>
   some (decide ((C4 x0 r1)=0)))
  else (
   some false))
 else (
  some false)
def bP (x0:Int) (x1:Int) (x2:Int)  (v0:Bool):Option Int:=
 if v0=true then (
  some (-1))
 else (
  (JP x1).bind λr0=>
  (JP x1).bind λr1=>
  if decide (x2=2)=true then (
   (FG (X5 4 r1)).bind λn0=>
   if decide ((C4 (Zl x0 r0) (X5 4 r1))=0)=true then (
    some (Y8 (Zl x0 r0) (X5 4 r1)))
   else (
    some (Zl x0 r0)))
  else (
   some (Zl x0 r0)))
def o8 (x0:Int) (x1:Int) (x2:Int):Option Int:=
 (RW x0 x1).bind λr2=>
 if (!r2)=true then (
  bP x0 x1 x2 true)
 else (
  if decide (x0≥512)=true then (
   bP x0 x1 x2 true)
  else (
   (RV x2).bind λr3=>
   bP x0 x1 x2 (decide (r3=0))))
def bQ (x0:Int) (x1:Int) (x2:Int)  (k:Int->(List Int)->Int->Int->Option (List Int)) (v0:Int) (v1:List Int) (v2:Int) (v3:Int):Option (List Int):=
 if decide (v3 < v2)=true then (
  (o8 v0 x1 x2).bind λr0=>
  if decide (r0 < 0)=true then (
   some [])
  else (
   (Y4 8 v1 [v0]).bind λz0=>
   k r0 z0 v2 (Zl v3 1)))
 else (
  some v1)
def o9 (x0:Int) (x1:Int) (x2:Int)  : Nat->Int->(List Int)->Int->Int->Option (List Int)
 | 0,_,_,_,_=>none
 | m+1,v0,v1,v2,v3=>bQ x0 x1 x2  (o9 x0 x1 x2  m) v0 v1 v2 v3
def bR (x0:Int) (x1:Int) (x2:Int):Option (List Int):=
 (RV x2).bind λr1=>
 o9 x0 x1 x2 FU x0 [] r1 0
def Zu1 (x0:Int) (x1:Int) (x2:Int)  (k:(List Int)->Int->Int->Option Bool) (v0:List Int) (v1:Int) (v2:Int):Option Bool:=
 if decide (v2 < v1)=true then (
  (idx v0 v2).bind λa0=>
  (idx v0 0).bind λa1=>
  if decide ((E2 a0 64)≠(E2 a1 64))=true then (
   some false)
  else (
   k v0 v1 (Zl v2 1)))
 else (
  some (decide ((v0.length:Int) > 0)))
def pA (x0:Int) (x1:Int) (x2:Int)  : Nat->(List Int)->Int->Int->Option Bool
 | 0,_,_,_=>none
 | m+1,v0,v1,v2=>Zu1 x0 x1 x2  (pA x0 x1 x2  m) v0 v1 v2
def pB (x0:Int) (x1:Int) (x2:Int):Option Bool:=
 (bR x0 x1 x2).bind λr0=>
 pA x0 x1 x2 FU r0 (r0.length:Int) 0
def bS (x0:Int):Option Int:=
 (JP x0).bind λr0=>
 if decide (r0=0)=true then (
  some 0)
 else (
  (JP x0).bind λr1=>
  (Lv (X5 8 r1)).bind λn0=>
  some (Rz 1 (X5 8 r1)))
def L6 (x0:Int) (x1:Int):Option Bool:=
 (bS x1).bind λr0=>
 (Ys x0 0 (Y8 r0 1)).bind λr1=>
 some r1
def pC (x0:Int) (x1:Zj):Option Bool:=
 (L6 x0 x1.size).bind λr0=>
 some (!r0)
def Zlj (x0:List Int) (Bi:Zj)  (k:Int->Option Int) (v0:Int):Option Int:=
 if decide (v0 < (x0.length:Int))=true then (
  (idx x0 v0).bind λa0=>
  (pC a0 Bi).bind λr0=>
  if r0=true then (
   some v0)
  else (
   k (Zl v0 1)))
 else (
  some (-1))
def Jc (x0:List Int) (Bi:Zj)  : Nat->Int->Option Int
 | 0,_=>none
 | m+1,v0=>Zlj x0 Bi  (Jc x0 Bi  m) v0
def Zan (x0:List Int) (Bi:Zj):Option Int:=
 Jc x0 Bi FU 0
def Ql (x0:List Int) (Bi:Zj):Option Bool:=
 (Zan x0 Bi).bind λr0=>
 some (decide (r0≥0))
def pD (x0:Zj)  (v0:Int):Option Bool:=
 (pB x0.addr x0.size x0.Az).bind λr0=>
 if r0=true then (
  if decide ((x0.Aa.length:Int)=v0)=true then (
   (Ql x0.Aa x0).bind λr1=>
   some (!r1))
  else (
   some false))
 else (
  some false)
def OF (x0:Zj):Option Bool:=
 if x0.write=true then (
  (RV x0.Az).bind λr2=>
  pD x0 r2)
 else (
  pD x0 0)
def RX (x0:Bool):Option ByteArray:=
 if x0=true then (
  some (Ze [119,114,105,116,101]))
 else (
  some (Ze [114,101,97,100]))
def Uo (x0:Zj):Option ByteArray:=
 (OF x0).bind λr0=>
 if (!r0)=true then (
  some ByteArray.empty)
 else (
  (RX x0.write).bind λr1=>
  (Um).bind λr2=>
  (idx r2 x0.size).bind λa0=>
  (Un).bind λr3=>
  (idx r3 x0.Az).bind λa1=>
  (Gg x0.addr).bind λr4=>
  if x0.lock=true then (
   (Y4 16 [r1,a0,a1,r4] [(Ze [108,111,99,107])]).bind λz0=>
   (L4 x0.Aa).bind λr5=>
   (Y4 16 z0 r5).bind λz1=>
   (Qt z1 (Ze [32])).bind λr6=>
   some r6)
  else (
   (L4 x0.Aa).bind λr5=>
   (Y4 16 [r1,a0,a1,r4] r5).bind λz1=>
   (Qt z1 (Ze [32])).bind λr6=>
   some r6))
def RY (x0:ByteArray)  (Ad:Zj) (v0:List ByteArray) (v1:List ByteArray):Option (Zj×Bool):=
 (idx v0 3).bind λa0=>
 (L1 a0 18).bind λr0=>
 (L2 v1).bind λr1=>
 if (!r0.2)=true then (
  some (Zj.z0,false))
 else (
  if (!r1.2)=true then (
   some (Zj.z0,false))
  else (
   (OF {Ad with addr:=r0.1,Aa:=r1.1}).bind λr2=>
   if (!r2)=true then (
    some (Zj.z0,false))
   else (
    (Uo {Ad with addr:=r0.1,Aa:=r1.1}).bind λr3=>
    if (!(r3.toList == x0.toList))=true then (
     some (Zj.z0,false))
    else (
     some ({Ad with addr:=r0.1,Aa:=r1.1},true)))))
def OG (x0:ByteArray)  (Ad:Zj) (v0:List ByteArray) (v1:List ByteArray) (v2:Bool):Option (Zj×Bool):=
 if v2=true then (
  (Yv v1 1 (v1.length:Int)).bind λs0=>
  RY x0 {Ad with lock:=true} v0 s0)
 else (
  RY x0 Ad v0 v1)
def Up (x0:ByteArray):Option (Zj×Bool):=
 (K7 x0 (Ze [32])).bind λr4=>
 if decide ((r4.length:Int) < 4)=true then (
  some (Zj.z0,false))
 else (
  (idx r4 0).bind λa1=>
  (Um).bind λr5=>
  (idx r4 1).bind λa2=>
  (X6 r5 a2).bind λr6=>
  (Un).bind λr7=>
  (idx r4 2).bind λa3=>
  (X6 r7 a3).bind λr8=>
  (Yv r4 4 (r4.length:Int)).bind λs1=>
  if decide ((s1.length:Int) > 0)=true then (
   (idx s1 0).bind λa4=>
   OG x0 (Zj.mk (a1.toList == (Ze [119,114,105,116,101]).toList) 0 r6 r8 false []) r4 s1 (a4.toList == (Ze [108,111,99,107]).toList))
  else (
   OG x0 (Zj.mk (a1.toList == (Ze [119,114,105,116,101]).toList) 0 r6 r8 false []) r4 s1 false))
def bT (x0:ByteArray) (x1:List Int):Option ByteArray:=
 if decide ((x1.length:Int)=0)=true then (
  some ByteArray.empty)
 else (
  (Z9 x0 (Ze [32])).bind λn0=>
  (L4 x1).bind λr0=>
  (Qt r0 (Ze [32])).bind λr1=>
  (Z9 (x0++(Ze [32])) r1).bind λn1=>
  (Z9 ((x0++(Ze [32]))++r1) (Ze [10])).bind λn2=>
  some (((x0++(Ze [32]))++r1)++(Ze [10])))
def Zo1 (x0:Zb)  (k:ByteArray->Int->Option ByteArray) (v0:ByteArray) (v1:Int):Option ByteArray:=
 if decide (v1 < (x0.Am.length:Int))=true then (
  (idx x0.Am v1).bind λa0=>
  (Uo a0.Bq).bind λr0=>
  if (r0.toList == ByteArray.empty.toList)=true then (
   some ByteArray.empty)
  else (
   (Gg a0.at_).bind λr1=>
   (Z9 (Ze [112,111,115,116,32]) r1).bind λn0=>
   (Z9 ((Ze [112,111,115,116,32])++r1) (Ze [32])).bind λn1=>
   (Gg a0.Aj).bind λr2=>
   (Z9 (((Ze [112,111,115,116,32])++r1)++(Ze [32])) r2).bind λn2=>
   (Z9 ((((Ze [112,111,115,116,32])++r1)++(Ze [32]))++r2) (Ze [32])).bind λn3=>
   (Z9 (((((Ze [112,111,115,116,32])++r1)++(Ze [32]))++r2)++(Ze [32])) r0).bind λn4=>
   (Z9 ((((((Ze [112,111,115,116,32])++r1)++(Ze [32]))++r2)++(Ze [32]))++r0) (Ze [10])).bind λn5=>
   (Z9 v0 (((((((Ze [112,111,115,116,32])++r1)++(Ze [32]))++r2)++(Ze [32]))++r0)++(Ze [10]))).bind λn6=>
   k (v0++(((((((Ze [112,111,115,116,32])++r1)++(Ze [32]))++r2)++(Ze [32]))++r0)++(Ze [10]))) (Zl v1 1)))
 else (
  some v0)
def bU (x0:Zb)  : Nat->ByteArray->Int->Option ByteArray
 | 0,_,_=>none
 | m+1,v0,v1=>Zo1 x0  (bU x0  m) v0 v1
def pE (x0:Zb):Option ByteArray:=
 (bT (Ze [119,97,105,116,115]) x0.waits).bind λr3=>
 (bT (Ze [115,97,121,115]) x0.A3).bind λr4=>
 (Z9 r3 r4).bind λn7=>
 bU x0 FU (r3++r4) 0
def bV (x0:ByteArray) (A4:Zb->(List ByteArray)->Int->Int->Option (Zb×Bool)) (Ad:Zb) (At:Zj) (v0:List Int) (v1:List ByteArray) (v2:Int) (v3:Int) (v4:Bool):Option (Zb×Bool):=
 if v4=true then (
  some (Zb.z0,false))
 else (
  (idx v0 0).bind λa0=>
  (idx v0 1).bind λa1=>
  (Y4 80 Ad.Am [(Zm.mk a0 a1 At)]).bind λz0=>
  A4 {Ad with Am:=z0} v1 v2 (Zl v3 1))
def RZ (x0:ByteArray) (A4:Zb->(List ByteArray)->Int->Int->Option (Zb×Bool)) (Ad:Zb) (v5:List ByteArray) (v1:List ByteArray) (v2:Int) (v3:Int) (v6:Bool):Option (Zb×Bool):=
 if v6=true then (
  (Yv v5 1 (v5.length:Int)).bind λs0=>
  (L2 s0).bind λr0=>
  if (!r0.2)=true then (
   some (Zb.z0,false))
  else (
   (idx v5 0).bind λa2=>
   if (a2.toList == (Ze [119,97,105,116,115]).toList)=true then (
    A4 {Ad with waits:=r0.1} v1 v2 (Zl v3 1))
   else (
    A4 {Ad with A3:=r0.1} v1 v2 (Zl v3 1))))
 else (
  A4 Ad v1 v2 (Zl v3 1))
def Kh (x0:ByteArray) (A4:Zb->(List ByteArray)->Int->Int->Option (Zb×Bool)) (Ad:Zb) (v5:List ByteArray) (v1:List ByteArray) (v2:Int) (v3:Int) (v7:Bool):Option (Zb×Bool):=
 if v7=true then (
  (Yv v5 1 3).bind λs1=>
  (L2 s1).bind λr1=>
  (Yv v5 3 (v5.length:Int)).bind λs2=>
  (Qt s2 (Ze [32])).bind λr2=>
  (Up r2).bind λr3=>
  if (!r1.2)=true then (
   bV x0 A4 Ad r3.1 r1.1 v1 v2 v3 true)
  else (
   bV x0 A4 Ad r3.1 r1.1 v1 v2 v3 (!r3.2)))
 else (
  (idx v5 0).bind λa3=>
  if (a3.toList == (Ze [119,97,105,116,115]).toList)=true then (
   RZ x0 A4 Ad v5 v1 v2 v3 true)
  else (
   RZ x0 A4 Ad v5 v1 v2 v3 (a3.toList == (Ze [115,97,121,115]).toList)))
def Sa (x0:ByteArray)  (k:Zb->(List ByteArray)->Int->Int->Option (Zb×Bool)) (Ad:Zb) (v1:List ByteArray) (v2:Int) (v3:Int):Option (Zb×Bool):=
 if decide (v3 < v2)=true then (
  (idx v1 v3).bind λa4=>
  (K7 a4 (Ze [32])).bind λr4=>
  (idx r4 0).bind λa5=>
  if (a5.toList == (Ze [112,111,115,116]).toList)=true then (
   Kh x0 k Ad r4 v1 v2 v3 (decide ((r4.length:Int) > 3)))
  else (
   Kh x0 k Ad r4 v1 v2 v3 false))
 else (
  (pE Ad).bind λr5=>
  if (!(r5.toList == x0.toList))=true then (
   some (Zb.z0,false))
  else (
   some (Ad,true)))
def Ki (x0:ByteArray)  : Nat->Zb->(List ByteArray)->Int->Int->Option (Zb×Bool)
 | 0,_,_,_,_=>none
 | m+1,Ad,v1,v2,v3=>Sa x0  (Ki x0  m) Ad v1 v2 v3
def MV (x0:ByteArray):Option (Zb×Bool):=
 (Jt x0 (Ze [10])).bind λr6=>
 (K7 r6 (Ze [10])).bind λr7=>
 Ki x0 FU Zb.z0 r7 (r7.length:Int) 0
def pF (Au:Zg) (Aq:Zb) (x1:ByteArray)  (v0:ByteArray) (v1:Bool):Option (ByteArray×Z3):=
 if v1=true then (
  (Z9 x1 (Ze [10])).bind λn0=>
  (MV (x1++(Ze [10]))).bind λr0=>
  if (!r0.2)=true then (
   some ((Ze [110,111]),(Z3.mk Au Aq none)))
  else (
   if (v0.toList == (Ze [119,97,105,116,115]).toList)=true then (
    some ((Ze [111,107]),(Z3.mk Au {Aq with waits:=r0.1.waits} none)))
   else (
    if (v0.toList == (Ze [115,97,121,115]).toList)=true then (
     some ((Ze [111,107]),(Z3.mk Au {Aq with A3:=r0.1.A3} none)))
    else (
     (Y4 80 Aq.Am r0.1.Am).bind λz0=>
     some ((Ze [111,107]),(Z3.mk Au {Aq with Am:=z0} none))))))
 else (
  some ((Ze [119,104,97,116]),(Z3.mk Au Aq none)))
def pG (Au:Zg) (Aq:Zb) (x1:ByteArray):Option (ByteArray×Z3):=
 (RR x1 (Ze [32])).bind λr1=>
 if (r1.1.toList == (Ze [99,111,110,102]).toList)=true then (
  (L5 r1.2.1).bind λr2=>
  if (!r2.2)=true then (
   some ((Ze [110,111]),(Z3.mk Au Aq none)))
  else (
   some ((Ze [111,107]),(Z3.mk r2.1 Zb.z0 none))))
 else (
  if (r1.1.toList == (Ze [119,97,105,116,115]).toList)=true then (
   pF Au Aq x1 r1.1 (r1.1.toList == (Ze [119,97,105,116,115]).toList))
  else (
   if (r1.1.toList == (Ze [115,97,121,115]).toList)=true then (
    pF Au Aq x1 r1.1 (r1.1.toList == (Ze [115,97,121,115]).toList))
   else (
    pF Au Aq x1 r1.1 (r1.1.toList == (Ze [112,111,115,116]).toList))))
def pH (x0:List Zd):Option (List Zd):=Y4 32 [] x0
def bW (x0:Zg):Option Zg:=
 (pH x0.Ab).bind λr0=>
 some {x0 with Ab:=r0}
def Yl0  : Option Zn:=
 (H5 8 4 0).bind λm0=>
 some (Zn.mk m0 0 [])
def bX  : Option Zf:=
 (H5 8 192 0).bind λm0=>
 (Yl0).bind λr0=>
 some (Zf.mk m0 r0)
def pI (x0:Zd):Option Zk:=
 if (!x0.prio)=true then (
  some Zk.z0)
 else (
  some (Zk.mk (Fi x0.cap 0) 0))
def pJ (x0:Zg)  (k:Za->Int->Option (Za×Bool)) (Ad:Za) (v0:Int):Option (Za×Bool):=
 if decide (v0 < (x0.Ab.length:Int))=true then (
  (idx x0.Ab v0).bind λa0=>
  (Y4 56 Ad.m [Zh.z0]).bind λz0=>
  (pI a0).bind λr0=>
  (Y4 16 Ad.buckets [r0]).bind λz1=>
  (Y4 8 Ad.splits [0]).bind λz2=>
  k {Ad with m:=z0,buckets:=z1,splits:=z2} (Zl v0 1))
 else (
  some (Ad,true))
def pK (x0:Zg)  : Nat->Za->Int->Option (Za×Bool)
 | 0,_,_=>none
 | m+1,Ad,v0=>pJ x0  (pK x0  m) Ad v0
def bY (x0:Zg):Option (Za×Bool):=
 (L3 x0).bind λr1=>
 if (!r1)=true then (
  some (Za.z0,false))
 else (
  (bW x0).bind λr2=>
  (bX).bind λr3=>
  pK x0 FU (Za.mk r2 0 [] Yg.z0 [] [] (-1) 0 (-1) Zi.z0 Zi.z0 r3 0 []) 0)
def Sb (Au:Zg) (Aq:Zb) (x1:ByteArray)  (v0:Bool):Option (ByteArray×Z3):=
 if v0=true then (
  some ((Ze [110,111,110,101]),(Z3.mk Au Aq none)))
 else (
  some ((Ze [119,104,97,116]),(Z3.mk Au Aq none)))
def bZ (Au:Zg) (Aq:Zb) (x1:ByteArray):Option (ByteArray×Z3):=
 if (x1.toList == (Ze [110,101,119]).toList)=true then (
  (bY Au).bind λr0=>
  if (!r0.2)=true then (
   some ((Ze [110,111]),(Z3.mk Au Aq none)))
  else (
   some ((Ze [111,107]),(Z3.mk Au Aq (some r0.1)))))
 else (
  if (x1.toList == (Ze [99,111,110,102]).toList)=true then (
   (RS Au).bind λr1=>
   if (!(r1.toList == ByteArray.empty.toList))=true then (
    some (r1,(Z3.mk Au Aq none)))
   else (
    some ((Ze [110,111,110,101]),(Z3.mk Au Aq none))))
  else (
   if (x1.toList == (Ze [115,116,101,112]).toList)=true then (
    Sb Au Aq x1 (x1.toList == (Ze [115,116,101,112]).toList))
   else (
    if (x1.toList == (Ze [111,117,116]).toList)=true then (
     Sb Au Aq x1 (x1.toList == (Ze [111,117,116]).toList))
    else (
     if (x1.toList == (Ze [105,100,108,101]).toList)=true then (
      Sb Au Aq x1 (x1.toList == (Ze [105,100,108,101]).toList))
     else (
      if (x1.toList == (Ze [111,107]).toList)=true then (
       Sb Au Aq x1 (x1.toList == (Ze [111,107]).toList))
      else (
       Sb Au Aq x1 (x1.toList == (Ze [108,111,103]).toList)))))))
def pL (Au:Zg) (Aq:Zb) (AH:Za) (x1:ByteArray)  (v0:ByteArray) (v1:Bool):Option (ByteArray×Z3):=
 if v1=true then (
  (Z9 x1 (Ze [10])).bind λn0=>
  (MV (x1++(Ze [10]))).bind λr0=>
  if (!r0.2)=true then (
   some ((Ze [110,111]),(Z3.mk Au Aq (some AH))))
  else (
   if (v0.toList == (Ze [119,97,105,116,115]).toList)=true then (
    some ((Ze [111,107]),(Z3.mk Au {Aq with waits:=r0.1.waits} (some AH))))
   else (
    if (v0.toList == (Ze [115,97,121,115]).toList)=true then (
     some ((Ze [111,107]),(Z3.mk Au {Aq with A3:=r0.1.A3} (some AH))))
    else (
     (Y4 80 Aq.Am r0.1.Am).bind λz0=>
     some ((Ze [111,107]),(Z3.mk Au {Aq with Am:=z0} (some AH)))))))
 else (
  some ((Ze [119,104,97,116]),(Z3.mk Au Aq (some AH))))
def pM (Au:Zg) (Aq:Zb) (AH:Za) (x1:ByteArray):Option (ByteArray×Z3):=
 (RR x1 (Ze [32])).bind λr1=>
 if (r1.1.toList == (Ze [99,111,110,102]).toList)=true then (
  (L5 r1.2.1).bind λr2=>
  if (!r2.2)=true then (
   some ((Ze [110,111]),(Z3.mk Au Aq (some AH))))
  else (
   some ((Ze [111,107]),(Z3.mk r2.1 Zb.z0 none))))
 else (
  if (r1.1.toList == (Ze [119,97,105,116,115]).toList)=true then (
   pL Au Aq AH x1 r1.1 (r1.1.toList == (Ze [119,97,105,116,115]).toList))
  else (
   if (r1.1.toList == (Ze [115,97,121,115]).toList)=true then (
    pL Au Aq AH x1 r1.1 (r1.1.toList == (Ze [115,97,121,115]).toList))
   else (
    pL Au Aq AH x1 r1.1 (r1.1.toList == (Ze [112,111,115,116]).toList))))
def pN (x0:Zj):Option Bool:=
 (OF x0).bind λr0=>
 some (!r0)
def Zhd (x0:List Zj)  (k:Int->Option Int) (v0:Int):Option Int:=
 if decide (v0 < (x0.length:Int))=true then (
  (idx x0 v0).bind λa0=>
  (pN a0).bind λr0=>
  if r0=true then (
   some v0)
  else (
   k (Zl v0 1)))
 else (
  some (-1))
def Qy (x0:List Zj)  : Nat->Int->Option Int
 | 0,_=>none
 | m+1,v0=>Zhd x0  (Qy x0  m) v0
def Kp (x0:List Zj):Option Int:=
 Qy x0 FU 0
def Wk (x0:List Zj):Option Bool:=
 (Kp x0).bind λr0=>
 some (decide (r0≥0))
def OH (x0:Zh):Option Int:=
 if decide ((x0.queue.length:Int)=0)=true then (
  some 0)
 else (
  (idx x0.queue 0).bind λa0=>
  (RV a0.Az).bind λr0=>
  some r0)
def Qi (x0:Zh)  (v0:Bool):Option Bool:=
 if v0=true then (
  some false)
 else (
  if decide ((x0.queue.length:Int)=0)=true then (
   if decide (x0.Ao=0)=true then (
    if decide (x0.done=0)=true then (
     if decide (x0.tries=0)=true then (
      if (!x0.Ay)=true then (
       some (!x0.broken))
      else (
       some false))
     else (
      some false))
    else (
     some false))
   else (
    some false))
  else (
   (OH x0).bind λr0=>
   (Ys x0.done 0 (Y8 r0 1)).bind λr1=>
   if r1=true then (
    (OH x0).bind λr2=>
    (Ys x0.Ao x0.done (Dp (Zl x0.done 2) r2)).bind λr3=>
    some r3)
   else (
    some false)))
def Jr (x0:Zh):Option Bool:=
 if decide ((x0.queue.length:Int) > 4)=true then (
  Qi x0 true)
 else (
  if decide (x0.tries < 0)=true then (
   Qi x0 true)
  else (
   (Wk x0.queue).bind λr4=>
   Qi x0 r4))
def pO (x0:Zh) (x1:Int)  (v0:Bool):Option Int:=
 if v0=true then (
  some (-1))
 else (
  (idx x0.queue 0).bind λa0=>
  (bR a0.addr a0.size a0.Az).bind λr0=>
  (idx r0 x1).bind λa1=>
  some a1)
def OI (x0:Zh) (x1:Int):Option Int:=
 (Jr x0).bind λr1=>
 if (!r1)=true then (
  pO x0 x1 true)
 else (
  (OH x0).bind λr2=>
  (Ys x1 0 (Y8 r2 1)).bind λr3=>
  pO x0 x1 (!r3))
def Xl (x0:List Int):Option (List Int):=Y4 8 [] x0
def Sc (x0:Zj):Option Zj:=
 (Xl x0.Aa).bind λr0=>
 some {x0 with Aa:=r0}
def pP (x0:Zb) (x1:Int)  (k:(List Zm)->Int->Option (List Zm)) (v0:List Zm) (v1:Int):Option (List Zm):=
 if decide (v1 < (x0.Am.length:Int))=true then (
  (idx x0.Am v1).bind λa0=>
  if decide (a0.at_=x1)=true then (
   (Sc a0.Bq).bind λr0=>
   (Y4 80 v0 [{a0 with Bq:=r0}]).bind λz0=>
   k z0 (Zl v1 1))
  else (
   k v0 (Zl v1 1)))
 else (
  some v0)
def pQ (x0:Zb) (x1:Int)  : Nat->(List Zm)->Int->Option (List Zm)
 | 0,_,_=>none
 | m+1,v0,v1=>pP x0 x1  (pQ x0 x1  m) v0 v1
def pR (x0:Zb) (x1:Int):Option (List Zm):=
 pQ x0 x1 FU [] 0
def JQ (x0:Zg) (x1:Int):Option Bool:=
 (Ys x1 0 (Y8 (x0.Ab.length:Int) 1)).bind λr0=>
 some r0
def Yos (x0:Zh)  (k:(List Zj)->Int->Option Zh) (v0:List Zj) (v1:Int):Option Zh:=
 if decide (v1 < (x0.queue.length:Int))=true then (
  (idx x0.queue v1).bind λa0=>
  (Sc a0).bind λr0=>
  (Y4 64 v0 [r0]).bind λz0=>
  k z0 (Zl v1 1))
 else (
  some {x0 with queue:=v0})
def pS (x0:Zh)  : Nat->(List Zj)->Int->Option Zh
 | 0,_,_=>none
 | m+1,v0,v1=>Yos x0  (pS x0  m) v0 v1
def OJ (x0:Zh):Option Zh:=
 pS x0 FU [] 0
def b7 (x0:Zh) (x1:Zj)  (Ad:Zh) (v0:Bool):Option (Zh×Bool):=
 if v0=true then (
  some (Ad,false))
 else (
  (Sc x1).bind λr0=>
  (Y4 64 Ad.queue [r0]).bind λz0=>
  some ({Ad with queue:=z0},true))
def pT (x0:Zh) (x1:Zj):Option (Zh×Bool):=
 (OJ x0).bind λr1=>
 (Jr x0).bind λr2=>
 if (!r2)=true then (
  b7 x0 x1 r1 true)
 else (
  (OF x1).bind λr3=>
  if (!r3)=true then (
   b7 x0 x1 r1 true)
  else (
   b7 x0 x1 r1 (decide ((x0.queue.length:Int)=4))))
def b8 (x0:Zk) (x1:Zd):Option Bool:=
 if (!x1.prio)=true then (
  some (decide (x0.tokens=0)&&(decide (x0.count=0)&&true)))
 else (
  (Ys x0.tokens 0 x1.cap).bind λr0=>
  if r0=true then (
   if decide (x0.count≥0)=true then (
    some (decide (x0.count < x1.every)))
   else (
    some false))
  else (
   some false))
def Uq (x0:Zk) (x1:Zd):Option Bool:=
 if x1.prio=true then (
  (b8 x0 x1).bind λr0=>
  some r0)
 else (
  some false)
def pU (x0:Zk) (x1:Zd):Option Zk:=
 (Uq x0 x1).bind λr0=>
 if (!r0)=true then (
  some x0)
 else (
  if decide ((Zl x0.count 1)=x1.every)=true then (
   some (Zk.mk (Dp (Zl x0.tokens 1) x1.cap) 0))
  else (
   some (Zk.mk x0.tokens (Zl x0.count 1))))
def pV (x0:Zh)  (Ad:Zh) (v0:Bool):Option (Zh×Bool):=
 if v0=true then (
  some (Ad,false))
 else (
  some ({Ad with Ao:=(Y8 Ad.Ao 1)},true))
def pW (x0:Zh):Option (Zh×Bool):=
 (OJ x0).bind λr0=>
 (Jr x0).bind λr1=>
 if (!r1)=true then (
  pV x0 r0 true)
 else (
  pV x0 r0 (decide (x0.Ao=x0.done)))
def pX (x0:Zk) (x1:Zd):Option Zk:=
 (Uq x0 x1).bind λr0=>
 if r0=true then (
  if decide (x0.tokens < x1.cap)=true then (
   some (Zk.mk (Zl x0.tokens 1) x0.count))
  else (
   some x0))
 else (
  some x0)
def Zyd (x0:Zg) (x1:Int)  (v0:Bool):Option Int:=
 if v0=true then (
  some 0)
 else (
  (idx x0.Ab x1).bind λa0=>
  some (X5 a0.weight x0.Av))
def Ur (x0:Zg) (x1:Int):Option Int:=
 (L3 x0).bind λr0=>
 if (!r0)=true then (
  Zyd x0 x1 true)
 else (
  (JQ x0 x1).bind λr1=>
  Zyd x0 x1 (!r1))
def Sd (x0:Yg) (x1:Zg):Option Bool:=
 (L3 x1).bind λr0=>
 if r0=true then (
  (JQ x1 x0.at_).bind λr1=>
  if r1=true then (
   (Ur x1 x0.at_).bind λr2=>
   (Ys x0.Bd 0 r2).bind λr3=>
   some r3)
  else (
   some false))
 else (
  some false)
def pY (x0:Yg) (x1:Zg) (x2:Int)  (v0:Bool):Option Yg:=
 if v0=true then (
  (Ur x1 x2).bind λr0=>
  some (Yg.mk x0.at_ (Dp (Zl x0.Bd 1) r0)))
 else (
  some x0)
def pZ (x0:Yg) (x1:Zg) (x2:Int):Option Yg:=
 (Sd x0 x1).bind λr1=>
 if r1=true then (
  pY x0 x1 x2 (decide (x2=x0.at_)))
 else (
  pY x0 x1 x2 false)
def Us (x0:Za) (x1:Zi):Option Za:=
 (idx x0.m x1.Aj).bind λa0=>
 (pW a0).bind λr0=>
 (Jb x0.m x1.Aj r0.1).bind λy0=>
 if decide (x1.B5=1)=true then (
  (idx x0.buckets x1.Aj).bind λa1=>
  (idx x0.Ae.Ab x1.Aj).bind λa2=>
  (pX a1 a2).bind λr1=>
  (Jb x0.buckets x1.Aj r1).bind λy1=>
  some {x0 with m:=y0,buckets:=y1})
 else (
  if decide (x1.B5=2)=true then (
   (pZ x0.Bo x0.Ae x1.Aj).bind λr2=>
   some {x0 with m:=y0,Bo:=r2})
  else (
   some {x0 with m:=y0}))
def p5 (x0:List Int) (x1:Int)  (v0:Bool):Option Int:=
 if v0=true then (
  some 0)
 else (
  (FG (x0.length:Int)).bind λn0=>
  (idx x0 (C4 x1 (x0.length:Int))).bind λa0=>
  some a0)
def Ut (x0:List Int) (x1:Int):Option Int:=
 if decide ((x0.length:Int)=0)=true then (
  p5 x0 x1 true)
 else (
  p5 x0 x1 (decide (x1 < 0)))
def p6 (x0:Zg) (x1:Zb) (x2:Int):Option Int:=
 (Ut x1.waits x2).bind λr0=>
 some (Fi 1 (Dp (Zl (Fi 0 (Dp r0 99)) 1) x0.Ap))
def p7 (x0:Zh) (x1:Int):Option Int:=
 (idx x0.queue 0).bind λa0=>
 if a0.write=true then (
  (idx a0.Aa x1).bind λa1=>
  some a1)
 else (
  some 0)
def cA (x0:Zn):Option Zn:=
 (Xl x0.AD).bind λr0=>
 (Xl x0.A2).bind λr1=>
 some (Zn.mk r0 x0.timer r1)
def Uu (x0:Zf):Option Zf:=
 (Xl x0.mem).bind λr0=>
 (cA x0.dev).bind λr1=>
 some (Zf.mk r0 r1)
def p8 (x0:Int):Option Bool:=
 (Ys x0 0 255).bind λr0=>
 some (!r0)
def Zmc (x0:List Int)  (k:Int->Option Int) (v0:Int):Option Int:=
 if decide (v0 < (x0.length:Int))=true then (
  (idx x0 v0).bind λa0=>
  (p8 a0).bind λr0=>
  if r0=true then (
   some v0)
  else (
   k (Zl v0 1)))
 else (
  some (-1))
def Js (x0:List Int)  : Nat->Int->Option Int
 | 0,_=>none
 | m+1,v0=>Zmc x0  (Js x0  m) v0
def Zau (x0:List Int):Option Int:=
 Js x0 FU 0
def Qw (x0:List Int):Option Bool:=
 (Zau x0).bind λr0=>
 some (decide (r0≥0))
def Uv (x0:List Int) (x1:Int) (x2:Int):Option Bool:=
 if decide ((x0.length:Int)<=512)=true then (
  (Qw x0).bind λr0=>
  if (!r0)=true then (
   (RW x1 x2).bind λr1=>
   if r1=true then (
    (JP x2).bind λr2=>
    some (decide (x1<=(Y8 (x0.length:Int) r2))))
   else (
    some false))
  else (
   some false))
 else (
  some false)
def p9 (x0:Int):Option Bool:=
 (L6 x0 2).bind λr0=>
 some (!r0)
def Zlu (x0:List Int)  (k:Int->Option Int) (v0:Int):Option Int:=
 if decide (v0 < (x0.length:Int))=true then (
  (idx x0 v0).bind λa0=>
  (p9 a0).bind λr0=>
  if r0=true then (
   some v0)
  else (
   k (Zl v0 1)))
 else (
  some (-1))
def Jd (x0:List Int)  : Nat->Int->Option Int
 | 0,_=>none
 | m+1,v0=>Zlu x0  (Jd x0  m) v0
def Zam (x0:List Int):Option Int:=
 Jd x0 FU 0
def Wg (x0:List Int):Option Bool:=
 (Zam x0).bind λr0=>
 some (decide (r0≥0))
def cB (x0:Zn):Option Bool:=
 if decide ((x0.AD.length:Int)=4)=true then (
  if decide ((x0.A2.length:Int)<=4)=true then (
   (Wg x0.AD).bind λr0=>
   if (!r0)=true then (
    (Wg x0.A2).bind λr1=>
    if (!r1)=true then (
     (L6 x0.timer 2).bind λr2=>
     some r2)
    else (
     some false))
   else (
    some false))
  else (
   some false))
 else (
  some false)
def Se (x0:Zf):Option Bool:=
 if decide ((x0.mem.length:Int)=192)=true then (
  (Uv x0.mem 0 0).bind λr0=>
  if r0=true then (
   (cB x0.dev).bind λr1=>
   some r1)
  else (
   some false))
 else (
  some false)
def qA (x0:Int)  (v0:Bool):Option Int:=
 if v0=true then (
  some 0)
 else (
  if decide (x0 < 128)=true then (
   some 1)
  else (
   if decide (x0 < 192)=true then (
    some 2)
   else (
    some 3)))
def cC (x0:Int):Option Int:=
 if decide (x0 < 0)=true then (
  qA x0 true)
 else (
  qA x0 (decide (x0≥224)))
def cE (x0:Zn) (x1:Bool) (x2:Int) (x3:Int)  (Ad:Zn) (v0:Bool):Option (Zn×Int×Bool):=
 if v0=true then (
  some (Ad,0,false))
 else (
  if x1=true then (
   (idx Ad.AD (E2 x2 4)).bind λa0=>
   (Jb Ad.AD (E2 x2 4) x3).bind λy0=>
   some ({Ad with AD:=y0},x3,true))
  else (
   (idx x0.AD (E2 x2 4)).bind λa1=>
   some (Ad,a1,true)))
def cF (x0:Zn) (x1:Bool) (x2:Int) (x3:Int)  (Ad:Zn) (v1:Bool):Option (Zn×Int×Bool):=
 if v1=true then (
  (idx x0.A2 0).bind λa2=>
  (Yv x0.A2 1 (x0.A2.length:Int)).bind λs0=>
  (Xl s0).bind λr0=>
  some ({Ad with A2:=r0},a2,true))
 else (
  if decide (x2≥16)=true then (
   cE x0 x1 x2 x3 Ad true)
  else (
   if decide (x2 < 0)=true then (
    cE x0 x1 x2 x3 Ad true)
   else (
    cE x0 x1 x2 x3 Ad (decide ((C4 x2 4)≠0)))))
def cG (x0:Zn) (x1:Bool) (x2:Int) (x3:Int)  (Ad:Zn) (v2:Bool):Option (Zn×Int×Bool):=
 if v2=true then (
  (Y4 8 Ad.A2 [x3]).bind λz0=>
  some ({Ad with A2:=z0},x3,true))
 else (
  if decide (x2=20)=true then (
   if (!x1)=true then (
    cF x0 x1 x2 x3 Ad (decide ((x0.A2.length:Int) > 0)))
   else (
    cF x0 x1 x2 x3 Ad false))
  else (
   cF x0 x1 x2 x3 Ad false))
def qB (x0:Zn) (x1:Bool) (x2:Int) (x3:Int)  (Ad:Zn) (v3:Bool):Option (Zn×Int×Bool):=
 if v3=true then (
  some ({Ad with timer:=x3},x3,true))
 else (
  if decide (x2=16)=true then (
   (bS 2).bind λr1=>
   (FG r1).bind λn0=>
   some ({Ad with timer:=(C4 (Zl x0.timer 1) r1)},x0.timer,true))
  else (
   if decide (x2=20)=true then (
    if x1=true then (
     cG x0 x1 x2 x3 Ad (decide ((x0.A2.length:Int) < 4)))
    else (
     cG x0 x1 x2 x3 Ad false))
   else (
    cG x0 x1 x2 x3 Ad false)))
def Sf (x0:Zn) (x1:Bool) (x2:Int) (x3:Int)  (Ad:Zn) (v4:Bool):Option (Zn×Int×Bool):=
 if v4=true then (
  some (Ad,0,false))
 else (
  if decide (x2=16)=true then (
   qB x0 x1 x2 x3 Ad x1)
  else (
   qB x0 x1 x2 x3 Ad false))
def qC (x0:Zn) (x1:Bool) (x2:Int) (x3:Int):Option (Zn×Int×Bool):=
 (cA x0).bind λr2=>
 (cB x0).bind λr3=>
 if (!r3)=true then (
  Sf x0 x1 x2 x3 r2 true)
 else (
  if x1=true then (
   (L6 x3 2).bind λr4=>
   Sf x0 x1 x2 x3 r2 (!r4))
  else (
   Sf x0 x1 x2 x3 r2 false))
def cH (x0:List Int) (x1:Int) (x2:Int) (x3:Int)  (k:(List Int)->Int->Int->Option (List Int×Bool)) (v0:List Int) (v1:Int) (v2:Int):Option (List Int×Bool):=
 if decide (v2 < v1)=true then (
  (Lv (X5 8 v2)).bind λn0=>
  (idx v0 (Zl x1 v2)).bind λa0=>
  (Jb v0 (Zl x1 v2) (Lu (R0 x3 (X5 8 v2)) 255)).bind λy0=>
  k y0 v1 (Zl v2 1))
 else (
  some (v0,true))
def qD (x0:List Int) (x1:Int) (x2:Int) (x3:Int)  : Nat->(List Int)->Int->Int->Option (List Int×Bool)
 | 0,_,_,_=>none
 | m+1,v0,v1,v2=>cH x0 x1 x2 x3  (qD x0 x1 x2 x3  m) v0 v1 v2
def qE (x0:List Int) (x1:Int) (x2:Int) (x3:Int)  (v0:List Int) (v3:Bool):Option (List Int×Bool):=
 if v3=true then (
  some (v0,false))
 else (
  (JP x2).bind λr0=>
  qD x0 x1 x2 x3 FU v0 r0 0)
def qF (x0:List Int) (x1:Int) (x2:Int) (x3:Int):Option (List Int×Bool):=
 (Xl x0).bind λr1=>
 (Uv x0 x1 x2).bind λr2=>
 if (!r2)=true then (
  qE x0 x1 x2 x3 r1 true)
 else (
  (L6 x3 x2).bind λr3=>
  qE x0 x1 x2 x3 r1 (!r3))
def cI (x0:List Int) (x1:Int) (x2:Int)  (k:Int->Int->Int->Option (Int×Bool)) (v0:Int) (v1:Int) (v2:Int):Option (Int×Bool):=
 if decide (v2 < v1)=true then (
  (idx x0 (Zl x1 v2)).bind λa0=>
  (Lv (X5 8 v2)).bind λn0=>
  k (orW v0 (Rz a0 (X5 8 v2))) v1 (Zl v2 1))
 else (
  some (v0,true))
def qG (x0:List Int) (x1:Int) (x2:Int)  : Nat->Int->Int->Int->Option (Int×Bool)
 | 0,_,_,_=>none
 | m+1,v0,v1,v2=>cI x0 x1 x2  (qG x0 x1 x2  m) v0 v1 v2
def qH (x0:List Int) (x1:Int) (x2:Int):Option (Int×Bool):=
 (Uv x0 x1 x2).bind λr0=>
 if (!r0)=true then (
  some (0,false))
 else (
  (JP x2).bind λr1=>
  qG x0 x1 x2 FU 0 r1 0)
def Uw (x0:Zf) (x1:Bool) (x2:Int) (x3:Int) (x4:Int)  (Ad:Zf) (v0:Int) (v1:Bool):Option (Zf×Int×Int):=
 if (!v1)=true then (
  (Uu x0).bind λr0=>
  some (r0,0,1))
 else (
  some (Ad,v0,0))
def qI (x0:Zf) (x1:Bool) (x2:Int) (x3:Int) (x4:Int)  (Ad:Zf) (v2:Bool):Option (Zf×Int×Int):=
 if v2=true then (
  if x1=true then (
   (qF x0.mem x2 x3 x4).bind λr1=>
   Uw x0 x1 x2 x3 x4 (Zf.mk r1.1 Ad.dev) x4 r1.2)
  else (
   (qH x0.mem x2 x3).bind λr2=>
   Uw x0 x1 x2 x3 x4 Ad r2.1 r2.2))
 else (
  Uw x0 x1 x2 x3 x4 Ad x4 false)
def qJ (x0:Zf) (x1:Bool) (x2:Int) (x3:Int) (x4:Int)  (Ad:Zf) (v3:Int) (v4:Bool):Option (Zf×Int×Int):=
 if v4=true then (
  (qC x0.dev x1 (Y8 x2 192) x4).bind λr3=>
  Uw x0 x1 x2 x3 x4 (Zf.mk Ad.mem r3.1) r3.2.1 r3.2.2)
 else (
  if decide (v3=1)=true then (
   qI x0 x1 x2 x3 x4 Ad true)
  else (
   qI x0 x1 x2 x3 x4 Ad (decide (v3=2))))
def MW (x0:Zf) (x1:Bool) (x2:Int) (x3:Int) (x4:Int)  (Ad:Zf) (v5:Bool):Option (Zf×Int×Int):=
 if v5=true then (
  some (Ad,0,1))
 else (
  (cC x2).bind λr4=>
  if decide (r4=3)=true then (
   qJ x0 x1 x2 x3 x4 Ad r4 (decide (x3=2)))
  else (
   qJ x0 x1 x2 x3 x4 Ad r4 false))
def cJ (x0:Zf) (x1:Bool) (x2:Int) (x3:Int) (x4:Int):Option (Zf×Int×Int):=
 (Uu x0).bind λr5=>
 (Se x0).bind λr6=>
 if (!r6)=true then (
  MW x0 x1 x2 x3 x4 r5 true)
 else (
  (RW x2 x3).bind λr7=>
  if (!r7)=true then (
   MW x0 x1 x2 x3 x4 r5 true)
  else (
   if x1=true then (
    (L6 x4 x3).bind λr8=>
    MW x0 x1 x2 x3 x4 r5 (!r8))
   else (
    MW x0 x1 x2 x3 x4 r5 false)))
def cK (x0:Za) (x1:Zi):Option (Zf×Int×Int):=
 (idx x0.m x1.Aj).bind λa0=>
 (idx a0.queue 0).bind λa1=>
 (OI a0 x1.Ao).bind λr0=>
 (p7 a0 x1.Ao).bind λr1=>
 (cJ x0.model a1.write r0 a1.size r1).bind λr2=>
 some (r2.1,r2.2.1,r2.2.2)
def qK (x0:Zh)  (Ad:Zh) (v0:Bool):Option (Zh×Bool):=
 if v0=true then (
  some (Ad,false))
 else (
  (OH {Ad with done:=(Zl Ad.done 1)}).bind λr0=>
  if decide ((Zl Ad.done 1)=r0)=true then (
   (Yv Ad.queue 1 (Ad.queue.length:Int)).bind λs0=>
   some ((Zh.mk s0 0 0 0 false false),true))
  else (
   some ((Zh.mk Ad.queue Ad.Ao (Zl Ad.done 1) 0 false Ad.broken),true)))
def qL (x0:Zh):Option (Zh×Bool):=
 (OJ x0).bind λr1=>
 (Jr x0).bind λr2=>
 if (!r2)=true then (
  qK x0 r1 true)
 else (
  qK x0 r1 (decide (x0.Ao=x0.done)))
def cL (x0:Za):Option Za:=
 some {x0 with Af:=(-1),held:=0}
def qM (x0:Za) (x1:Zi)  (Ad:Za) (At:Zh):Option Za:=
 (idx Ad.m x1.Aj).bind λa0=>
 (Jb Ad.m x1.Aj At).bind λy0=>
 some {Ad with m:=y0}
def qN (x0:Za) (x1:Zi)  (Ad:Za) (At:Zh) (v0:Bool):Option Za:=
 if v0=true then (
  (cL Ad).bind λr0=>
  qM x0 x1 r0 At)
 else (
  qM x0 x1 Ad At)
def cM (x0:Za) (x1:Zi)  (Ad:Za) (At:Zh) (AJ:Zt):Option Za:=
 (Y4 56 Ad.log [AJ]).bind λz0=>
 (qL At).bind λr1=>
 if decide (Ad.Af=x1.Aj)=true then (
  qN x0 x1 {Ad with log:=z0} r1.1 (decide ((r1.1.queue.length:Int) < (At.queue.length:Int))))
 else (
  qN x0 x1 {Ad with log:=z0} r1.1 false)
def qO (x0:Za) (x1:Zi):Option Za:=
 (idx x0.m x1.Aj).bind λa1=>
 (idx a1.queue 0).bind λa2=>
 (OI a1 x1.Ao).bind λr2=>
 if decide (x1.Ar=0)=true then (
  (cK x0 x1).bind λr3=>
  cM x0 x1 {x0 with model:=r3.1} a1 (Zt.mk x0.now x1.Aj a2.write r2 a2.size r3.2.1 x1.Ar))
 else (
  cM x0 x1 x0 a1 (Zt.mk x0.now x1.Aj a2.write r2 a2.size 0 x1.Ar))
def qP (x0:Za) (x1:Zb) (x2:Zr)  (Ad:Za):Option (Bool×Za×Zr):=
 some (false,Ad,{x2 with Ar:=x0.Aa.Ar})
def Ux (x0:Za) (x1:Zb) (x2:Zr)  (v0:Bool):Option (Bool×Za×Zr):=
 if v0=true then (
  if x0.addr.live=true then (
   (Us {x0 with Aa:={x0.Aa with second:=true}} x0.addr).bind λr0=>
   qP x0 x1 x2 {r0 with addr:=Zi.z0})
  else (
   qP x0 x1 x2 {x0 with Aa:={x0.Aa with second:=true}}))
 else (
  if decide (x0.Aa.Ar=2)=true then (
   (idx x0.m x0.Aa.Aj).bind λa0=>
   (Jb x0.m x0.Aa.Aj {a0 with tries:=(Zl a0.tries 1)}).bind λy0=>
   (Us {x0 with m:=y0,Aa:=Zi.z0} x0.Aa).bind λr1=>
   some (true,r1,{x2 with Ar:=x0.Aa.Ar}))
  else (
   if decide (x0.Aa.Ar=3)=true then (
    (idx x0.m x0.Aa.Aj).bind λa1=>
    (Jb x0.m x0.Aa.Aj {a1 with Ay:=true}).bind λy1=>
    (p6 x0.Ae x1 x0.Aw).bind λr2=>
    (idx x0.splits x0.Aa.Aj).bind λa2=>
    (Jb x0.splits x0.Aa.Aj r2).bind λy2=>
    (Us {x0 with m:=y1,splits:=y2,Aa:=Zi.z0} x0.Aa).bind λr3=>
    some (true,r3,{x2 with Ar:=x0.Aa.Ar}))
   else (
    (qO {x0 with Aa:=Zi.z0} x0.Aa).bind λr4=>
    some (true,r4,{x2 with Ar:=x0.Aa.Ar}))))
def qQ (x0:Za) (x1:Zb) (x2:Zr):Option (Bool×Za×Zr):=
 if (!x0.Aa.live)=true then (
  some (true,x0,x2))
 else (
  if decide (x0.Aa.left > 0)=true then (
   some (false,{x0 with Aa:={x0.Aa with left:=(Y8 x0.Aa.left 1)}},x2))
  else (
   if decide (x0.Aa.Ar≠0)=true then (
    Ux x0 x1 x2 (!x0.Aa.second))
   else (
    Ux x0 x1 x2 false)))
def qR (x0:Zg) (x1:Zb) (x2:Int):Option Int:=
 (Ut x1.waits x2).bind λr0=>
 some (Fi 0 (Dp r0 x0.As))
def qS (x0:Zb) (x1:Int):Option Int:=
 (Ut x0.A3 x1).bind λr0=>
 if decide (r0=2)=true then (
  some r0)
 else (
  if decide (r0=3)=true then (
   some r0)
  else (
   some 0))
def Jf (x0:Za) (x1:Zb) (x2:Zi)  (Ad:Zh) (v0:Int) (v1:Int) (v2:Int) (v3:Int) (v4:Bool):Option (Int×Int):=
 if v4=true then (
  some (2,v2))
 else (
  if decide (v3=3)=true then (
   if decide (v0=2)=true then (
    if (!Ad.Ay)=true then (
     if decide (x2.Aj≠x0.Af)=true then (
      some (3,v2))
     else (
      some (v1,v2)))
    else (
     some (v1,v2)))
   else (
    some (v1,v2)))
  else (
   some (v1,v2)))
def cN (x0:Za) (x1:Zb) (x2:Zi)  (At:Zh) (v0:Int) (v1:Int) (v2:Int):Option (Int×Int):=
 (qS x1 x0.Aw).bind λr0=>
 if decide (r0=2)=true then (
  if decide (v0≠3)=true then (
   Jf x0 x1 x2 At v0 v1 v2 r0 (decide (At.tries < x0.Ae.An)))
  else (
   Jf x0 x1 x2 At v0 v1 v2 r0 false))
 else (
  Jf x0 x1 x2 At v0 v1 v2 r0 false)
def Sg (x0:Za) (x1:Zb) (x2:Zi)  (At:Zh) (v0:Int) (v5:Bool):Option (Int×Int):=
 if v5=true then (
  some (1,0))
 else (
  (cK x0 x2).bind λr1=>
  (qR x0.Ae x1 x0.Aw).bind λr2=>
  if decide (v0=3)=true then (
   cN x0 x1 x2 At v0 r1.2.2 (Zl r2 2))
  else (
   cN x0 x1 x2 At v0 r1.2.2 r2))
def qT (x0:Za) (x1:Zb) (x2:Zi):Option (Int×Int):=
 (idx x0.m x2.Aj).bind λa0=>
 (OI a0 x2.Ao).bind λr3=>
 (cC r3).bind λr4=>
 if a0.broken=true then (
  Sg x0 x1 x2 a0 r4 true)
 else (
  Sg x0 x1 x2 a0 r4 (decide (r4=0)))
def cO (x0:Zh):Option Bool:=
 (Jr x0).bind λr0=>
 if r0=true then (
  (OH x0).bind λr1=>
  some (decide (x0.Ao < r1)))
 else (
  some false)
def qU (x0:Zk) (x1:Zd)  (v0:Bool):Option (Zk×Bool):=
 if v0=true then (
  some (x0,false))
 else (
  some ((Zk.mk (Y8 x0.tokens 1) x0.count),true))
def qV (x0:Zk) (x1:Zd):Option (Zk×Bool):=
 (Uq x0 x1).bind λr0=>
 if (!r0)=true then (
  qU x0 x1 true)
 else (
  qU x0 x1 (decide (x0.tokens=0)))
def Zu2 (x0:Yg) (x1:Zg) (x2:List Bool)  (k:Int->Option (Yg×Int)) (v0:Int):Option (Yg×Int):=
 if decide (v0<=(x1.Ab.length:Int))=true then (
  (FG (x1.Ab.length:Int)).bind λn0=>
  (idx x2 (C4 (Zl x0.at_ v0) (x1.Ab.length:Int))).bind λa0=>
  if a0=true then (
   (Ur x1 (C4 (Zl x0.at_ v0) (x1.Ab.length:Int))).bind λr0=>
   some ((Yg.mk (C4 (Zl x0.at_ v0) (x1.Ab.length:Int)) (Y8 r0 1)),(C4 (Zl x0.at_ v0) (x1.Ab.length:Int))))
  else (
   k (Zl v0 1)))
 else (
  some ((Yg.mk x0.at_ 0),(-1)))
def qW (x0:Yg) (x1:Zg) (x2:List Bool)  : Nat->Int->Option (Yg×Int)
 | 0,_=>none
 | m+1,v0=>Zu2 x0 x1 x2  (qW x0 x1 x2  m) v0
def qX (x0:Yg) (x1:Zg) (x2:List Bool)  (v1:Bool):Option (Yg×Int):=
 if v1=true then (
  some ((Yg.mk x0.at_ (Y8 x0.Bd 1)),x0.at_))
 else (
  qW x0 x1 x2 FU 1)
def qY (x0:Yg) (x1:Zg) (x2:List Bool)  (v2:Bool):Option (Yg×Int):=
 if v2=true then (
  some (x0,(-1)))
 else (
  if decide (x0.Bd > 0)=true then (
   (idx x2 x0.at_).bind λa1=>
   qX x0 x1 x2 a1)
  else (
   qX x0 x1 x2 false))
def qZ (x0:Yg) (x1:Zg) (x2:List Bool):Option (Yg×Int):=
 (Sd x0 x1).bind λr1=>
 if (!r1)=true then (
  qY x0 x1 x2 true)
 else (
  qY x0 x1 x2 (decide ((x2.length:Int)≠(x1.Ab.length:Int))))
def cP (x0:Za)  (k:(List Bool)->Int->Int->Option (Int×Int×Za)) (v0:List Bool) (v1:Int) (v2:Int):Option (Int×Int×Za):=
 if decide (v2 < v1)=true then (
  (idx v0 v2).bind λa0=>
  if (!a0)=true then (
   k v0 v1 (Zl v2 1))
  else (
   (idx x0.buckets v2).bind λa1=>
   (idx x0.Ae.Ab v2).bind λa2=>
   (qV a1 a2).bind λr0=>
   if r0.2=true then (
    (Jb x0.buckets v2 r0.1).bind λy0=>
    some (v2,1,{x0 with buckets:=y0}))
   else (
    k v0 v1 (Zl v2 1))))
 else (
  if decide (x0.Af≠(-1))=true then (
   some ((-1),0,x0))
  else (
   (qZ x0.Bo x0.Ae v0).bind λr1=>
   some (r1.2,2,{x0 with Bo:=r1.1})))
def cQ (x0:Za)  : Nat->(List Bool)->Int->Int->Option (Int×Int×Za)
 | 0,_,_,_=>none
 | m+1,v0,v1,v2=>cP x0  (cQ x0  m) v0 v1 v2
def q6 (x0:Za)  (v0:List Bool) (v3:Bool):Option (Int×Int×Za):=
 if v3=true then (
  some (x0.Af,3,x0))
 else (
  cQ x0 FU v0 (v0.length:Int) 0)
def q7 (x0:Za)  (k:(List Bool)->Int->Option (Int×Int×Za)) (v0:List Bool) (v4:Int):Option (Int×Int×Za):=
 if decide (v4 < (x0.m.length:Int))=true then (
  (idx x0.m v4).bind λa3=>
  (cO a3).bind λr2=>
  if r2=true then (
   (idx x0.splits v4).bind λa4=>
   if decide (a4=0)=true then (
    if decide (x0.Af=(-1))=true then (
     (Y4 1 v0 [true]).bind λz0=>
     k z0 (Zl v4 1))
    else (
     (Y4 1 v0 [decide (x0.Af=v4)]).bind λz0=>
     k z0 (Zl v4 1)))
   else (
    (Y4 1 v0 [false]).bind λz0=>
    k z0 (Zl v4 1)))
  else (
   (Y4 1 v0 [false]).bind λz0=>
   k z0 (Zl v4 1)))
 else (
  if decide (x0.Af≠(-1))=true then (
   (idx v0 x0.Af).bind λa5=>
   q6 x0 v0 a5)
  else (
   q6 x0 v0 false))
def q8 (x0:Za)  : Nat->(List Bool)->Int->Option (Int×Int×Za)
 | 0,_,_=>none
 | m+1,v0,v4=>q7 x0  (q8 x0  m) v0 v4
def rA (x0:Za):Option (Int×Int×Za):=
 q8 x0 FU [] 0
def Uy (x0:Zh):Option Bool:=
 if decide ((x0.queue.length:Int) > 0)=true then (
  (idx x0.queue 0).bind λa0=>
  if a0.lock=true then (
   some (!x0.broken))
  else (
   some false))
 else (
  some false)
def rB (x0:Zh)  (Ad:Zh) (v0:Bool):Option (Zh×Bool):=
 if v0=true then (
  some (Ad,false))
 else (
  some ({Ad with Ao:=(Zl Ad.Ao 1)},true))
def rC (x0:Zh):Option (Zh×Bool):=
 (OJ x0).bind λr0=>
 (cO x0).bind λr1=>
 if (!r1)=true then (
  rB x0 r0 true)
 else (
  rB x0 r0 (decide (x0.Ao=(Zl x0.done 2))))
def rD (x0:Za)  (Ad:Za) (At:Zh) (v0:Int):Option (Int×Za):=
 (rC At).bind λr0=>
 (idx Ad.m v0).bind λa0=>
 (Jb Ad.m v0 r0.1).bind λy0=>
 some (v0,{Ad with m:=y0,last:=v0})
def rE (x0:Za)  (Ad:Za) (At:Zh) (v0:Int) (v1:Bool):Option (Int×Za):=
 if v1=true then (
  rD x0 {Ad with Af:=v0,held:=0} At v0)
 else (
  rD x0 Ad At v0)
def Sh (x0:Za)  (Ad:Za) (At:Zh) (v0:Int):Option (Int×Za):=
 (Uy At).bind λr1=>
 if r1=true then (
  rE x0 Ad At v0 (decide (Ad.Af=(-1))))
 else (
  rE x0 Ad At v0 false)
def rF (x0:Za):Option (Int×Za):=
 (rA x0).bind λr2=>
 if decide (r2.1 < 0)=true then (
  some ((-1),r2.2.2))
 else (
  (idx r2.2.2.m r2.1).bind λa1=>
  if decide (a1.Ao=0)=true then (
   Sh x0 {r2.2.2 with addr:=(Zi.mk true r2.1 a1.Ao true r2.2.1 0 0 false)} a1 r2.1)
  else (
   Sh x0 {r2.2.2 with addr:=(Zi.mk true r2.1 a1.Ao (decide (r2.2.2.last≠r2.1)) r2.2.1 0 0 false)} a1 r2.1))
def cR (x0:Za) (x1:Zb)  (Ad:Za) (At:Zr):Option (Zr×Za):=
 some (At,{Ad with now:=(Zl Ad.now 1)})
def cS (x0:Za) (x1:Zb)  (Ad:Za) (At:Zr):Option (Zr×Za):=
 (rF Ad).bind λr0=>
 cR x0 x1 r0.2 {At with C5:=r0.1}
def Uz (x0:Za) (x1:Zb)  (Ad:Za) (AJ:Zr):Option (Zr×Za):=
 if Ad.addr.live=true then (
  (qT Ad x1 Ad.addr).bind λr1=>
  cS x0 x1 {Ad with addr:=Zi.z0,Aa:={Ad.addr with left:=r1.2,Ar:=r1.1},Aw:=(Zl Ad.Aw 1)} AJ)
 else (
  cS x0 x1 Ad AJ)
def OK (x0:Za) (x1:Zb)  (Ad:Za) (AJ:Zr) (v0:Bool):Option (Zr×Za):=
 if v0=true then (
  (idx Ad.m Ad.Af).bind λa0=>
  (Jb Ad.m Ad.Af {a0 with broken:=true}).bind λy0=>
  (cL {Ad with m:=y0}).bind λr2=>
  Uz x0 x1 r2 AJ)
 else (
  Uz x0 x1 Ad AJ)
def OL (x0:Za) (x1:Zb)  (Ad:Za) (AJ:Zr):Option (Zr×Za):=
 (qQ Ad x1 AJ).bind λr3=>
 if r3.1=true then (
  if decide (r3.2.1.Af≠(-1))=true then (
   OK x0 x1 r3.2.1 {r3.2.2 with ready:=r3.1} (decide (r3.2.1.held=r3.2.1.Ae.Al)))
  else (
   OK x0 x1 r3.2.1 {r3.2.2 with ready:=r3.1} false))
 else (
  cR x0 x1 r3.2.1 {r3.2.2 with ready:=r3.1})
def rG (x0:Za) (x1:Zb)  (k:Za->Zr->Int->Int->Option (Zr×Za)) (Ad:Za) (AJ:Zr) (v1:Int) (v2:Int):Option (Zr×Za):=
 if decide (v2 < v1)=true then (
  (idx Ad.splits v2).bind λa1=>
  (Jb Ad.splits v2 (Fi (Y8 a1 1) 0)).bind λy1=>
  (idx Ad.buckets v2).bind λa2=>
  (idx Ad.Ae.Ab v2).bind λa3=>
  (pU a2 a3).bind λr4=>
  (Jb Ad.buckets v2 r4).bind λy2=>
  k {Ad with buckets:=y2,splits:=y1} AJ v1 (Zl v2 1))
 else (
  if decide (Ad.Af≠(-1))=true then (
   OL x0 x1 {Ad with held:=(Dp (Zl Ad.held 1) Ad.Ae.Al)} AJ)
  else (
   OL x0 x1 Ad AJ))
def Si (x0:Za) (x1:Zb)  : Nat->Za->Zr->Int->Int->Option (Zr×Za)
 | 0,_,_,_,_=>none
 | m+1,Ad,AJ,v1,v2=>rG x0 x1  (Si x0 x1  m) Ad AJ v1 v2
def rH (x0:Za) (x1:Zb)  (k:Za->Zr->(List Zm)->Int->Int->Option (Zr×Za)) (Ad:Za) (AJ:Zr) (v3:List Zm) (v4:Int) (v5:Int):Option (Zr×Za):=
 if decide (v5 < v4)=true then (
  (idx v3 v5).bind λa4=>
  (JQ Ad.Ae a4.Aj).bind λr5=>
  if r5=true then (
   (idx Ad.m a4.Aj).bind λa5=>
   (pT a5 a4.Bq).bind λr6=>
   (Jb Ad.m a4.Aj r6.1).bind λy3=>
   k {Ad with m:=y3} AJ v3 v4 (Zl v5 1))
  else (
   k Ad AJ v3 v4 (Zl v5 1)))
 else (
  Si x0 x1 FU Ad AJ (Ad.splits.length:Int) 0)
def cT (x0:Za) (x1:Zb)  : Nat->Za->Zr->(List Zm)->Int->Int->Option (Zr×Za)
 | 0,_,_,_,_,_=>none
 | m+1,Ad,AJ,v3,v4,v5=>rH x0 x1  (cT x0 x1  m) Ad AJ v3 v4 v5
def cU (x0:Za) (x1:Zb)  (AJ:Zr):Option (Zr×Za):=
 (pR x1 x0.now).bind λr7=>
 cT x0 x1 FU x0 AJ r7 (r7.length:Int) 0
def cV (x0:Za) (x1:Zb)  (AJ:Zr):Option (Zr×Za):=
 if x0.Aa.live=true then (
  (idx x0.m x0.Aa.Aj).bind λa6=>
  (OI a6 x0.Aa.Ao).bind λr8=>
  cU x0 x1 {AJ with Aa:=r8,from_:=x0.Aa.Aj})
 else (
  cU x0 x1 AJ)
def Sj (x0:Za) (x1:Zb):Option (Zr×Za):=
 if x0.addr.live=true then (
  (idx x0.m x0.addr.Aj).bind λa7=>
  (OI a7 x0.addr.Ao).bind λr9=>
  if x0.addr.first=true then (
   cV x0 x1 (Zr.mk x0.now r9 2 x0.addr.Aj (-1) (-1) true 0 (-1)))
  else (
   cV x0 x1 (Zr.mk x0.now r9 3 x0.addr.Aj (-1) (-1) true 0 (-1))))
 else (
  cV x0 x1 (Zr.mk x0.now (-1) 0 (-1) (-1) (-1) true 0 (-1)))
def Sk (x0:Int) (x1:List ByteArray):Option ByteArray:=
 (Ys x0 0 (Y8 (x1.length:Int) 1)).bind λr0=>
 if (!r0)=true then (
  some ByteArray.empty)
 else (
  (idx x1 x0).bind λa0=>
  some a0)
def cW (x0:Int):Option ByteArray:=
 (Sk x0 [(Ze [105,100,108,101]),ByteArray.empty,(Ze [102,105,114,115,116]),(Ze [110,101,120,116])]).bind λr0=>
 some r0
def MX (x0:Int):Option ByteArray:=
 if decide (x0 < 0)=true then (
  some (Ze [45]))
 else (
  (Gg x0).bind λr0=>
  some r0)
def U0 (x0:Int):Option ByteArray:=
 (Sk x0 [(Ze [111,107,97,121]),(Ze [101,114,114,111,114]),(Ze [114,101,116,114,121]),(Ze [115,112,108,105,116])]).bind λr0=>
 some r0
def cX (x0:Zr)  (v0:ByteArray):Option ByteArray:=
 (Gg x0.A5).bind λr0=>
 (cW x0.kind).bind λr1=>
 (MX x0.Aj).bind λr2=>
 (Z9 r2 (Ze [58])).bind λn0=>
 (MX x0.addr).bind λr3=>
 (Z9 (r2++(Ze [58])) r3).bind λn1=>
 (MX x0.from_).bind λr4=>
 (Z9 r4 (Ze [58])).bind λn2=>
 (MX x0.Aa).bind λr5=>
 (Z9 (r4++(Ze [58])) r5).bind λn3=>
 (U0 x0.Ar).bind λr6=>
 (MX x0.C5).bind λr7=>
 (Qt [r0,r1,((r2++(Ze [58]))++r3),((r4++(Ze [58]))++r5),v0,r6,r7] (Ze [32])).bind λr8=>
 some r8
def rI (x0:Zr):Option ByteArray:=
 if x0.ready=true then (
  cX x0 (Ze [114,101,97,100,121]))
 else (
  cX x0 (Ze [119,97,105,116]))
def rJ (x0:List Zk):Option (List Zk):=Y4 16 [] x0
def rK (x0:List Zt):Option (List Zt):=Y4 56 [] x0
def rL (x0:Za)  (k:Za->(List Zh)->Int->Option Za) (Ad:Za) (v0:List Zh) (v1:Int):Option Za:=
 if decide (v1 < (x0.m.length:Int))=true then (
  (idx x0.m v1).bind λa0=>
  (OJ a0).bind λr0=>
  (Y4 56 v0 [r0]).bind λz0=>
  k Ad z0 (Zl v1 1))
 else (
  (rJ Ad.buckets).bind λr1=>
  (Xl Ad.splits).bind λr2=>
  (Uu Ad.model).bind λr3=>
  (rK Ad.log).bind λr4=>
  some {Ad with m:=v0,buckets:=r1,splits:=r2,model:=r3,log:=r4})
def cY (x0:Za)  : Nat->Za->(List Zh)->Int->Option Za
 | 0,_,_,_=>none
 | m+1,Ad,v0,v1=>rL x0  (cY x0  m) Ad v0 v1
def cZ (x0:Za):Option Za:=
 (bW x0.Ae).bind λr5=>
 cY x0 FU {x0 with Ae:=r5} [] 0
def rM (x0:Za)  (k:Int->Option Bool) (v0:Int):Option Bool:=
 if decide (v0 < (x0.m.length:Int))=true then (
  (idx x0.m v0).bind λa0=>
  (Jr a0).bind λr0=>
  if (!r0)=true then (
   some false)
  else (
   if decide (a0.tries > x0.Ae.An)=true then (
    some false)
   else (
    (idx x0.buckets v0).bind λa1=>
    (idx x0.Ae.Ab v0).bind λa2=>
    (b8 a1 a2).bind λr1=>
    if (!r1)=true then (
     some false)
    else (
     (idx x0.splits v0).bind λa3=>
     (Ys a3 0 x0.Ae.Ap).bind λr2=>
     if (!r2)=true then (
      some false)
     else (
      k (Zl v0 1))))))
 else (
  some true)
def Zkv (x0:Za)  : Nat->Int->Option Bool
 | 0,_=>none
 | m+1,v0=>rM x0  (Zkv x0  m) v0
def Kn (x0:Za)  (v1:Bool):Option Bool:=
 if v1=true then (
  some false)
 else (
  Zkv x0 FU 0)
def rN (x0:Za):Option Bool:=
 if decide ((x0.m.length:Int)≠(x0.Ae.Ab.length:Int))=true then (
  Kn x0 true)
 else (
  if decide ((x0.buckets.length:Int)≠(x0.Ae.Ab.length:Int))=true then (
   Kn x0 true)
  else (
   Kn x0 (decide ((x0.splits.length:Int)≠(x0.Ae.Ab.length:Int)))))
def rO (x0:Zi):Option Bool:=
 some (!x0.live)
def Ziq (x0:List Zi)  (k:Int->Option Int) (v0:Int):Option Int:=
 if decide (v0 < (x0.length:Int))=true then (
  (idx x0 v0).bind λa0=>
  (rO a0).bind λr0=>
  if r0=true then (
   some v0)
  else (
   k (Zl v0 1)))
 else (
  some (-1))
def Q7 (x0:List Zi)  : Nat->Int->Option Int
 | 0,_=>none
 | m+1,v0=>Ziq x0  (Q7 x0  m) v0
def K1 (x0:List Zi):Option Int:=
 Q7 x0 FU 0
def Zif (x0:List Zi)  (k:(List Zi)->Int->Int->Option (List Zi)) (v0:List Zi) (v1:Int) (v2:Int):Option (List Zi):=
 if decide (v2 < (v0.length:Int))=true then (
  (idx v0 v2).bind λa0=>
  (rO a0).bind λr0=>
  if (!r0)=true then (
   (idx v0 v1).bind λa1=>
   (Jb v0 v1 a0).bind λy0=>
   k y0 (Zl v1 1) (Zl v2 1))
  else (
   k v0 v1 (Zl v2 1)))
 else (
  (Yv v0 v1 (v0.length:Int)).bind λs0=>
  (Lt Zi.z0 v0 v1 (v0.length:Int)).bind λy1=>
  (Yv y1 0 v1).bind λs1=>
  some s1)
def Q2 (x0:List Zi)  : Nat->(List Zi)->Int->Int->Option (List Zi)
 | 0,_,_,_=>none
 | m+1,v0,v1,v2=>Zif x0  (Q2 x0  m) v0 v1 v2
def W2 (x0:List Zi):Option (List Zi):=
 (K1 x0).bind λr1=>
 if decide (r1=(-1))=true then (
  some x0)
 else (
  Q2 x0 FU x0 r1 (Zl r1 1))
def rP (x0:Za):Option (List Zi):=
 (W2 [x0.addr,x0.Aa]).bind λr0=>
 some r0
def Jx (x0:Za) (A4:(List Int)->(List Zi)->Int->Int->Option Bool) (Ad:Zi) (v0:List Int) (v1:List Zi) (v2:Int) (v3:Int) (v4:Bool):Option Bool:=
 if v4=true then (
  some false)
 else (
  (idx v0 Ad.Aj).bind λa0=>
  (Jb v0 Ad.Aj (Zl a0 1)).bind λy0=>
  A4 y0 v1 v2 (Zl v3 1))
def Kf (x0:Za)  (v5:Bool):Option Bool:=
 if v5=true then (
  some false)
 else (
  if (!x0.Aa.second)=true then (
   some true)
  else (
   if decide (x0.Aa.left=0)=true then (
    if decide (x0.Aa.Ar≠0)=true then (
     some (!x0.addr.live))
    else (
     some false))
   else (
    some false)))
def c6 (x0:Za)  (At:Zh) (v6:Bool):Option Bool:=
 if v6=true then (
  some false)
 else (
  if decide (x0.Aa.Ar=3)=true then (
   if At.Ay=true then (
    Kf x0 true)
   else (
    Kf x0 (decide (x0.Aa.Aj=x0.Af))))
  else (
   Kf x0 false))
def U4 (x0:Za)  (At:Zh) (v7:Bool):Option Bool:=
 if v7=true then (
  some false)
 else (
  if decide (x0.Aa.Ar=2)=true then (
   c6 x0 At (decide (At.tries≥x0.Ae.An)))
  else (
   c6 x0 At false))
def Xm (x0:Za)  (v8:Bool):Option Bool:=
 if v8=true then (
  some false)
 else (
  if (!x0.Aa.live)=true then (
   some ((x0.Aa.live == false)&&(decide (x0.Aa.Aj=0)&&(decide (x0.Aa.Ao=0)&&((x0.Aa.first == false)&&(decide (x0.Aa.B5=0)&&(decide (x0.Aa.left=0)&&(decide (x0.Aa.Ar=0)&&((x0.Aa.second == false)&&true)))))))))
  else (
   (idx x0.m x0.Aa.Aj).bind λa1=>
   if decide (x0.Aa.Ao≠a1.done)=true then (
    U4 x0 a1 true)
   else (
    (Ys x0.Aa.left 0 (Zl x0.Ae.As 2)).bind λr0=>
    if (!r0)=true then (
     U4 x0 a1 true)
    else (
     (Ys x0.Aa.Ar 0 3).bind λr1=>
     U4 x0 a1 (!r1)))))
def W6 (x0:Za)  (k:(List Int)->Int->Option Bool) (v0:List Int) (v9:Int):Option Bool:=
 if decide (v9 < (x0.m.length:Int))=true then (
  (idx x0.m v9).bind λa2=>
  (idx v0 v9).bind λa3=>
  if decide ((Y8 a2.Ao a2.done)≠a3)=true then (
   some false)
  else (
   k v0 (Zl v9 1)))
 else (
  if x0.addr.live=true then (
   (idx x0.m x0.addr.Aj).bind λa4=>
   if decide (x0.addr.Ao≠(Y8 a4.Ao 1))=true then (
    Xm x0 true)
   else (
    if decide (x0.addr.left≠0)=true then (
     Xm x0 true)
    else (
     if decide (x0.addr.Ar≠0)=true then (
      Xm x0 true)
     else (
      if x0.addr.second=true then (
       Xm x0 true)
      else (
       if (!x0.addr.live)=true then (
        Xm x0 (!((x0.addr.live == false)&&(decide (x0.addr.Aj=0)&&(decide (x0.addr.Ao=0)&&((x0.addr.first == false)&&(decide (x0.addr.B5=0)&&(decide (x0.addr.left=0)&&(decide (x0.addr.Ar=0)&&((x0.addr.second == false)&&true))))))))))
       else (
        Xm x0 false))))))
  else (
   if (!x0.addr.live)=true then (
    Xm x0 (!((x0.addr.live == false)&&(decide (x0.addr.Aj=0)&&(decide (x0.addr.Ao=0)&&((x0.addr.first == false)&&(decide (x0.addr.B5=0)&&(decide (x0.addr.left=0)&&(decide (x0.addr.Ar=0)&&((x0.addr.second == false)&&true))))))))))
   else (
    Xm x0 false)))
def c7 (x0:Za)  : Nat->(List Int)->Int->Option Bool
 | 0,_,_=>none
 | m+1,v0,v9=>W6 x0  (c7 x0  m) v0 v9
def W4 (x0:Za)  (k:(List Int)->(List Zi)->Int->Int->Option Bool) (v0:List Int) (v1:List Zi) (v2:Int) (v3:Int):Option Bool:=
 if decide (v3 < v2)=true then (
  (idx v1 v3).bind λa5=>
  (JQ x0.Ae a5.Aj).bind λr2=>
  if (!r2)=true then (
   Jx x0 k a5 v0 v1 v2 v3 true)
  else (
   (Ys a5.B5 1 3).bind λr3=>
   if (!r3)=true then (
    Jx x0 k a5 v0 v1 v2 v3 true)
   else (
    (idx x0.splits a5.Aj).bind λa6=>
    Jx x0 k a5 v0 v1 v2 v3 (decide (a6≠0)))))
 else (
  c7 x0 FU v0 0)
def rQ (x0:Za)  : Nat->(List Int)->(List Zi)->Int->Int->Option Bool
 | 0,_,_,_,_=>none
 | m+1,v0,v1,v2,v3=>W4 x0  (rQ x0  m) v0 v1 v2 v3
def U5 (x0:Za):Option Bool:=
 (H5 8 (x0.m.length:Int) 0).bind λm0=>
 (rP x0).bind λr4=>
 rQ x0 FU m0 r4 (r4.length:Int) 0
def rR (x0:Za)  (k:Int->Option Bool) (v0:Int):Option Bool:=
 if decide (v0 < (x0.m.length:Int))=true then (
  (idx x0.m v0).bind λa0=>
  if decide (a0.Ao > 0)=true then (
   (Uy a0).bind λr0=>
   if r0=true then (
    if decide (x0.Af≠v0)=true then (
     some false)
    else (
     k (Zl v0 1)))
   else (
    k (Zl v0 1)))
  else (
   k (Zl v0 1)))
 else (
  if decide (x0.Af=(-1))=true then (
   some (decide (x0.held=0)))
  else (
   (JQ x0.Ae x0.Af).bind λr1=>
   if r1=true then (
    (idx x0.m x0.Af).bind λa1=>
    (Uy a1).bind λr2=>
    if r2=true then (
     (idx x0.splits x0.Af).bind λa2=>
     if decide (a2=0)=true then (
      (Ys x0.held 0 x0.Ae.Al).bind λr3=>
      some r3)
     else (
      some false))
    else (
     some false))
   else (
    some false)))
def Zqv (x0:Za)  : Nat->Int->Option Bool
 | 0,_=>none
 | m+1,v0=>rR x0  (Zqv x0  m) v0
def U6 (x0:Za):Option Bool:=
 Zqv x0 FU 0
def rS (x0:Za)  (k:Int->Int->Option Bool) (v0:Int) (v1:Int):Option Bool:=
 if decide (v1 < (x0.log.length:Int))=true then (
  (idx x0.log v1).bind λa0=>
  if decide (a0.A5<=v0)=true then (
   some false)
  else (
   if decide (a0.A5≥x0.now)=true then (
    some false)
   else (
    (JQ x0.Ae a0.Aj).bind λr0=>
    if (!r0)=true then (
     some false)
    else (
     (RW a0.addr a0.size).bind λr1=>
     if (!r1)=true then (
      some false)
     else (
      if decide (a0.addr≥512)=true then (
       some false)
      else (
       (L6 a0.value a0.size).bind λr2=>
       if (!r2)=true then (
        some false)
       else (
        if decide (a0.Ar≠0)=true then (
         if decide (a0.Ar≠1)=true then (
          some false)
         else (
          k a0.A5 (Zl v1 1)))
        else (
         k a0.A5 (Zl v1 1)))))))))
 else (
  some true)
def rT (x0:Za)  : Nat->Int->Int->Option Bool
 | 0,_,_=>none
 | m+1,v0,v1=>rS x0  (rT x0  m) v0 v1
def U7 (x0:Za):Option Bool:=
 rT x0 FU (-1) 0
def U8 (x0:Za):Option Bool:=
 (L3 x0.Ae).bind λr0=>
 if r0=true then (
  (Ys x0.now 0 4000).bind λr1=>
  if r1=true then (
   (rN x0).bind λr2=>
   if r2=true then (
    (Sd x0.Bo x0.Ae).bind λr3=>
    if r3=true then (
     if decide (x0.last=(-1))=true then (
      (Se x0.model).bind λr4=>
      if r4=true then (
       (Ys x0.Aw 0 x0.now).bind λr5=>
       if r5=true then (
        (U5 x0).bind λr6=>
        if r6=true then (
         (U6 x0).bind λr7=>
         if r7=true then (
          (U7 x0).bind λr8=>
          some r8)
         else (
          some false))
        else (
         some false))
       else (
        some false))
      else (
       some false))
     else (
      (JQ x0.Ae x0.last).bind λr9=>
      if r9=true then (
       (Se x0.model).bind λr4=>
       if r4=true then (
        (Ys x0.Aw 0 x0.now).bind λr5=>
        if r5=true then (
         (U5 x0).bind λr6=>
         if r6=true then (
          (U6 x0).bind λr7=>
          if r7=true then (
           (U7 x0).bind λr8=>
           some r8)
          else (
           some false))
         else (
          some false))
        else (
         some false))
       else (
        some false))
      else (
       some false)))
    else (
     some false))
   else (
    some false))
  else (
   some false))
 else (
  some false)
def Yhy (x0:Zb)  (k:Int->Int->Option Int) (v0:Int) (v1:Int):Option Int:=
 if decide (v1 < (x0.Am.length:Int))=true then (
  (idx x0.Am v1).bind λa0=>
  k (Fi v0 a0.at_) (Zl v1 1))
 else (
  some v0)
def rU (x0:Zb)  : Nat->Int->Int->Option Int
 | 0,_,_=>none
 | m+1,v0,v1=>Yhy x0  (rU x0  m) v0 v1
def rV (x0:Zb):Option Int:=
 rU x0 FU (-1) 0
def c8 (x0:Zh):Option Bool:=
 some (decide ((x0.queue.length:Int) > 0))
def Zir (x0:List Zh)  (k:Int->Option Int) (v0:Int):Option Int:=
 if decide (v0 < (x0.length:Int))=true then (
  (idx x0 v0).bind λa0=>
  (c8 a0).bind λr0=>
  if r0=true then (
   some v0)
  else (
   k (Zl v0 1)))
 else (
  some (-1))
def Wo (x0:List Zh)  : Nat->Int->Option Int
 | 0,_=>none
 | m+1,v0=>Zir x0  (Wo x0  m) v0
def K3 (x0:List Zh):Option Int:=
 Wo x0 FU 0
def Kj (x0:List Zh):Option Bool:=
 (K3 x0).bind λr0=>
 some (decide (r0≥0))
def dA (x0:Za):Option Bool:=
 (Kj x0.m).bind λr0=>
 some (!r0)
def dB (x0:Za) (x1:Zb)  (Ad:Za):Option (Za×Int):=
 (cZ Ad).bind λr0=>
 some (r0,(Y8 Ad.now x0.now))
def dC (x0:Za) (x1:Zb)  (k:Za->Int->Option (Za×Int)) (At:Za) (v0:Int):Option (Za×Int):=
 if decide (At.now < 4000)=true then (
  (dA At).bind λr1=>
  if (!r1)=true then (
   (Sj At x1).bind λr2=>
   k r2.2 v0)
  else (
   if decide (At.now<=v0)=true then (
    (Sj At x1).bind λr2=>
    k r2.2 v0)
   else (
    dB x0 x1 At)))
 else (
  dB x0 x1 At)
def Sl (x0:Za) (x1:Zb)  : Nat->Za->Int->Option (Za×Int)
 | 0,_,_=>none
 | m+1,At,v0=>dC x0 x1  (Sl x0 x1  m) At v0
def rW (x0:Za) (x1:Zb):Option (Za×Int):=
 (cZ x0).bind λr3=>
 (U8 x0).bind λr4=>
 if (!r4)=true then (
  some (r3,0))
 else (
  (rV x1).bind λr5=>
  Sl x0 x1 FU r3 r5)
def Zwn (x0:List Zt)  (k:Zf->Int->Option (Zf×Int)) (Ad:Zf) (v0:Int):Option (Zf×Int):=
 if decide (v0 < (x0.length:Int))=true then (
  (idx x0 v0).bind λa0=>
  if decide (a0.Ar=1)=true then (
   k Ad (Zl v0 1))
  else (
   (cJ Ad a0.write a0.addr a0.size a0.value).bind λr0=>
   if decide (r0.2.2≠a0.Ar)=true then (
    some (Ad,v0))
   else (
    if decide (r0.2.1≠a0.value)=true then (
     some (Ad,v0))
    else (
     k r0.1 (Zl v0 1)))))
 else (
  some (Ad,(-1)))
def dD (x0:List Zt)  : Nat->Zf->Int->Option (Zf×Int)
 | 0,_,_=>none
 | m+1,Ad,v0=>Zwn x0  (dD x0  m) Ad v0
def rX (x0:List Zt):Option (Zf×Int):=
 (bX).bind λr1=>
 dD x0 FU r1 0
def rY (x0:Zt):Option ByteArray:=
 (Gg x0.A5).bind λr0=>
 (Gg x0.Aj).bind λr1=>
 (RX x0.write).bind λr2=>
 (Gg x0.addr).bind λr3=>
 (Gg x0.value).bind λr4=>
 (U0 x0.Ar).bind λr5=>
 (Qt [r0,r1,r2,r3,r4,r5] (Ze [32])).bind λr6=>
 some r6
def rZ (Au:Zg) (Aq:Zb) (AH:Za) (x1:ByteArray):Option (ByteArray×Z3):=
 if (x1.toList == (Ze [115,116,101,112]).toList)=true then (
  if decide (AH.now=4000)=true then (
   some ((Ze [101,110,100]),(Z3.mk Au Aq (some AH))))
  else (
   (Sj AH Aq).bind λr0=>
   (rI r0.1).bind λr1=>
   some (r1,(Z3.mk Au Aq (some r0.2)))))
 else (
  if (x1.toList == (Ze [111,117,116]).toList)=true then (
   (rW AH Aq).bind λr2=>
   (Gg r2.2).bind λr3=>
   some (r3,(Z3.mk Au Aq (some r2.1))))
  else (
   if (x1.toList == (Ze [105,100,108,101]).toList)=true then (
    (dA AH).bind λr4=>
    if r4=true then (
     some ((Ze [121,101,115]),(Z3.mk Au Aq (some AH))))
    else (
     some ((Ze [110,111]),(Z3.mk Au Aq (some AH)))))
   else (
    if (x1.toList == (Ze [111,107]).toList)=true then (
     (rX AH.log).bind λr5=>
     (MX r5.2).bind λr6=>
     some (r6,(Z3.mk Au Aq (some AH))))
    else (
     if decide ((AH.log.length:Int)=0)=true then (
      some ((Ze [45]),(Z3.mk Au Aq (some AH))))
     else (
      (idx AH.log (Y8 (AH.log.length:Int) 1)).bind λa0=>
      (rY a0).bind λr7=>
      (Z9 r7 (Ze [32,111,102,32])).bind λn0=>
      (Gg (AH.log.length:Int)).bind λr8=>
      (Z9 (r7++(Ze [32,111,102,32])) r8).bind λn1=>
      some (((r7++(Ze [32,111,102,32]))++r8),(Z3.mk Au Aq (some AH))))))))
def Sm (Au:Zg) (Aq:Zb) (AH:Za) (x1:ByteArray)  (v0:Bool):Option (ByteArray×Z3):=
 if v0=true then (
  (rZ Au Aq AH x1).bind λr0=>
  match r0 with
  | (z0,⟨z1,z2,none⟩)=>(
   some (z0,(Z3.mk z1 z2 none)))
  | (z0,⟨z1,z2,some z3⟩)=>(
   some (z0,(Z3.mk z1 z2 (some z3)))))
 else (
  some ((Ze [119,104,97,116]),(Z3.mk Au Aq (some AH))))
def dE (Au:Zg) (Aq:Zb) (AH:Za) (x1:ByteArray):Option (ByteArray×Z3):=
 if (x1.toList == (Ze [110,101,119]).toList)=true then (
  (bY Au).bind λr1=>
  if (!r1.2)=true then (
   some ((Ze [110,111]),(Z3.mk Au Aq (some AH))))
  else (
   some ((Ze [111,107]),(Z3.mk Au Aq (some r1.1)))))
 else (
  if (x1.toList == (Ze [99,111,110,102]).toList)=true then (
   (RS Au).bind λr2=>
   if (!(r2.toList == ByteArray.empty.toList))=true then (
    some (r2,(Z3.mk Au Aq (some AH))))
   else (
    some ((Ze [110,111,110,101]),(Z3.mk Au Aq (some AH)))))
  else (
   if (x1.toList == (Ze [115,116,101,112]).toList)=true then (
    Sm Au Aq AH x1 (x1.toList == (Ze [115,116,101,112]).toList))
   else (
    if (x1.toList == (Ze [111,117,116]).toList)=true then (
     Sm Au Aq AH x1 (x1.toList == (Ze [111,117,116]).toList))
    else (
     if (x1.toList == (Ze [105,100,108,101]).toList)=true then (
      Sm Au Aq AH x1 (x1.toList == (Ze [105,100,108,101]).toList))
     else (
      if (x1.toList == (Ze [111,107]).toList)=true then (
       Sm Au Aq AH x1 (x1.toList == (Ze [111,107]).toList))
      else (
       Sm Au Aq AH x1 (x1.toList == (Ze [108,111,103]).toList)))))))
def sA (x0:ByteArray)  (k:Z3->ByteArray->(List ByteArray)->Int->Int->Option ByteArray) (Ad:Z3) (v0:ByteArray) (v1:List ByteArray) (v2:Int) (v3:Int):Option ByteArray:=
 match Ad with
 | ⟨z0,z1,none⟩=>(
  if decide (v3 < v2)=true then (
   (idx v1 v3).bind λa0=>
   if (a0.toList == ByteArray.empty.toList)=true then (
    k (Z3.mk z0 z1 none) v0 v1 v2 (Zl v3 1))
   else (
    (RQ a0 (Ze [32])).bind λr0=>
    if r0=true then (
     (pG z0 z1 a0).bind λr1=>
     match r1 with
     | (z2,⟨z3,z4,none⟩)=>(
      (Z9 z2 (Ze [10])).bind λn0=>
      (Z9 v0 (z2++(Ze [10]))).bind λn1=>
      k (Z3.mk z3 z4 none) (v0++(z2++(Ze [10]))) v1 v2 (Zl v3 1))
     | (z2,⟨z3,z4,some z5⟩)=>(
      (Z9 z2 (Ze [10])).bind λn0=>
      (Z9 v0 (z2++(Ze [10]))).bind λn1=>
      k (Z3.mk z3 z4 (some z5)) (v0++(z2++(Ze [10]))) v1 v2 (Zl v3 1)))
    else (
     (bZ z0 z1 a0).bind λr2=>
     match r2 with
     | (z6,⟨z7,z8,none⟩)=>(
      (Z9 z6 (Ze [10])).bind λn2=>
      (Z9 v0 (z6++(Ze [10]))).bind λn3=>
      k (Z3.mk z7 z8 none) (v0++(z6++(Ze [10]))) v1 v2 (Zl v3 1))
     | (z6,⟨z7,z8,some z9⟩)=>(
      (Z9 z6 (Ze [10])).bind λn2=>
      (Z9 v0 (z6++(Ze [10]))).bind λn3=>
      k (Z3.mk z7 z8 (some z9)) (v0++(z6++(Ze [10]))) v1 v2 (Zl v3 1)))))
  else (
   some v0))
 | ⟨z0,z1,some Sn⟩=>(
  if decide (v3 < v2)=true then (
   (idx v1 v3).bind λa0=>
   if (a0.toList == ByteArray.empty.toList)=true then (
    k (Z3.mk z0 z1 (some Sn)) v0 v1 v2 (Zl v3 1))
   else (
    (RQ a0 (Ze [32])).bind λr0=>
    if r0=true then (
     (pM z0 z1 Sn a0).bind λr1=>
     match r1 with
     | (z2,⟨z3,z4,none⟩)=>(
      (Z9 z2 (Ze [10])).bind λn0=>
      (Z9 v0 (z2++(Ze [10]))).bind λn1=>
      k (Z3.mk z3 z4 none) (v0++(z2++(Ze [10]))) v1 v2 (Zl v3 1))
     | (z2,⟨z3,z4,some z5⟩)=>(
      (Z9 z2 (Ze [10])).bind λn0=>
      (Z9 v0 (z2++(Ze [10]))).bind λn1=>
      k (Z3.mk z3 z4 (some z5)) (v0++(z2++(Ze [10]))) v1 v2 (Zl v3 1)))
    else (
     (dE z0 z1 Sn a0).bind λr2=>
     match r2 with
     | (z6,⟨z7,z8,none⟩)=>(
      (Z9 z6 (Ze [10])).bind λn2=>
      (Z9 v0 (z6++(Ze [10]))).bind λn3=>
      k (Z3.mk z7 z8 none) (v0++(z6++(Ze [10]))) v1 v2 (Zl v3 1))
     | (z6,⟨z7,z8,some z9⟩)=>(
      (Z9 z6 (Ze [10])).bind λn2=>
      (Z9 v0 (z6++(Ze [10]))).bind λn3=>
      k (Z3.mk z7 z8 (some z9)) (v0++(z6++(Ze [10]))) v1 v2 (Zl v3 1)))))
  else (
   some v0))
def J1 (x0:ByteArray)  : Nat->Z3->ByteArray->(List ByteArray)->Int->Int->Option ByteArray
 | 0,_,_,_,_,_=>none
 | m+1,Ad,v0,v1,v2,v3=>sA x0  (J1 x0  m) Ad v0 v1 v2 v3
def Z41 (x0:ByteArray)  (v4:List ByteArray) (v5:Bool):Option ByteArray:=
 if v5=true then (
  some ByteArray.empty)
 else (
  J1 x0 FU Z3.z0 ByteArray.empty v4 (v4.length:Int) 0)
def Sp (x0:ByteArray)  (v4:List ByteArray):Option ByteArray:=
 if decide ((x0.size:Int) > 3000)=true then (
  Z41 x0 v4 true)
 else (
  Z41 x0 v4 (decide ((v4.length:Int) > 60)))
def U9 (x0:ByteArray):Option ByteArray:=
 (K7 x0 (Ze [10])).bind λr3=>
 (idx r3 (Y8 (r3.length:Int) 1)).bind λa1=>
 if (a1.toList == ByteArray.empty.toList)=true then (
  (Yv r3 0 (Y8 (r3.length:Int) 1)).bind λs0=>
  Sp x0 s0)
 else (
  Sp x0 r3)
def Yp5 (x0:List Int):Option Bool:=
 some (decide ((x0.length:Int) > 1048576))
def sB (x0:List Int) (x1:Int):Option Int:=
 if decide (x1 < (x0.length:Int))=true then (
  (idx x0 x1).bind λa0=>
  some (JL a0))
 else (
  some (C4 (Zl (X5 x1 37) (X5 (x0.length:Int) 11)) 256))
def sC (x0:List Int) (A4:Int->Int->Option Z0) (v0:Int) (v1:Int) (v2:Bool):Option Z0:=
 if v2=true then (
  (idx x0 v1).bind λa0=>
  A4 (Lu (Zl (Zl (X5 v0 131) (JL a0)) 7) 1073741823) (Zl v1 1))
 else (
  some (Z0.mk x0 0 v0))
def Zyn (x0:List Int)  (k:Int->Int->Option Z0) (v0:Int) (v1:Int):Option Z0:=
 if decide (v1 < (x0.length:Int))=true then (
  sC x0 k v0 v1 (decide (v1 < 4000)))
 else (
  sC x0 k v0 v1 false)
def UA (x0:List Int)  : Nat->Int->Int->Option Z0
 | 0,_,_=>none
 | m+1,v0,v1=>Zyn x0  (UA x0  m) v0 v1
def sD (x0:List Int):Option Z0:=
 UA x0 FU (Zl 10101 (x0.length:Int)) 0
def OM (x0:Z0):Option (Int×Z0):=
 if decide (x0.i < (x0.b.length:Int))=true then (
  (idx x0.b x0.i).bind λa0=>
  some ((Lu (Zl (Lu (ZK (R0 (Zl (X5 x0.h 6364136223846793005) 1442695040888963407) 33) (R0 (Zl (X5 x0.h 6364136223846793005) 1442695040888963407) 45)) 255) (JL a0)) 255),(Z0.mk x0.b (Zl x0.i 1) (Zl (X5 x0.h 6364136223846793005) 1442695040888963407))))
 else (
  some ((Lu (ZK (R0 (Zl (X5 x0.h 6364136223846793005) 1442695040888963407) 33) (R0 (Zl (X5 x0.h 6364136223846793005) 1442695040888963407) 45)) 255),{x0 with h:=(Zl (X5 x0.h 6364136223846793005) 1442695040888963407)}))
def Xf (x0:Z0) (x1:Int):Option (Int×Z0):=
 if decide (x1<=0)=true then (
  some (0,x0))
 else (
  if decide (x1<=256)=true then (
   (OM x0).bind λr0=>
   (FG x1).bind λn0=>
   some ((C4 r0.1 x1),r0.2))
  else (
   (OM x0).bind λr1=>
   (OM r1.2).bind λr2=>
   (OM r2.2).bind λr3=>
   (OM r3.2).bind λr4=>
   (FG x1).bind λn1=>
   some ((C4 (Zl (Zl (Zl (X5 r1.1 16777216) (X5 r2.1 65536)) (X5 r3.1 256)) r4.1) x1),r4.2)))
def MY (x0:Z0) (x1:Int):Option (Bool×Z0):=
 (Xf x0 x1).bind λr0=>
 some (decide (r0.1=0),r0.2)
def Zv9 (x0:Z0)  (k:Z0->Zg->Int->Option (Zg×Z0)) (Ad:Z0) (At:Zg) (v0:Int):Option (Zg×Z0):=
 if decide (v0 > 0)=true then (
  (Xf Ad 3).bind λr0=>
  (Y4 32 At.Ab [(Zd.mk (Zl 1 r0.1) false 0 0)]).bind λz0=>
  k r0.2 {At with Ab:=z0} (Y8 v0 1))
 else (
  (MY Ad 2).bind λr1=>
  if r1.1=true then (
   (Xf r1.2 (At.Ab.length:Int)).bind λr2=>
   (idx At.Ab r2.1).bind λa0=>
   (Jb At.Ab r2.1 {a0 with prio:=true}).bind λy0=>
   (MM {At with Ab:=y0}).bind λr3=>
   (Xf r2.2 30).bind λr4=>
   (idx y0 r2.1).bind λa1=>
   (Jb y0 r2.1 {a1 with every:=(Zl (X5 2 r3) r4.1)}).bind λy1=>
   (Xf r4.2 4).bind λr5=>
   (idx y1 r2.1).bind λa2=>
   (Jb y1 r2.1 {a2 with cap:=(Zl 1 r5.1)}).bind λy2=>
   some ({At with Ab:=y2},r5.2))
  else (
   some (At,r1.2)))
def UB (x0:Z0)  : Nat->Z0->Zg->Int->Option (Zg×Z0)
 | 0,_,_,_=>none
 | m+1,Ad,At,v0=>Zv9 x0  (UB x0  m) Ad At v0
def sE (x0:Z0):Option (Zg×Z0):=
 (Xf x0 3).bind λr6=>
 (Xf r6.2 3).bind λr7=>
 (Xf r7.2 3).bind λr8=>
 (Xf r8.2 6).bind λr9=>
 (Xf r9.2 12).bind λEK=>
 (Xf EK.2 4).bind λHe=>
 UB x0 FU He.2 (Zg.mk [] (Zl 1 r6.1) r7.1 r8.1 (Zl 1 r9.1) (Zl 1 EK.1)) (Zl 1 He.1)
def ON (x0:Z0) (x1:List Int):Option (Int×Z0):=
 (Xf x0 (x1.length:Int)).bind λr0=>
 (idx x1 r0.1).bind λa0=>
 some (a0,r0.2)
def sF (x0:Z0) (A4:Z0->Zj->Int->Option (Zj×Z0)) (Ad:Z0) (At:Zj) (v0:Int) (v1:Bool):Option (Zj×Z0):=
 if v1=true then (
  (Qn At.size).bind λr0=>
  (Qn At.size).bind λr1=>
  (ON Ad [(Dp r0 1000),r1]).bind λr2=>
  (Xf r2.2 r2.1).bind λr3=>
  (Y4 8 At.Aa [r3.1]).bind λz0=>
  A4 r3.2 {At with Aa:=z0} (Zl v0 1))
 else (
  some (At,Ad))
def Zya (x0:Z0)  (k:Z0->Zj->Int->Option (Zj×Z0)) (Ad:Z0) (At:Zj) (v0:Int):Option (Zj×Z0):=
 (JO At.Az).bind λr4=>
 if decide (v0 < r4)=true then (
  sF x0 k Ad At v0 At.write)
 else (
  sF x0 k Ad At v0 false)
def UC (x0:Z0)  : Nat->Z0->Zj->Int->Option (Zj×Z0)
 | 0,_,_,_=>none
 | m+1,Ad,At,v0=>Zya x0  (UC x0  m) Ad At v0
def dF (x0:Z0)  (Ad:Z0) (At:Zj):Option (Zj×Z0):=
 UC x0 FU Ad At 0
def sG (x0:Z0):Option (Zj×Z0):=
 (MY x0 2).bind λr5=>
 (ON r5.2 [2,2,2,0,1]).bind λr6=>
 (ON r6.2 [0,0,1,2,3]).bind λr7=>
 (MY r7.2 6).bind λr8=>
 (H8 r6.1).bind λr9=>
 (Xf r8.2 128).bind λEK=>
 (Xf EK.2 128).bind λHe=>
 (Xf He.2 64).bind λG8=>
 (Xf G8.2 40).bind λOO=>
 (Xf OO.2 512).bind λOP=>
 (ON OP.2 [EK.1,He.1,(Zl 128 G8.1),(Zl 192 OO.1),OP.1]).bind λdG=>
 (FG r9).bind λn0=>
 (aD (X5 (E2 dG.1 r9) r9) r6.1 r7.1).bind λr16=>
 if (!r16)=true then (
  dF x0 dG.2 (Zj.mk r5.1 (X5 (E2 dG.1 r9) r9) r6.1 0 r8.1 []))
 else (
  dF x0 dG.2 (Zj.mk r5.1 (X5 (E2 dG.1 r9) r9) r6.1 r7.1 r8.1 []))
def UD (x0:Z0) (x1:List ByteArray):Option (ByteArray×Z0):=
 (Xf x0 (x1.length:Int)).bind λr0=>
 (idx x1 r0.1).bind λa0=>
 some (a0,r0.2)
def dH (x0:List Int) (A4:Z0->Zg->ByteArray->Int->Option ByteArray) (Ad:Z0) (At:Zg) (v0:ByteArray) (v1:Int) (v2:Bool):Option ByteArray:=
 if v2=true then (
  (Z9 v0 (Ze [110,101,119])).bind λn0=>
  (Z9 (v0++(Ze [110,101,119])) (Ze [10])).bind λn1=>
  A4 Ad At ((v0++(Ze [110,101,119]))++(Ze [10])) (Y8 v1 1))
 else (
  (UD Ad [(Ze [115,116,101,112]),(Ze [115,116,101,112]),(Ze [115,116,101,112]),(Ze [111,117,116]),(Ze [108,111,103]),(Ze [105,100,108,101]),(Ze [111,107]),(Ze [99,111,110,102]),(Ze [119,104,97,116])]).bind λr0=>
  (Z9 v0 r0.1).bind λn2=>
  (Z9 (v0++r0.1) (Ze [10])).bind λn1=>
  A4 r0.2 At ((v0++r0.1)++(Ze [10])) (Y8 v1 1))
def dI (x0:List Int) (A4:Z0->Zg->ByteArray->Int->Option ByteArray) (Ad:Z0) (At:Zg) (v0:ByteArray) (v1:Int) (v3:Int) (v4:Bool):Option ByteArray:=
 if v4=true then (
  (Z9 v0 (Ze [112,111,115,116,32])).bind λn3=>
  (Xf Ad 9).bind λr1=>
  (Qs r1.1).bind λr2=>
  (Z9 (v0++(Ze [112,111,115,116,32])) r2).bind λn4=>
  (Z9 ((v0++(Ze [112,111,115,116,32]))++r2) (Ze [32])).bind λn5=>
  (Xf r1.2 (Zl (At.Ab.length:Int) 1)).bind λr3=>
  (Qs r3.1).bind λr4=>
  (Z9 (((v0++(Ze [112,111,115,116,32]))++r2)++(Ze [32])) r4).bind λn6=>
  (Z9 ((((v0++(Ze [112,111,115,116,32]))++r2)++(Ze [32]))++r4) (Ze [32])).bind λn7=>
  (sG r3.2).bind λr5=>
  (RJ r5.1).bind λr6=>
  (Z9 (((((v0++(Ze [112,111,115,116,32]))++r2)++(Ze [32]))++r4)++(Ze [32])) r6).bind λn8=>
  (Z9 ((((((v0++(Ze [112,111,115,116,32]))++r2)++(Ze [32]))++r4)++(Ze [32]))++r6) (Ze [10])).bind λn1=>
  A4 r5.2 At (((((((v0++(Ze [112,111,115,116,32]))++r2)++(Ze [32]))++r4)++(Ze [32]))++r6)++(Ze [10])) (Y8 v1 1))
 else (
  if decide (v3=2)=true then (
   (UD Ad [(Ze [119,97,105,116,115,32,49,32,48]),(Ze [119,97,105,116,115,32,50]),(Ze [115,97,121,115,32,50,32,48]),(Ze [115,97,121,115,32,51,32,48,32,50]),(Ze [119,97,105,116,115,32,120]),(Ze [115,97,121,115]),(Ze [99,111,110,102,32,49,32,49,32,49,32,49,32,49,32,49]),(Ze [99,111,110,102,32,120]),(Ze [112,111,115,116,32,120]),(Ze [119,104,97,116,32,49]),(Ze [112,111,115,116,32,49,32,50])]).bind λr7=>
   (Z9 v0 r7.1).bind λn9=>
   (Z9 (v0++r7.1) (Ze [10])).bind λn1=>
   A4 r7.2 At ((v0++r7.1)++(Ze [10])) (Y8 v1 1))
  else (
   if decide (v3=3)=true then (
    dH x0 A4 Ad At v0 v1 (decide (v3=3)))
   else (
    dH x0 A4 Ad At v0 v1 (decide (v3=4)))))
def Zs4 (x0:List Int)  (k:Z0->Zg->ByteArray->Int->Option ByteArray) (Ad:Z0) (At:Zg) (v0:ByteArray) (v1:Int):Option ByteArray:=
 if decide (v1 > 0)=true then (
  (Xf Ad 9).bind λr8=>
  if decide (r8.1=0)=true then (
   dI x0 k r8.2 At v0 v1 r8.1 (decide (r8.1=0)))
  else (
   dI x0 k r8.2 At v0 v1 r8.1 (decide (r8.1=1))))
 else (
  (MY Ad 12).bind λr9=>
  if r9.1=true then (
   (Z9 v0 (Ze [115,116,101,112])).bind λn10=>
   some (v0++(Ze [115,116,101,112])))
  else (
   some v0))
def Jk (x0:List Int)  : Nat->Z0->Zg->ByteArray->Int->Option ByteArray
 | 0,_,_,_,_=>none
 | m+1,Ad,At,v0,v1=>Zs4 x0  (Jk x0  m) Ad At v0 v1
def dJ (x0:List Int)  (Ad:Z0) (At:Zg) (v0:ByteArray):Option ByteArray:=
 (Xf Ad 12).bind λEK=>
 Jk x0 FU EK.2 At v0 EK.1
def sH (x0:List Int):Option ByteArray:=
 (sD x0).bind λHe=>
 (sE He).bind λG8=>
 (R3 G8.1).bind λOO=>
 (Z9 (Ze [99,111,110,102,32]) OO).bind λn11=>
 (Z9 ((Ze [99,111,110,102,32])++OO) (Ze [10])).bind λn12=>
 (MY G8.2 8).bind λOP=>
 if OP.1=true then (
  dJ x0 OP.2 G8.1 ByteArray.empty)
 else (
  dJ x0 OP.2 G8.1 (((Ze [99,111,110,102,32])++OO)++(Ze [10])))
def dK (x0:ByteArray) (x1:ByteArray):Option Bool:=
 if decide ((x0.size:Int)<=(x1.size:Int))=true then (
  (EI x1 0 (x0.size:Int)).bind λs0=>
  some (s0.toList == x0.toList))
 else (
  some false)
def UE (x0:List Int) (A4:ByteArray->ByteArray->Int->Int->Int->Int->Int->Int->Option Bool) (v0:ByteArray) (v1:ByteArray) (v2:Int) (v3:Int) (v4:Int) (v5:Int) (v6:Int):Option Bool:=
 if decide (v3=v5)=true then (
  if decide (v6 < (v0.size:Int))=true then (
   A4 v0 v1 (Zl v6 1) v3 v4 v5 (Zl v6 1) (Zl v6 1))
  else (
   A4 v0 v1 v2 v3 v4 v5 (Zl v6 1) (Zl v6 1)))
 else (
  A4 v0 v1 v2 v3 v4 v5 (Zl v6 1) (Zl v6 1))
def L7 (x0:List Int) (A4:ByteArray->ByteArray->Int->Int->Int->Int->Int->Int->Option Bool) (v0:ByteArray) (v1:ByteArray) (v2:Int) (v3:Int) (v4:Int) (v5:Int) (v7:Int) (v6:Int) (v8:Bool):Option Bool:=
 if v8=true then (
  A4 v0 v1 v2 v3 v4 v5 v7 (Zl v6 1))
 else (
  if decide (v6 > v7)=true then (
   UE x0 A4 v0 v1 v2 (Zl v3 1) (Zl v4 1) v5 v6)
  else (
   UE x0 A4 v0 v1 v2 (Zl v3 1) v4 v5 v6))
def Zxf (x0:List Int)  (k:ByteArray->ByteArray->Int->Int->Int->Int->Option Bool) (v0:ByteArray) (v1:ByteArray) (v2:Int) (v4:Int) (v9:Int) (v10:Int):Option Bool:=
 if decide (v10 < (v1.size:Int))=true then (
  (FH v1 v10).bind λa0=>
  if decide (a0=10)=true then (
   k v0 v1 v2 v4 (Zl v9 1) (Zl v10 1))
  else (
   k v0 v1 v2 v4 v9 (Zl v10 1)))
 else (
  (EI v0 0 v2).bind λs0=>
  (U9 s0).bind λr0=>
  (dK r0 v1).bind λr1=>
  if r1=true then (
   some (decide (v9=v4)))
  else (
   some false))
def UF (x0:List Int)  : Nat->ByteArray->ByteArray->Int->Int->Int->Int->Option Bool
 | 0,_,_,_,_,_,_=>none
 | m+1,v0,v1,v2,v4,v9,v10=>Zxf x0  (UF x0  m) v0 v1 v2 v4 v9 v10
def OQ (x0:List Int)  (v0:ByteArray) (v1:ByteArray) (v2:Int) (v4:Int) (v11:Bool):Option Bool:=
 if v11=true then (
  some (v1.toList == ByteArray.empty.toList))
 else (
  UF x0 FU v0 v1 v2 v4 0 0)
def W5 (x0:List Int)  (k:ByteArray->ByteArray->Int->Int->Int->Int->Int->Int->Option Bool) (v0:ByteArray) (v1:ByteArray) (v2:Int) (v3:Int) (v4:Int) (v5:Int) (v7:Int) (v6:Int):Option Bool:=
 if decide (v6<=(v0.size:Int))=true then (
  if decide (v6=(v0.size:Int))=true then (
   if decide (v7=v6)=true then (
    L7 x0 k v0 v1 v2 v3 v4 v5 v7 v6 true)
   else (
    if decide (v6 < (v0.size:Int))=true then (
     (FH v0 v6).bind λa1=>
     L7 x0 k v0 v1 v2 v3 v4 v5 v7 v6 (decide (a1≠10)))
    else (
     L7 x0 k v0 v1 v2 v3 v4 v5 v7 v6 false)))
  else (
   if decide (v6 < (v0.size:Int))=true then (
    (FH v0 v6).bind λa1=>
    L7 x0 k v0 v1 v2 v3 v4 v5 v7 v6 (decide (a1≠10)))
   else (
    L7 x0 k v0 v1 v2 v3 v4 v5 v7 v6 false)))
 else (
  if decide (v3 > 60)=true then (
   OQ x0 v0 v1 v2 v4 true)
  else (
   OQ x0 v0 v1 v2 v4 (decide ((v0.size:Int) > 3000))))
def Wh (x0:List Int)  : Nat->ByteArray->ByteArray->Int->Int->Int->Int->Int->Int->Option Bool
 | 0,_,_,_,_,_,_,_,_=>none
 | m+1,v0,v1,v2,v3,v4,v5,v7,v6=>W5 x0  (Wh x0  m) v0 v1 v2 v3 v4 v5 v7 v6
def Ybm (x0:List Int):Option Bool:=
 (Yp5 x0).bind λr2=>
 if r2=true then (
  some true)
 else (
  (sH x0).bind λr3=>
  (U9 r3).bind λr4=>
  (oT r3).bind λr5=>
  if (!(r4.toList == r5.toList))=true then (
   some false)
  else (
   (sB x0 0).bind λr6=>
   Wh x0 FU r3 r4 0 0 0 (Zl 1 (C4 r6 9)) 0 0))
end Go.Proofs.YthdljdelfgofdaaGreatDoor.Ev
