/- A part of the proof of FnExactReadScript: see the text YthdljdelfgofdaaGreatDoorLawFnExactReadScript for what is proved and its conditions. Conditions here: those in each line. -/
import Derived.Test.YthdljdelfgofdaaGreatDoorA2
import Derived.KernelRfl
import GoSem.ClaimData
set_option linter.unusedSimpArgs false
set_option linter.unusedVariables false
set_option linter.unusedSectionVars false
namespace Go.Proofs.YthdljdelfgofdaaGreatDoor.Ev
open Go Go.RowKit
variable [Anchor]
inductive O where
 | t (b:Bool)
 | k
 | row (n:Nat) (r:List V)
 | cell (r:List V)
 | put (r:List V) (R:List (List V))
 | num (l h n:Nat) (R:List (List V))
 | app (m:List (List V)) (lb:Bool) (R:List (List V)) (n:Nat)
 | mk (n:Nat) (R:List (List V))
 | res (r:V) (os:List V)
 | val (v:V)
 | stop
 | enter
 | obl
def All:List Prop->Prop
 | []=>True
 | p::ps=>p/\All ps
theorem All.app {a b:List Prop} (h:All (a++b)):All a/\All b:=by
 induction a with
 | nil=>exact⟨trivial,h⟩
 | cons p a ih=>exact⟨⟨h.1,(ih h.2).1⟩,(ih h.2).2⟩
abbrev KM (α:Type):=List O->Option (α×List Prop×List O)
namespace KM
def ret {α:Type} (a:α):KM α:=λq=>some (a,[],q)
def bnd {α β:Type} (x:KM α) (f:α->KM β):KM β:=λq=>match x q with
 | some (a,o1,q1)=>match f a q1 with
  | some (b,o2,q2)=>some (b,o1++o2,q2)
  | none=>none
 | none=>none
def opt {α:Type} (x:Option α):KM α:=λq=>match x with|some a=>some (a,[],q)|none=>none
def obl (p:Prop):KM Unit:=λq=>some ((),[p],q)
def hear:KM O:=λq=>match q with|o::q=>some (o,[],q)|[]=>none
def fail {α:Type}:KM α:=λ_=>none
end KM
def KS {α:Type} (x:KM α) (y:Option α):Prop:=∀q a obs q',x q=some (a,obs,q')->All obs->y=some a
def KP {α:Type} (x:KM α) (Q:α->Prop):Prop:=∀q a obs q',x q=some (a,obs,q')->All obs->Q a
section
variable {α β:Type}
theorem KS.kp {x:KM α} {y:Option α} (h:KS x y):KP x (λa=>y=some a):=h
theorem KP.mono {x:KM α} {Q Q':α->Prop} (h:KP x Q) (hq:∀a,Q a->Q' a):KP x Q':=λq a obs q' e ho=>hq a (h q a obs q' e ho)
theorem Zk {a:α} {Q:α->Prop} (h:Q a):KP (KM.ret a) Q:=λq b obs q' e ho=>by
 simp only[KM.ret,ZZd,ZZe] at e;obtain⟨rfl,_⟩:=e;exact h
theorem Zb {Q:α->Prop}:KP (KM.fail:KM α) Q:=λq b obs q' e ho=>by cases e
theorem Zc {x:KM α} {f:α->KM β} {Q:α->Prop} {R:β->Prop} (h:KP x Q) (hf:∀a,Q a->KP (f a) R):KP (KM.bnd x f) R:=λq b obs q' e ho=>by
 simp only[KM.bnd] at e;split at e
 .rename_i a o1 q1 h1
  split at e
  .rename_i b' o2 q2 h2
   simp only[ZZd,ZZe] at e;obtain⟨rfl,rfl,rfl⟩:=e;obtain⟨a1,a2⟩:=ho.app;exact hf a (h q a o1 q1 h1 a1) q1 b' o2 q2 h2 a2
  .cases e
 .cases e
theorem Xm {x:Option α}:KP (KM.opt x) (λa=>x=some a):=λq b obs q' e ho=>by
 simp only[KM.opt] at e;split at e
 .simp only[ZZd,ZZe] at e
  obtain⟨rfl,_⟩:=e;rfl
 .cases e
theorem Zr {p:Prop}:KP (KM.obl p) (λ_=>p):=λq b obs q' e ho=>by
 simp only[KM.obl,ZZd,ZZe] at e;obtain⟨_,rfl,_⟩:=e;exact ho.1
theorem Y5:KP KM.hear (λ_=>True):=λ_ _ _ _ _ _=>trivial
theorem Z9 {c:Prop} [Decidable c] {x y:KM α} {Q:α->Prop} (h1:c->KP x Q) (h2:¬c->KP y Q):KP (if c then x else y) Q:=by
 by_cases hc:c
 .rw[ZZj hc];exact h1 hc
 .rw[ZZi hc];exact h2 hc
theorem Xf {a:α}:KS (KM.ret a) (some a):=Zk rfl
theorem Jo {x:KM α} {y:Option α} {f:α->KM β} {g:α->Option β} (h:KS x y) (hf:∀a,KS (f a) (g a)):KS (KM.bnd x f) (y.bind g):=
 Zc h (λa e q b obs q' e2 ho=>by rw[e];exact hf a q b obs q' e2 ho)
theorem Xd {x:KM α} {y:Option α} {f:α->β} (h:KS x y):KS (KM.bnd x λa=>KM.ret (f a)) (y.map f):=
 Zc h (λa e=>by rw[e];exact Zk rfl)
theorem Zev {x:Option α}:KS (KM.opt x) x:=Xm
end
open KM
def offN:Nat->Nat->Nat
 | 0,n=>n
 | m+1,n=>m+1+n
theorem Z2c (m n:Nat):offN m n=m+n:=by cases m<;>simp[offN]
def Zw8 (rows:List (List V)) (off len:Nat):KM (List (List V)):=bnd hear λo=>match o with
 | .k=>match off with
  | 0=>bnd (obl (len=rows.length)) λ_=>ret rows
  | _=>fail
 | .mk _ R=>bnd (obl (off+len<=rows.length)) λ_=>bnd (obl ((rows.drop off).take len=R)) λ_=>ret R
 | _=>fail
theorem Zyn {rows:List (List V)} {off len:Nat}:KP (Zw8 rows off len) (λr=>off+len<=rows.length/\r=(rows.drop off).take len):=by
 unfold Zw8;refine Zc Y5 (λo _=>?_);split
 .split
  .refine Zc Zr (λ_ h=>Zk ⟨by omega,?_⟩)
   rw[h];simp
  .exact Zb
 .exact Zc Zr (λ_ h1=>Zc Zr (λ_ h2=>Zk ⟨h1,h2.symm⟩))
 .exact Zb
def Zet (s:St):V->KM (List (List V))
 | .sl id off len=>match s.heap id with
  | some b=>if b.box=false then Zw8 b.rows off len else fail
  | none=>fail
 | .tr rows|.vw rows=>ret rows
 | .lit (.slice none 0 0)=>ret []
 | _=>fail
theorem J8 {s:St} {x:V}:KS (Zet s x) (s.rowsOf x):=by
 unfold Zet;split
 .rename_i id off len
  simp only[St.rowsOf];split
  .rename_i b hb
   refine Z9 (λhx=>?_) (λ_=>Zb);rw[hb,ZZa];refine Zyn.mono λr hr=>?_;rw[ZZj ⟨hx,hr.1⟩,hr.2]
  .exact Zb
 .exact Xf
 .exact Xf
 .exact Xf
 .exact Zb
def Zk9 (s:St) (id:Id) (off len:Nat):KM (TypeId×List (List V)):=
 match s.heap id with
 | some b=>if b.box=false/\b.own=true/\b.cl=true then bnd (Zw8 b.rows off len) λr=>ret (b.el,r) else fail
 | none=>fail
theorem Zjw {s:St} {id:Id} {off len:Nat}:KS (Zk9 s id off len) (s.whole id off len):=by
 unfold Zk9 St.whole;split
 .rename_i b hb
  refine Z9 (λhx=>?_) (λ_=>Zb);rw[hb,ZZa];refine Zc Zyn (λr hr=>Zk ?_);rw[ZZj ⟨hx.1,hx.2.1,hx.2.2,hr.1⟩,hr.2]
 .exact Zb
def Zp1 (s:St):V->KM V
 | .lit (.slice none 0 0)=>ret (.tr [])
 | .lit v=>ret (.lit v)
 | .tr rows=>ret (.tr rows)
 | .vw rows=>ret (.tr rows)
 | .sl id off len=>bnd (Zet s (.sl id off len)) λr=>ret (.tr r)
 | .rp _ row off=>ret (.rp true row off)
 | _=>fail
theorem Zsw {s:St} {x:V}:KS (Zp1 s x) (s.rdCell x):=by
 unfold Zp1;split
 .exact Xf
 .rename_i v hv
  have:s.rdCell (.lit v)=some (.lit v):=by
   unfold St.rdCell;split<;>simp_all
  rw[this];exact Xf
 .exact Xf
 .exact Xf
 .exact Xd J8
 .exact Xf
 .exact Zb
def Zik (s:St):List V->KM (List V)
 | []=>ret []
 | x::r=>bnd (Zp1 s x) λy=>bnd (Zik s r) λz=>ret (y::z)
theorem Zj8 {s:St}:∀{xs:List V},KS (Zik s xs) (s.rdCells xs):=by
 intro xs
 induction xs with
 | nil=>exact Xf
 | cons x xs ih=>exact Jo Zsw λy=>Xd ih
def Zmn (s:St):V->KM V
 | .ptr id i off=>match s.heap id with
  | some b=>if b.own=true then (match b.box,b.rows,i with
   | true,[row],0=>bnd (Zik s row) λcs=>ret (.rp true cs off)
   | _,_,_=>bnd hear λo=>match o with
    | .cell row=>bnd (obl (b.rows[i]?=some row)) λ_=>bnd (Zik s row) λcs=>ret (.rp true cs off)
    | _=>fail) else fail
  | none=>fail
 | x=>Zp1 s x
theorem Zqu {s:St} {x:V}:KS (Zmn s x) (s.rdPlace x):=by
 unfold Zmn;split
 .rename_i id i off
  simp only[St.rdPlace];split
  .rename_i b hb
   refine Z9 (λhx=>?_) (λ_=>Zb);rw[hb,ZZa,ZZj hx];split
   .rename_i row h1 h2
    rw[h2];exact Xd Zj8
   .refine Zc Y5 (λo _=>?_)
    split
    .refine Zc Zr (λ_ h=>?_)
     rw[h];exact Xd Zj8
    .exact Zb
  .exact Zb
 .rename_i _ hx
  have:s.rdPlace x=s.rdCell x:=by
   unfold St.rdPlace;split<;>simp_all
  rw[this];exact Zsw
def Zn5 (s:St):List V->KM (List V)
 | []=>ret []
 | x::r=>bnd (Zmn s x) λy=>bnd (Zn5 s r) λz=>ret (y::z)
theorem Zyx {s:St}:∀{xs:List V},KS (Zn5 s xs) (s.rdPlaces xs):=by
 intro xs
 induction xs with
 | nil=>exact Xf
 | cons x xs ih=>exact Jo Zqu λy=>Xd ih
def Zy2 (s:St):V->KM V
 | .agg cs=>bnd (Zik s cs) λy=>ret (.agg y)
 | .fn f caps=>bnd (Zn5 s caps) λy=>ret (.fn f y)
 | x=>Zmn s x
theorem Z5m {s:St} {x:V}:KS (Zy2 s x) (s.rdArg x):=by
 unfold Zy2;split
 .exact Xd Zj8
 .exact Xd Zyx
 .rename_i _ h1 h2
  have:s.rdArg x=s.rdPlace x:=by
   unfold St.rdArg;split<;>simp_all
  rw[this];exact Zqu
def Zso (s:St):List Zx->List V->KM (List V)
 | _,[]=>ret []
 | ms,x::r=>bnd (match ms.headD .rd with|.rd=>Zy2 s x|_=>ret x) λy=>bnd (Zso s ms.tail r) λz=>ret (y::z)
theorem Z5a {s:St}:∀{xs:List V} {ms:List Zx},KS (Zso s ms xs) (s.rdAll ms xs):=by
 intro xs
 induction xs with
 | nil=>intro ms;exact Xf
 | cons x xs ih=>
  intro ms;simp only[Zso,St.rdAll];refine Jo ?_ λy=>Xd ih;unfold St.rdArgM;cases ms.headD .rd<;>simp only<;>first|exact Z5m|exact Xf
def Zej (s:St) (t:Option TypeId):V->KM (V×St)
 | .lit (.slice none 0 0)=>bnd (opt t) λe=>ret (.own e [],s)
 | .lit v=>ret (.lit v,s)
 | .tr rows=>ret (.tr rows,s)
 | .vw rows=>ret (.tr rows,s)
 | .sl id off len=>bnd (Zk9 s id off len) λer=>ret (.own er.1 er.2,s.kill id)
 | _=>fail
theorem Zey {s:St} {t:Option TypeId} {x:V}:KS (Zej s t x) (s.giveCell t x):=by
 unfold Zej;split
 .exact Xd Zev
 .rename_i v hv
  have:s.giveCell t (.lit v)=some (.lit v,s):=by
   unfold St.giveCell;split<;>simp_all
  rw[this];exact Xf
 .exact Xf
 .exact Xf
 .exact Xd Zjw
 .exact Zb
def Zes:List (Option TypeId)->List V->(s:St)->KM (List V×St)
 | _,[],s=>ret ([],s)
 | ts,x::r,s=>bnd (Zej s (ts.headD none) x) λy=>bnd (Zes ts.tail r y.2) λz=>ret (y.1::z.1,z.2)
theorem Zg6:∀{xs:List V} {s:St} {ts:List (Option TypeId)},KS (Zes ts xs s) (s.giveCells ts xs):=by
 intro xs
 induction xs with
 | nil=>intro s ts;exact Xf
 | cons x xs ih=>intro s ts;exact Jo Zey λy=>Xd ih
def Zme (s:St) (ts:List (Option TypeId)):V->KM (V×St)
 | .agg cs=>bnd (Zes ts cs s) λy=>ret (.agg y.1,y.2)
 | x=>Zej s (ts.headD none) x
theorem Zqz {s:St} {ts:List (Option TypeId)} {x:V}:KS (Zme s ts x) (s.giveArg ts x):=by
 unfold Zme;split
 .exact Xd Zg6
 .rename_i _ h1
  have:s.giveArg ts x=s.giveCell (ts.headD none) x:=by
   unfold St.giveArg;split<;>simp_all
  rw[this];exact Zey
def Zl6 (s:St) (ts:List (Option TypeId)) (id:Id):KM (List V×St):=
 match s.heap id with
 | some b=>if b.box=true/\b.own=true then (match b.rows with
  | [row]=>Zes ts row (s.kill id)
  | _=>fail) else fail
 | none=>fail
theorem Zqp {s:St} {ts:List (Option TypeId)} {id:Id}:KS (Zl6 s ts id) (s.giveBox ts id):=by
 unfold Zl6 St.giveBox;split
 .rename_i b hb
  refine Z9 (λhx=>?_) (λ_=>Zb);rw[hb,ZZa,ZZj hx];split
  .rename_i row Z6
   rw[Z6];exact Zg6
  .exact Zb
 .exact Zb
def Zmr (s:St) (t:Option TypeId) (x:V):KM (V×St):=match x with
 | .ptr id 0 0=>bnd (Zl6 s [] id) λy=>ret (.obx y.1,y.2)
 | x=>Zej s t x
theorem Zwz {s:St} {t:Option TypeId} {x:V}:KS (Zmr s t x) (s.giveCell2 t x):=by
 unfold Zmr;split
 .exact Xd Zqp
 .rename_i Zp
  have e:s.giveCell2 t x=s.giveCell t x:=by
   unfold St.giveCell2;split
   .exact absurd rfl (Zp _)
   .rfl
  rw[e];exact Zey
def Zko:List (Option TypeId)->List V->(s:St)->KM (List V×St)
 | _,[],s=>ret ([],s)
 | ts,x::r,s=>bnd (Zmr s (ts.headD none) x) λy=>bnd (Zko ts.tail r y.2) λz=>ret (y.1::z.1,z.2)
theorem Zu5:∀{xs:List V} {s:St} {ts:List (Option TypeId)},KS (Zko ts xs s) (s.giveCells2 ts xs):=by
 intro xs
 induction xs with
 | nil=>intro s ts;exact Xf
 | cons x xs ih=>intro s ts;exact Jo Zwz λy=>Xd ih
def Zjt (s:St) (ts:List (Option TypeId)) (id:Id):KM (List V×St):=
 match s.heap id with
 | some b=>if b.box=true/\b.own=true then (match b.rows with
  | [row]=>Zko ts row (s.kill id)
  | _=>fail) else fail
 | none=>fail
theorem Zo5 {s:St} {ts:List (Option TypeId)} {id:Id}:KS (Zjt s ts id) (s.giveBox2 ts id):=by
 unfold Zjt St.giveBox2;split
 .rename_i b hb
  refine Z9 (λhx=>?_) (λ_=>Zb);rw[hb,ZZa,ZZj hx];split
  .rename_i row Z6
   rw[Z6];exact Zu5
  .exact Zb
 .exact Zb
def Zzk:V->KM V
 | .sl id off len=>bnd hear λo=>match o with
  | .t true=>bnd (obl (len=0)) λ_=>ret (.tr [])
  | .t false=>bnd (obl (len≠0)) λ_=>ret (.sl id off len)
  | _=>fail
 | x=>ret x
theorem Zvg {x:V}:KP (Zzk x) (λy=>thin1 x=y):=by
 cases x with
 | sl id off len=>
  refine Zc Y5 (λo _=>?_);cases o with
  | t b=>cases b with
   | true=>exact Zc Zr (λ_ h=>Zk (by subst h;rfl))
   | false=>exact Zc Zr (λ_ h=>Zk (by cases len with|zero=>exact absurd rfl h|succ n=>rfl))
  | _=>exact Zb
 | _=>exact Zk rfl
def Zym:List V->KM (List V)
 | []=>ret []
 | x::xs=>bnd (Zzk x) λy=>bnd (Zym xs) λys=>ret (y::ys)
theorem Z6h:∀{xs:List V},KP (Zym xs) (λys=>xs.map thin1=ys):=by
 intro xs
 induction xs with
 | nil=>exact Zk rfl
 | cons x xs ih=>exact Zc Zvg (λy hy=>Zc ih (λys hys=>Zk (by rw[<-hy,<-hys];rfl)))
def Zw9:V->KM V
 | .agg cs=>bnd (Zym cs) λys=>ret (.agg ys)
 | x=>Zzk x
theorem Zya {x:V}:KP (Zw9 x) (λy=>thin x=y):=by
 cases x with
 | agg cs=>exact Zc Z6h (λys h=>Zk (by rw[<-h];rfl))
 | _=>simp only[Zw9,thin];exact Zvg
def Z3a (ts:List (Option TypeId)) (m:Zx) (x:V) (s:St):KM (V×St):=
 match m with
 | .rd=>ret (x,s)
 | .io=>match x with
  | .ptr id 0 0=>bnd (Zjt s ts id) λy=>ret (.agg y.1,y.2)
  | _=>fail
 | .mv=>Zme s ts x
 | .iov=>bnd (Zw9 x) λy=>Zme s ts y
theorem Z8d {s:St} {ts:List (Option TypeId)} {m:Zx} {x:V}:KS (Z3a ts m x s) (s.give ts m x):=by
 unfold Z3a St.give;cases m
 .exact Xf
 .simp only
  split
  .exact Xd Zo5
  .exact Zb
 .exact Zqz
 .refine Zc Zya (λy hy=>?_)
  rw[<-hy];exact Zqz
def Z3y (s:St) (m:Zx) (e k:Nat) (x o:V):KM St:=match m with
 | .iov=>bnd (Zw9 x) λy=>opt (match y,o with
  | .agg cs,.agg ns=>s.backCells cs ns
  | x,o=>s.backCells [x] [o])
 | .rd=>ret s
 | .mv=>ret s
 | .io=>opt (s.back .io e k x o)
theorem Z7m {s:St} {m:Zx} {e k:Nat} {x o:V}:KS (Z3y s m e k x o) (s.back m e k x o):=by
 cases m
 .exact Xf
 .exact Zev
 .exact Xf
 .simp only[Z3y,St.back]
  refine Zc Zya (λy hy=>?_);rw[hy];exact Zev
def Zzb (e:Nat):List Zx->(k:Nat)->List V->List V->(s:St)->KM St
 | _,_,[],_,s=>ret s
 | ms,k,x::xs,o::os,s=>bnd (Z3y s (ms.headD .rd) e k x o) λs=>Zzb e ms.tail (k+1) xs os s
 | _,_,_::_,[],_=>fail
theorem Z49 {e:Nat}:∀{xs:List V} {s:St} {ms:List Zx} {k:Nat} {os:List V},KS (Zzb e ms k xs os s) (s.backs e ms k xs os):=by
 intro xs
 induction xs with
 | nil=>intro s ms k os;exact Xf
 | cons x xs ih=>
  intro s ms k os;cases os with
  | nil=>exact Zb
  | cons o os=>exact Jo Z7m λs=>ih
def Zxj (P:Program):List TypeId->List Zx->List V->(s:St)->KM (List V×St)
 | _,_,[],s=>ret ([],s)
 | ts,ms,x::r,s=>bnd (Z3a (Zlb P (ts.headD 0)) (ms.headD .rd) x s) λy=>bnd (Zxj P ts.tail ms.tail r y.2) λz=>ret (y.1::z.1,z.2)
theorem Z5s {P:Program}:∀{xs:List V} {s:St} {ts:List TypeId} {ms:List Zx},KS (Zxj P ts ms xs s) (s.gives P ts ms xs):=by
 intro xs
 induction xs with
 | nil=>intro s ts ms;exact Xf
 | cons x xs ih=>intro s ts ms;exact Jo Z8d λy=>Xd ih
def Zhh:List V->(s:St)->KM (List V×Bool×St)
 | [],s=>ret ([],true,s)
 | x::r,s=>
  match x with
  | .lit (.slice none 0 0)=>bnd (Zhh r s) λy=>ret (.tr []::y.1,y.2)
  | .lit v=>bnd (Zhh r s) λy=>ret (.lit v::y.1,y.2)
  | .tr rows|.vw rows=>bnd (Zhh r s) λy=>ret (.tr rows::y.1,false,y.2.2)
  | .sl id off len=>match s.heap id with
   | some b=>if b.own=true/\b.box=false/\b.cl=true then bnd (Zk9 s id off len) λer=>bnd (Zhh r (s.kill id)) λy=>ret (.tr er.2::y.1,y.2)
    else if b.own=false then bnd (Zet s (.sl id off len)) λrows=>bnd (Zhh r s) λy=>ret (.tr rows::y.1,false,y.2.2) else fail
   | none=>fail
  | _=>fail
def Zoz:List (List V)->(s:St)->KM (List (List V)×Bool×St)
 | [],s=>ret ([],true,s)
 | row::r,s=>bnd (Zhh row s) λy=>bnd (Zoz r y.2.2) λz=>ret (y.1::z.1,y.2.1&&z.2.1,z.2.2)
theorem Zx9:∀{xs:List V} {s:St},KS (Zhh xs s) (s.sink xs):=by
 intro xs
 induction xs with
 | nil=>intro s;exact Xf
 | cons x xs ih=>
  intro s;unfold Zhh;split
  .exact Xd ih
  .rename_i v hv
   have:s.sink (.lit v::xs)=(s.sink xs).map λy=>(.lit v::y.1,y.2):=by
    conv=>lhs;unfold St.sink
    split<;>simp_all
   rw[this];exact Xd ih
  .exact Xd ih
  .exact Xd ih
  .rename_i id off len
   simp only[St.sink];split
   .rename_i b hb
    refine Z9 (λhx=>?_) (λhn=>Z9 (λho=>?_) (λ_=>Zb))
    .refine Zc Zjw (λer he=>?_)
     rw[he];exact Xd ih
    .refine Zc J8 (λrows hr=>?_)
     have hw:s.whole id off len=none:=by
      unfold St.whole;rw[hb,ZZa,ZZi (λh=>by rw[ho] at h;cases h.2.1)]
     simp only[hw,hb,ho,if_true];rw[hr,ZZa];exact Xd ih
   .exact Zb
  .exact Zb
theorem Zy9:∀{xs:List (List V)} {s:St},KS (Zoz xs s) (s.sinkRows xs):=by
 intro xs
 induction xs with
 | nil=>intro s;exact Xf
 | cons x xs ih=>intro s;exact Jo Zx9 λy=>Xd ih
end Go.Proofs.YthdljdelfgofdaaGreatDoor.Ev
namespace Go.Proofs.YthdljdelfgofdaaGreatDoor.Ev
open Go Go.RowKit KM
variable [Anchor]
section
variable {P:Program} {M:Z7}
def Zri (ts:List (Option TypeId)) (x:V) (s:St):KM (V×St):=
 match x with
 | .agg cs=>bnd (Zes ts cs s) λy=>ret (.agg y.1,y.2)
 | .ptr id 0 0=>bnd (Zl6 s ts id) λy=>ret (.obx y.1,y.2)
 | x=>Zej s (ts.headD none) x
theorem Z0x {s:St} {ts:List (Option TypeId)} {x:V}:KS (Zri ts x s) (s.liftOne ts x):=by
 unfold Zri;split
 .exact Xd Zg6
 .exact Xd Zqp
 .rename_i _ h1 h2
  have:s.liftOne ts x=s.giveCell (ts.headD none) x:=by
   unfold St.liftOne;split<;>simp_all
  rw[this];exact Zey
def Zrm (P:Program):List TypeId->List V->(s:St)->KM (List V×St)
 | _,[],s=>ret ([],s)
 | ts,x::r,s=>bnd (Zri (Zlb P (ts.headD 0)) x s) λy=>bnd (Zrm P ts.tail r y.2) λz=>ret (y.1::z.1,z.2)
theorem Z0s:∀{xs:List V} {s:St} {ts:List TypeId},KS (Zrm P ts xs s) (s.liftAll P ts xs):=by
 intro xs
 induction xs with
 | nil=>intro s ts;exact Xf
 | cons x xs ih=>intro s ts;exact Jo Z0x λy=>Xd ih
def Zcu (p:Nat):(k:Nat)->List V->(s:St)->KM (List V×St)
 | _,[],s=>ret ([],s)
 | k,x::r,s=>match x with
  | .own e rows=>bnd (Zk9 s (0,64*p+k) 0 rows.length) λer=>if er.1=e then bnd (Zcu p (k+1) r (s.kill (0,64*p+k))) λz=>ret (.own er.1 er.2::z.1,z.2) else fail
  | _=>bnd (Zcu p (k+1) r s) λz=>ret (.undef::z.1,z.2)
theorem Zo0 {p:Nat}:∀{xs:List V} {k:Nat} {s:St},KS (Zcu p k xs s) (s.outCells p k xs):=by
 intro xs
 induction xs with
 | nil=>intro k s;exact Xf
 | cons x xs ih=>
  intro k s;cases x with
  | own e rows=>
   simp only[Zcu,St.outCells];refine Zc Zjw (λer he=>?_);rw[he,ZZa];refine Z9 (λhx=>?_) (λ_=>Zb);rw[ZZj hx];exact Xd ih
  | _=>
   simp only[Zcu,St.outCells];exact Xd ih
def outK (p:Nat) (ts:List (Option TypeId)) (m:Zx) (x:V) (s:St):KM (V×St):=
 match m with
 | .rd|.mv=>ret (.undef,s)
 | .io=>match x with
  | .agg cs=>bnd (Zjt s ts (0,64*p+63)) λy=>if y.1.length=cs.length then ret (.agg y.1,y.2) else fail
  | _=>fail
 | .iov=>match x with
  | .agg cs=>bnd (Zcu p 0 cs s) λy=>ret (.agg y.1,y.2)
  | x=>bnd (Zcu p 0 [x] s) λy=>bnd (opt y.1.head?) λv=>ret (v,y.2)
theorem Z9j {s:St} {p:Nat} {ts:List (Option TypeId)} {m:Zx} {x:V}:KS (outK p ts m x s) (s.out p ts m x):=by
 cases m
 .exact Xf
 .cases x with
  | agg cs=>
   simp only[outK,St.out];refine Zc Zo5 (λy hy=>?_);rw[hy];simp only[ZZa];refine Z9 (λhx=>?_) (λ_=>Zb);rw[ZZj hx];exact Zk rfl
  | _=>exact Zb
 .exact Xf
 .cases x with
  | agg cs=>exact Xd Zo0
  | _=>simp only[outK,St.out];exact Jo Zo0 λy=>Xd Zev
def Z3d (P:Program):(p:Nat)->List TypeId->List Zx->List V->(s:St)->KM (List V)
 | _,_,_,[],s=>ret []
 | p,ts,ms,x::r,s=>bnd (outK p (Zlb P (ts.headD 0)) (ms.headD .rd) x s) λy=>bnd (Z3d P (p+1) ts.tail ms.tail r y.2) λz=>ret (y.1::z)
theorem Z79:∀{xs:List V} {s:St} {p:Nat} {ts:List TypeId} {ms:List Zx},KS (Z3d P p ts ms xs s) (s.outs P p ts ms xs):=by
 intro xs
 induction xs with
 | nil=>intro s p ts ms;exact Xf
 | cons x xs ih=>intro s p ts ms;exact Jo Z9j λy=>Xd ih
def retK (P:Program) (M:Z7) (f:FuncId) (fn:Func) (xs:List V) (s:St):KM (V×List V):=
 bnd (opt (Ze8 P s fn.results.toList)) λvs=>bnd (Zrm P fn.resultTypes.toList vs s) λz=>bnd (Z3d P 0 fn.params.toList (M.modes f) xs z.2) λos=>ret (Znx z.1,os)
theorem Z10 {f:FuncId} {fn:Func} {xs:List V} {s:St}:KS (retK P M f fn xs s) ((Ze8 P s fn.results.toList).bind λvs=>(s.liftAll P fn.resultTypes.toList vs).bind λz=>(z.2.outs P 0 fn.params.toList (M.modes f) xs).map λos=>(Znx z.1,os)):=
 Jo Zev λvs=>Jo Z0s λz=>Xd Z79
def Z3f (P:Program) (M:Z7) (s:St) (k:Nat) (g:FuncId) (args:List V):KM (V×St):=
 if args.length<=8 then bnd (Zxj P (((P.funcs[g]?).map (·.params.toList)).getD []) (M.modes g) args s) λy=>bnd (Zso y.2 (M.modes g) y.1) λxs=>bnd hear λo=>match o with
  | .res r os=>bnd (obl (Z5 P M (g,xs,r,os))) λ_=>if ((Zmd r||os.any Za7)&&!Zcm (M.modes g) args)=true then fail else
   bnd (Zzb s.ep (M.modes g) (16*k+8) args os y.2) λs'=>opt (s'.takeRes s.ep (16*k) r)
  | _=>fail
 else fail
theorem Z65 (hP:Z2 P) {s:St} {k:Nat} {g:FuncId} {args:List V}:KP (Z3f P M s k g args) (λy=>∃C,Jm P M C/\Zdk P M C s k g args=some y):=by
 unfold Z3f;refine Z9 (λh8=>?_) (λ_=>Zb);refine Zc Z5s (λy hy=>Zc Z5a (λxs hx=>Zc Y5 (λo _=>?_)));split
 .rename_i r os
  refine Zc Zr (λ_ hf=>Z9 (λ_=>Zb) (λht=>Zc Z49 (λs' hs=>Xm.mono λz hz=>⟨one (g,xs,r,os),one_ok hP hf,?_⟩)));unfold Zdk;rw[ZZj h8,hy,ZZa,hx,ZZa];have h1:one (g,xs,r,os) g xs=some (r,os):=by unfold one;rw[ZZj ⟨rfl,rfl⟩]
  rw[h1,ZZa];simp only;rw[ZZi ht,hs,ZZa,hz]
 .exact Zb
def Zyp (s:St) (all:Bool) (x:V) (m:List (List V)) (lb:Bool):KM St:=
 match x with
 | .sl id off len=>if id.1=s.ep\/all=true then (if lb=true then bnd (Zk9 s id off len) λer=>bnd (obl (er.2=m)) λ_=>ret (s.kill id) else match s.heap id with
   | some b=>if b.cl=false then bnd (Zet s (.sl id off len)) λrows=>bnd (obl (rows=m)) λ_=>bnd (obl (Kn m=lb)) λ_=>ret s else fail
   | none=>fail)
  else bnd (Zet s x) λrows=>bnd (obl (rows=m)) λ_=>bnd (obl (Kn m=lb)) λ_=>ret s
 | x=>bnd (Zet s x) λrows=>bnd (obl (rows=m)) λ_=>bnd (obl (Kn m=lb)) λ_=>ret s
theorem Z58 {s:St} {all:Bool} {x:V} {m:List (List V)} {lb:Bool}:KP (Zyp s all x m lb) (λs1=>s.moved all x=some (m,lb,s1)):=by
 unfold Zyp;split
 .rename_i id off len
  simp only[St.moved];refine Z9 (λhx=>Z9 (λhl=>?_) (λ_=>?_)) (λhn=>?_)
  .refine Zc Zjw (λer he=>Zc Zr (λ_ hm=>Zk ?_))
   rw[ZZj hx,he,hl];simp only[hm]
  .split
   .rename_i b hb
    refine Z9 (λhc=>?_) (λ_=>Zb);refine Zc J8 (λrows hr=>Zc Zr (λ_ hm=>Zc Zr (λ_ hl=>Zk ?_)));have hw:s.whole id off len=none:=by
     unfold St.whole;rw[hb,ZZa,ZZi (λh=>by rw[hc] at h;cases h.2.2.1)]
    rw[ZZj hx,hw,hr];simp only[Vav,hm,hl]
   .exact Zb
  .refine Zc J8 (λrows hr=>Zc Zr (λ_ hm=>Zc Zr (λ_ hl=>Zk ?_)))
   rw[ZZi hn,hr];simp only[Vav,hm,hl]
 .rename_i _ Zp
  refine Zc J8 (λrows hr=>Zc Zr (λ_ hm=>Zc Zr (λ_ hl=>Zk ?_)));have:s.moved all x=(s.rowsOf x).map λrows=>(rows,Kn rows,s):=by
   unfold St.moved;split<;>simp_all
  rw[this,hr];simp only[Vav,hm,hl]
def appK (P:Program) (all:Bool) (s:St) (id:Id) (t:TypeId) (b x:V):KM (V×St):=
 bnd (opt (Xe P t)) λe=>bnd hear λo=>match o with
 | .app m lb R n=>bnd (Zyp s all x m lb) λs1=>if Zi P e≠0/\Zex P e=true then bnd (obl (Zcj (Zi P e) m=true)) λ_=>
  match b with
  | .lit (.slice none 0 0)=>bnd (obl (m.length*P.bytesOf e<=140737488355328/\m.length<=9223372036854775807)) λ_=>bnd (obl (m=R)) λ_=>bnd (obl (n=R.length)) λ_=>ret (.sl id 0 n,s1.setB id ⟨false,true,lb,e,R⟩)
  | .sl i 0 len=>match s1.heap i with
   | some k=>if k.box=false/\k.own=true/\k.el=e then bnd (obl (len=k.rows.length)) λ_=>bnd (obl ((len+m.length)*P.bytesOf e<=140737488355328/\len+m.length<=9223372036854775807)) λ_=>
     bnd (obl (k.rows++m=R)) λ_=>bnd (obl (n=R.length)) λ_=>ret (.sl id 0 n,(s1.kill i).setB id ⟨false,true,k.cl&&lb,e,R⟩) else fail
   | none=>fail
  | _=>fail
  else fail
 | _=>fail
theorem Z9i {all:Bool} {s:St} {id:Id} {t:TypeId} {b x:V}:KS (appK P all s id t b x) (Zcc P all s id t b x):=by
 unfold appK Zcc;refine Jo Zev λe=>Zc Y5 (λo _=>?_);split
 .rename_i m lb R n
  refine Zc Z58 (λs1 hm=>Z9 (λhz=>Zc Zr (λ_ ha=>?_)) (λ_=>Zb));rw[hm,ZZa,ZZj ⟨ha,hz.1,hz.2⟩];split
  .refine Zc Zr (λ_ h1=>Zc Zr (λ_ h2=>Zc Zr (λ_ h3=>Zk ?_)))
   rw[ZZj h1,h3,h2];rfl
  .rename_i i len
   simp only;split
   .rename_i k hk
    refine Z9 (λhx=>?_) (λ_=>Zb);refine Zc Zr (λ_ h0=>Zc Zr (λ_ h1=>Zc Zr (λ_ h2=>Zc Zr (λ_ h3=>Zk ?_))));rw[hk,ZZa,ZZj ⟨hx.1,hx.2.1,by omega,hx.2.2,h1⟩,h3,<-h2,Vcr,Vas,h0]
   .exact Zb
  .exact Zb
 .exact Zb
def Zmx (c:Bool):KM Bool:=bnd hear λo=>match o with
 | .t e=>bnd (obl (c=e)) λ_=>ret e
 | .k=>ret c
 | _=>fail
theorem Zh9 {c:Bool}:KP (Zmx c) (λe=>c=e):=by
 unfold Zmx;refine Zc Y5 (λo _=>?_);split
 .exact Zc Zr (λ_ h=>Zk h)
 .exact Zk rfl
 .exact Zb
def Zie (p:Prop) [Decidable p]:KM Unit:=bnd hear λo=>match o with
 | .k=>if p then ret () else fail
 | .obl=>obl p
 | _=>fail
theorem Zgy {p:Prop} [Decidable p]:KP (Zie p) (λ_=>p):=by
 unfold Zie;refine Zc Y5 (λo _=>?_);split
 .exact Z9 (λh=>Zk h) (λ_=>Zb)
 .exact Zr
 .exact Zb
def Zw7 (op:BinOp) (k k':IntKind) (a b:Int):KM V:=
 match op with
 | .shl=>bnd (Zie (0<=b)) λ_=>ret (.lit (.int k (k.wrap (a*2^min b.toNat k.bits))))
 | .shr=>bnd (Zie (0<=b)) λ_=>ret (.lit (.int k (a.fdiv (2^min b.toNat k.bits))))
 | .quo=>if k=k' then bnd (Zie (b≠0)) λ_=>ret (.lit (.int k (k.wrap (a.tdiv b)))) else fail
 | .rem=>if k=k' then bnd (Zie (b≠0)) λ_=>ret (.lit (.int k (a.tmod b))) else fail
 | op=>opt (Zmq op k k' a b)
theorem Zzm {op:BinOp} {k k':IntKind} {a b:Int}:KS (Zw7 op k k' a b) (Zmq op k k' a b):=by
 unfold Zw7;split
 .refine Zc Zgy (λ_ h=>Zk ?_)
  simp only[Zmq];rw[ZZi (by omega)]
 .refine Zc Zgy (λ_ h=>Zk ?_)
  simp only[Zmq];rw[ZZi (by omega)]
 .refine Z9 (λhk=>Zc Zgy (λ_ h=>Zk ?_)) (λ_=>Zb)
  simp only[Zmq];rw[ZZj hk,ZZi h]
 .refine Z9 (λhk=>Zc Zgy (λ_ h=>Zk ?_)) (λ_=>Zb)
  simp only[Zmq];rw[ZZj hk,ZZi h]
 .exact Zev
def Zxa (op:BinOp) (a b:ByteArray):KM V:=
 match op with
 | .add=>bnd (Zie (¬((a.size+b.size:Nat):Int) > IntKind.i64.max)) λ_=>ret (.lit (.string (a++b)))
 | op=>opt (binS op a b)
theorem Zyq {op:BinOp} {a b:ByteArray}:KS (Zxa op a b) (binS op a b):=by
 unfold Zxa;split
 .refine Zc Zgy (λ_ h=>Zk ?_)
  simp only[binS];rw[ZZi h]
 .exact Zev
def opK (P:Program) (M:Z7) (f:Operand->V) (s:St) (k:Nat) (o:Oper):KM (V×St):=
 match o.op with
 | .binOp op t x y yt=>match f x,f y with
  | .lit (.int k1 a),.lit (.int k2 b)=>bnd (Zw7 op k1 k2 a b) λv=>ret (v,s)
  | .lit (.string a),.lit (.string b)=>bnd (Zxa op a b) λv=>ret (v,s)
  | .lit (.bool a),.lit (.bool b)=>match op,P.underlying t with
   | .eql,some .bool=>ret (.lit (.bool (a == b)),s)
   | .neq,some .bool=>ret (.lit (.bool (a != b)),s)
   | _,_=>fail
  | .agg xs,.agg ys=>if (Qt xs).isSome=true/\(Qt ys).isSome=true/\Zmu P t xs=true then bnd (opt (Ky xs ys)) λb=>match op with
   | .eql=>ret (.lit (.bool b),s)
   | .neq=>ret (.lit (.bool (!b)),s)
   | _=>fail
   else fail
  | a,.lit (.slice none 0 0)=>match a with
   | .sl ..|.tr _|.vw _=>if (Xe P t).isSome=true then bnd (Zet s a) λrows=>bnd (obl (rows≠[])) λ_=>match op with
    | .eql=>ret (.lit (.bool false),s)
    | .neq=>ret (.lit (.bool true),s)
    | _=>fail
    else fail
   | _=>opt (Yd P M Yo f s k o)
  | _,_=>opt (Yd P M Yo f s k o)
 | .buildSlice t n parts=>bnd (opt (Xe P t)) λe=>bnd (opt (if n*Zi P e=0 then some [] else Kq P e)) λz=>
  if Zi P e=0\/n*Zi P e > 1048576\/Zex P e=false then fail else
  bnd (opt (Ze1 P (λi=>some (i*Zi P e,Zi P e)) (List.replicate n z).flatten (parts.toList.map λp=>(p.1,f p.2)))) λcs=>
   bnd (Zoz (Ze9 (Zi P e) n cs) s) λy=>ret (.sl (s.ep,1024*k) 0 n,y.2.2.setB (s.ep,1024*k) ⟨false,true,y.2.1,e,y.1⟩)
 | .pick c a b=>match f c with
  | .lit (.bool t)=>bnd (Zmx t) λe=>if e then ret (f a,s) else ret (f b,s)
  | _=>fail
 | .indexAddr t x ix=>bnd (opt (Xe P t)) λe=>if Zi P e=0 then fail else bnd hear λq=>match q with
  | .row n r=>if r.length=Zi P e then bnd (obl (Y3 (f ix)=some n)) λ_=>match f x with
   | .sl i off len=>bnd (obl (n < len)) λ_=>match s.heap i with
    | some b=>bnd (obl (b.rows[offN off n]?=some r)) λ_=>ret (.ptr i (offN off n) 0,s)
    | none=>fail
   | .tr rows=>bnd (obl (rows[n]?=some r)) λ_=>ret (.rp true r 0,s)
   | .vw rows=>bnd (obl (rows[n]?=some r)) λ_=>ret (.rp false r 0,s)
   | _=>fail
   else fail
  | _=>fail
 | .load t a=>match f a with
  | .ptr i j n=>match s.heap i with
   | some b=>match b.box with
    | true=>opt (Yd P M Yo f s k o)
    | false=>bnd hear λq=>match q with
     | .cell row=>bnd (obl (b.rows[j]?=some row)) λ_=>if n+Zi P t<=row.length then bnd (opt (Zbc P t ((row.drop n).take (Zi P t)))) λv=>ret (v,s) else fail
     | _=>fail
   | none=>fail
  | _=>opt (Yd P M Yo f s k o)
 | .store t a x=>match f a with
  | .ptr i j n=>match s.heap i with
   | some b=>match b.box with
    | true=>opt (Yd P M Yo f s k o)
    | false=>bnd hear λq=>match q with
     | .put row R=>bnd (obl (b.rows[j]?=some row)) λ_=>bnd (opt (Zfe (f x))) λcs=>if b.own=true/\cs.length=Zi P t/\n+Zi P t<=row.length/\Zi P t≠0 then
       bnd (Zhh cs s) λy=>match y.2.2.heap i with
        | some b=>bnd (obl (b.rows.set j (Ww row n y.1)=R)) λ_=>ret (.undef,y.2.2.setB i ⟨b.box,b.own,b.cl&&y.2.1,b.el,R⟩)
        | none=>fail
       else fail
     | _=>fail
   | none=>fail
  | _=>fail
 | .slice t x lo hi none=>match f x with
  | .sl id off len=>bnd hear λq=>match q with
   | .num l h n R=>bnd (opt (Xe P t)) λe=>bnd (Zet s (f x)) λrows=>bnd (obl (match lo with|some z=>Y3 (f z)=some l|none=>l=0)) λ_=>bnd (obl (match hi with|some z=>Y3 (f z)=some h|none=>rows.length=h)) λ_=>
    bnd (obl (l<=h/\h<=rows.length)) λ_=>bnd (obl (Zcj (Zi P e) rows=true)) λ_=>bnd (obl (n=h - l)) λ_=>if Zi P e≠0 then ret (.sl id (offN off l) n,s) else fail
   | _=>fail
  | .tr _|.vw _=>bnd hear λq=>match q with
   | .num l h n R=>bnd (opt (Xe P t)) λe=>bnd (Zet s (f x)) λrows=>bnd (obl (match lo with|some z=>Y3 (f z)=some l|none=>l=0)) λ_=>bnd (obl (match hi with|some z=>Y3 (f z)=some h|none=>rows.length=h)) λ_=>
    bnd (obl (l<=h/\h<=rows.length)) λ_=>bnd (obl (Zcj (Zi P e) rows=true)) λ_=>bnd (obl ((rows.drop l).take (h - l)=R)) λ_=>if Zi P e≠0 then ret ((match f x with|.tr _=>.tr R|_=>.vw R),s) else fail
   | _=>fail
  | .lit (.string b)=>match P.underlying t with
   | some .string=>bnd hear λq=>match q with
    | .val (.lit (.string c))=>bnd (obl (ssl b (lo.map f) (hi.map f)=some c)) λ_=>ret (.lit (.string c),s)
    | _=>fail
   | _=>fail
  | _=>opt (Yd P M Yo f s k o)
 | .index t x ix=>match f x with
  | .lit (.string b)=>match P.underlying t with
   | some .string=>bnd hear λq=>match q with
    | .val (.lit (.int _ m))=>bnd (obl (sidx b (f ix)=some m)) λ_=>ret (.lit (.int .u8 m),s)
    | _=>fail
   | _=>fail
  | _=>opt (Yd P M Yo f s k o)
 | .convert src dst x=>match f x with
  | .sl ..|.tr _|.vw _=>match P.underlying src,P.underlying dst with
   | some (.slice e),some .string=>match P.underlying e with
    | some (.int .u8)=>bnd (Zet s (f x)) λrows=>bnd hear λq=>match q with
     | .val (.lit (.string c))=>bnd (obl (strV rows=some c)) λ_=>ret (.lit (.string c),s)
     | _=>fail
    | _=>fail
   | _,_=>fail
  | _=>opt (Yd P M Yo f s k o)
 | .makeSlice t l c=>bnd hear λq=>match q with
  | .mk n R=>bnd (opt (Xe P t)) λe=>bnd (opt (Kq P e)) λz=>bnd (obl (Y3 (f l)=some n)) λ_=>bnd (obl (Y3 (f c)=some n)) λ_=>bnd (obl (n*P.bytesOf e<=70368744177664/\n<=9223372036854775807)) λ_=>
   bnd (obl (List.replicate n (z.map Qn)=R)) λ_=>if z.length=Zi P e/\Zi P e≠0 then ret (.sl (s.ep,1024*k) 0 R.length,s.setB (s.ep,1024*k) ⟨false,true,true,e,R⟩) else fail
  | _=>fail
 | .call c=>match c.callee with
  | .value g=>match f g with
   | .fn g caps=>Z3f P M s k g (c.args.toList.map f++caps)
   | _=>fail
  | .builtin .append=>match c.args.toList,c.argTypes.toList with
   | [b,x],[t,t']=>if t=t' then appK P (M.mv o.pos) s (s.ep,1024*k) t (f b) (f x) else fail
   | _,_=>fail
  | .builtin .len=>match c.args.toList,c.argTypes.toList with
   | [x],[t]=>match f x with
    | .sl _ _ n=>bnd hear λq=>match q with
     | .num m _ _ _=>bnd (obl (n=m)) λ_=>if (Xe P t).isSome=true then ret (.lit (.int .i64 m),s) else fail
     | _=>fail
    | .tr rows|.vw rows=>bnd hear λq=>match q with
     | .num m _ _ _=>bnd (obl (rows.length=m)) λ_=>if (Xe P t).isSome=true then ret (.lit (.int .i64 m),s) else fail
     | _=>fail
    | _=>opt (Yd P M Yo f s k o)
   | _,_=>fail
  | .builtin .clear=>match c.args.toList,c.argTypes.toList with
   | [x],[t]=>bnd (opt (Xe P t)) λe=>bnd (opt (Kq P e)) λz=>match f x with
    | .sl i off n=>match s.heap i with
     | some b=>bnd hear λq=>match q with
      | .app R _ _ _=>if b.own=true/\b.box=false/\b.el=e/\z.length=Zi P e/\Zi P e≠0 then bnd (obl (off+n<=b.rows.length)) λ_=>
        bnd (obl (b.rows.take off++List.replicate n (z.map Qn)++b.rows.drop (off+n)=R)) λ_=>ret (.tup [],s.setB i ⟨b.box,b.own,b.cl,b.el,R⟩) else fail
      | _=>fail
     | none=>fail
    | _=>fail
   | _,_=>fail
  | _=>opt (Yd P M Yo f s k o)
 | _=>opt (Yd P M Yo f s k o)
end
section
variable {P:Program} {M:Z7}
def Zfp (P:Program) (M:Z7) (f:Operand->V) (s:St) (k:Nat) (o:Oper) (y:V×St):Prop:=∃C,Jm P M C/\Yd P M C f s k o=some y
theorem Jn (hP:Z2 P) {f:Operand->V} {s:St} {k:Nat} {o:Oper}:KP (opt (Yd P M Yo f s k o)) (Zfp P M f s k o):=Xm.mono λy h=>⟨Yo,Y0 hP,h⟩
theorem Z53 (hP:Z2 P) {f:Operand->V} {s:St} {k:Nat} {d:Option Tmp} {ty t yt:TypeId} {pos:String} {af:Array Edge} {g:Option (Nat×Bool)} {op:BinOp} {x y:Operand}:KP (opK P M f s k ⟨d,.binOp op t x y yt,ty,pos,af,g⟩) (Zfp P M f s k ⟨d,.binOp op t x y yt,ty,pos,af,g⟩):=by
 have base:∀{v:V},Zbn P op t x y (f x) (f y)=some v->(∃a b,f x=.lit a/\f y=.lit b)->Yd P M Yo f s k ⟨d,.binOp op t x y yt,ty,pos,af,g⟩=some (v,s):=λ{v} h ⟨a,b,h1,h2⟩=>by
  have e:Ye P f ⟨d,.binOp op t x y yt,ty,pos,af,g⟩=some v:=by rw[Zzi];exact h
  simp only[Yd,h1,h2,e,Vav]
 have base2:∀{v:V},Zbn P op t x y (f x) (f y)=some v->(∃a b,f x=.agg a/\f y=.agg b)->Yd P M Yo f s k ⟨d,.binOp op t x y yt,ty,pos,af,g⟩=some (v,s):=λ{v} h ⟨a,b,h1,h2⟩=>by
  have e:Ye P f ⟨d,.binOp op t x y yt,ty,pos,af,g⟩=some v:=by rw[Zzi];exact h
  simp only[Yd,h1,h2,e,Vav]
 simp only[opK];split
 .rename_i k1 a k2 b h1 h2
  refine Zc Zzm (λv hv=>Zk ⟨Yo,Y0 hP,base ?_ ⟨_,_,h1,h2⟩⟩);rw[h1,h2,Zyi];exact hv
 .rename_i a b h1 h2
  refine Zc Zyq (λv hv=>Zk ⟨Yo,Y0 hP,base ?_ ⟨_,_,h1,h2⟩⟩);rw[h1,h2,Zx5];exact hv
 .rename_i a b h1 h2
  split
  .rename_i h3
   refine Zk ⟨Yo,Y0 hP,base ?_ ⟨_,_,h1,h2⟩⟩;rw[h1,h2,Zxq h3]
  .rename_i h3
   refine Zk ⟨Yo,Y0 hP,base ?_ ⟨_,_,h1,h2⟩⟩;rw[h1,h2,Zxw h3]
  .exact Zb
 .rename_i xs ys h1 h2
  refine Z9 (λhc=>Zc Xm (λb hb=>?_)) (λ_=>Zb);split
  .exact Zk ⟨Yo,Y0 hP,base2 (by rw[h1,h2,Z6a hc.1 hc.2.1 hc.2.2 hb]) ⟨_,_,h1,h2⟩⟩
  .exact Zk ⟨Yo,Y0 hP,base2 (by rw[h1,h2,Z5u hc.1 hc.2.1 hc.2.2 hb]) ⟨_,_,h1,h2⟩⟩
  .exact Zb
 .rename_i hy
  split
  all_goals first
   | exact Jn hP
   | (
     rename_i hx;refine Z9 (λhe=>Zc J8 (λrows hr=>Zc Zr (λ_ hn=>?_))) (λ_=>Zb);obtain⟨r,l,rfl⟩:=List.exists_cons_of_ne_nil hn;have hf:¬(Xe P t).isSome=false:=by rw[he];decide
     split
     .exact Zk ⟨Yo,Y0 hP,by simp only[Yd,hx,hy];rw[ZZi hf];rw[hx] at hr;rw[hr]⟩
     .exact Zk ⟨Yo,Y0 hP,by simp only[Yd,hx,hy];rw[ZZi hf];rw[hx] at hr;rw[hr]⟩
     .exact Zb)
 .exact Jn hP
theorem Zum (hP:Z2 P) {f:Operand->V} {s:St} {k:Nat} {d:Option Tmp} {ty t:TypeId} {pos:String} {af:Array Edge} {g:Option (Nat×Bool)} {n:Nat} {parts:Array (Nat×Operand)}:KP (opK P M f s k ⟨d,.buildSlice t n parts,ty,pos,af,g⟩) (Zfp P M f s k ⟨d,.buildSlice t n parts,ty,pos,af,g⟩):=by
 simp only[opK];refine Zc Xm (λe he=>Zc Xm (λz hz=>Z9 (λ_=>Zb) (λhc=>Zc Xm (λcs X5=>Zc Zy9 (λy hy=>Zk ⟨Yo,Y0 hP,?_⟩)))));simp only[Yd,he,ZZa,hz];rw[ZZi hc,X5,ZZa,hy];rfl
theorem Z8e (hP:Z2 P) {f:Operand->V} {s:St} {k:Nat} {d:Option Tmp} {ty:TypeId} {pos:String} {af:Array Edge} {g:Option (Nat×Bool)} {c a b:Operand}:KP (opK P M f s k ⟨d,.pick c a b,ty,pos,af,g⟩) (Zfp P M f s k ⟨d,.pick c a b,ty,pos,af,g⟩):=by
 simp only[opK];split
 .rename_i t hc
  refine Zc Zh9 (λe he=>?_);subst he;cases t with
  | true=>exact Zk ⟨Yo,Y0 hP,by simp only[Yd,hc,if_true]⟩
  | false=>exact Zk ⟨Yo,Y0 hP,by simp only[Yd,hc,ZZf,if_false]⟩
 .exact Zb
theorem Zwk (hP:Z2 P) {f:Operand->V} {s:St} {k:Nat} {d:Option Tmp} {ty t:TypeId} {pos:String} {af:Array Edge} {g:Option (Nat×Bool)} {x ix:Operand}:KP (opK P M f s k ⟨d,.indexAddr t x ix,ty,pos,af,g⟩) (Zfp P M f s k ⟨d,.indexAddr t x ix,ty,pos,af,g⟩):=by
 simp only[opK];refine Zc Xm (λe he=>Z9 (λ_=>Zb) (λhz=>Zc Y5 (λo _=>?_)));split
 .rename_i n r
  refine Z9 (λhr=>Zc Zr (λ_ hn=>?_)) (λ_=>Zb);split
  .rename_i i off len hx
   refine Zc Zr (λ_ Zs=>?_);split
   .rename_i b hb
    refine Zc Zr (λ_ Z6=>Zk ⟨Yo,Y0 hP,?_⟩);rw[Z2c] at Z6 ⊢;simp only[Yd,he,ZZa,hz,if_false,hn,hx,Zs,if_true,hb,Z6,hr]
   .exact Zb
  .rename_i rows hx
   refine Zc Zr (λ_ Z6=>Zk ⟨Yo,Y0 hP,?_⟩);simp only[Yd,he,ZZa,hz,if_false,hn,hx,if_true,Z6,hr]
  .rename_i rows hx
   refine Zc Zr (λ_ Z6=>Zk ⟨Yo,Y0 hP,?_⟩);simp only[Yd,he,ZZa,hz,if_false,hn,hx,if_true,Z6,hr]
  .exact Zb
 .exact Zb
theorem Z7i (hP:Z2 P) {f:Operand->V} {s:St} {k:Nat} {d:Option Tmp} {ty t:TypeId} {pos:String} {af:Array Edge} {g:Option (Nat×Bool)} {a:Operand}:KP (opK P M f s k ⟨d,.load t a,ty,pos,af,g⟩) (Zfp P M f s k ⟨d,.load t a,ty,pos,af,g⟩):=by
 simp only[opK];split
 .rename_i i j n ha
  split
  .rename_i b hb
   split
   .exact Jn hP
   .refine Zc Y5 (λo _=>?_)
    split
    .rename_i row
     refine Zc Zr (λ_ Z6=>Z9 (λhl=>Zc Xm (λv hv=>Zk ⟨Yo,Y0 hP,?_⟩)) (λ_=>Zb));simp only[Yd,ha,hb,ZZa,Z6,hl,if_true,hv,Vav]
    .exact Zb
  .exact Zb
 .exact Jn hP
theorem Z6g (hP:Z2 P) {f:Operand->V} {s:St} {k:Nat} {d:Option Tmp} {ty t:TypeId} {pos:String} {af:Array Edge} {g:Option (Nat×Bool)} {a x:Operand}:KP (opK P M f s k ⟨d,.store t a x,ty,pos,af,g⟩) (Zfp P M f s k ⟨d,.store t a x,ty,pos,af,g⟩):=by
 simp only[opK];split
 .rename_i i j n ha
  split
  .rename_i b hb
   split
   .exact Jn hP
   .rename_i hbx
    refine Zc Y5 (λo _=>?_);split
    .rename_i row R
     refine Zc Zr (λ_ Z6=>Zc Xm (λcs X5=>Z9 (λhc=>Zc Zx9 (λy hy=>?_)) (λ_=>Zb)));split
     .rename_i b2 hb2
      refine Zc Zr (λ_ hR=>Zk ⟨Yo,Y0 hP,?_⟩);have hc':b.own=true/\cs.length=Zi P t/\n+Zi P t<=row.length/\Zi P t≠0:=hc;simp only[Yd,ha,hb,ZZa,Z6,X5];rw[ZZj hc',hbx];simp only[ZZf,if_false,hy,ZZa,hb2,hR]
     .exact Zb
    .exact Zb
  .exact Zb
 .exact Zb
def Zxm (x:V) (l h:Nat):Option V:=match x with
 | .sl id off _=>some (.sl id (off+l) (h - l))
 | .tr rows=>some (.tr ((rows.drop l).take (h - l)))
 | .vw rows=>some (.vw ((rows.drop l).take (h - l)))
 | _=>none
theorem Zml {s:St} {t e:TypeId} {x:V} {rows:List (List V)} {lo hi:Option Operand} {f:Operand->V} {l h:Nat} (he:Xe P t=some e) (hr:s.rowsOf x=some rows) (hl:match lo with|some z=>Y3 (f z)=some l|none=>l=0) (hh:match hi with|some z=>Y3 (f z)=some h|none=>rows.length=h)
  (h1:l<=h/\h<=rows.length) (h2:Zcj (Zi P e) rows=true) (h3:Zi P e≠0):Zek P s t x (lo.map f) (hi.map f)=Zxm x l h:=by
 have key:∀(a b:Option Nat),a=some l->b=some h->(a.bind λl=>b.bind λh=>if l<=h/\h<=rows.length/\Zcj (Zi P e) rows=true/\Zi P e≠0 then Zxm x l h else none)=Zxm x l h:=by
  rintro _ _ rfl rfl;simp only[ZZa];rw[ZZj ⟨h1.1,h1.2,h2,h3⟩]
 unfold Zek;rw[he,ZZa,hr,ZZa];refine key _ _ ?_ ?_
 .cases lo with
  | none=>simp only at hl;rw[hl];rfl
  | some z=>exact hl
 .cases hi with
  | none=>simp only at hh;rw[<-hh];rfl
  | some z=>exact hh
theorem Z5k (hP:Z2 P) {f:Operand->V} {s:St} {k:Nat} {d:Option Tmp} {ty t:TypeId} {pos:String} {af:Array Edge} {g:Option (Nat×Bool)} {x:Operand} {lo hi mx:Option Operand}:KP (opK P M f s k ⟨d,.slice t x lo hi mx,ty,pos,af,g⟩) (Zfp P M f s k ⟨d,.slice t x lo hi mx,ty,pos,af,g⟩):=by
 cases mx with
 | some m=>exact Jn hP
 | none=>
  simp only[opK];split
  .rename_i id off len hx
   refine Zc Y5 (λo _=>?_);split
   .rename_i l h n R
    refine Zc Xm (λe he=>Zc J8 (λrows hr=>Zc Zr (λ_ hl=>Zc Zr (λ_ hh=>Zc Zr (λ_ h1=>Zc Zr (λ_ h2=>Zc Zr (λ_ h4=>Z9 (λh3=>Zk ⟨Yo,Y0 hP,?_⟩) (λ_=>Zb))))))));simp only[Yd,Zml he hr hl hh h1 h2 h3];rw[hx,h4,Z2c];rfl
   .exact Zb
  .rename_i rws hx
   refine Zc Y5 (λo _=>?_);split
   .rename_i l h n R
    refine Zc Xm (λe he=>Zc J8 (λrows hr=>Zc Zr (λ_ hl=>Zc Zr (λ_ hh=>Zc Zr (λ_ h1=>Zc Zr (λ_ h2=>Zc Zr (λ_ h4=>Z9 (λh3=>Zk ⟨Yo,Y0 hP,?_⟩) (λ_=>Zb))))))));simp only[Yd,Zml he hr hl hh h1 h2 h3];rw[hx] at hr ⊢;have:rws=rows:=by simpa [St.rowsOf] using hr
    rw[<-h4,<-this];rfl
   .exact Zb
  .rename_i rws hx
   refine Zc Y5 (λo _=>?_);split
   .rename_i l h n R
    refine Zc Xm (λe he=>Zc J8 (λrows hr=>Zc Zr (λ_ hl=>Zc Zr (λ_ hh=>Zc Zr (λ_ h1=>Zc Zr (λ_ h2=>Zc Zr (λ_ h4=>Z9 (λh3=>Zk ⟨Yo,Y0 hP,?_⟩) (λ_=>Zb))))))));simp only[Yd,Zml he hr hl hh h1 h2 h3];rw[hx] at hr ⊢;have:rws=rows:=by simpa [St.rowsOf] using hr
    rw[<-h4,<-this];rfl
   .exact Zb
  .rename_i b hx
   split
   .rename_i ht
    refine Zc Y5 (λq _=>?_);split
    .rename_i c
     refine Zc Zr (λ_ hc=>Zk ⟨Yo,Y0 hP,?_⟩);simp only[Yd,hx,Z50 ht hx hc,Vav]
    .exact Zb
   .exact Zb
  .exact Jn hP
theorem Z6c (hP:Z2 P) {f:Operand->V} {s:St} {k:Nat} {d:Option Tmp} {ty t:TypeId} {pos:String} {af:Array Edge} {g:Option (Nat×Bool)} {x ix:Operand}:KP (opK P M f s k ⟨d,.index t x ix,ty,pos,af,g⟩) (Zfp P M f s k ⟨d,.index t x ix,ty,pos,af,g⟩):=by
 simp only[opK];split
 .rename_i b hx
  split
  .rename_i ht
   refine Zc Y5 (λq _=>?_);split
   .rename_i k' m
    refine Zc Zr (λ_ hm=>Zk ⟨Yo,Y0 hP,?_⟩);simp only[Yd,Z7q ht hx hm,Vav]
   .exact Zb
  .exact Zb
 .exact Jn hP
theorem Z1e (hP:Z2 P) {f:Operand->V} {s:St} {k:Nat} {d:Option Tmp} {ty src dst:TypeId} {pos:String} {af:Array Edge} {g:Option (Nat×Bool)} {x:Operand}:KP (opK P M f s k ⟨d,.convert src dst x,ty,pos,af,g⟩) (Zfp P M f s k ⟨d,.convert src dst x,ty,pos,af,g⟩):=by
 simp only[opK];split
 all_goals first
  | exact Jn hP
  | (
    rename_i hx;split
    .rename_i e h1 h2
     split
     .rename_i h3
      refine Zc J8 (λrows hr=>Zc Y5 (λq _=>?_));split
      .rename_i c
       refine Zc Zr (λ_ hc=>Zk ⟨Yo,Y0 hP,?_⟩);unfold strV at hc;obtain⟨bs,hb,hc⟩:=ZZc.1 hc;rw[hx] at hr;simp only[Yd,hx,h1,h2,h3,hr,hb,ZZa,Vav,hc]
      .exact Zb
     .exact Zb
    .exact Zb)
theorem Zwm (hP:Z2 P) {f:Operand->V} {s:St} {k:Nat} {d:Option Tmp} {ty t:TypeId} {pos:String} {af:Array Edge} {g:Option (Nat×Bool)} {l c:Operand}:KP (opK P M f s k ⟨d,.makeSlice t l c,ty,pos,af,g⟩) (Zfp P M f s k ⟨d,.makeSlice t l c,ty,pos,af,g⟩):=by
 simp only[opK];refine Zc Y5 (λo _=>?_);split
 .rename_i n R
  refine Zc Xm (λe he=>Zc Xm (λz hz=>Zc Zr (λ_ hl=>Zc Zr (λ_ hc=>Zc Zr (λ_ h1=>Zc Zr (λ_ hR=>Z9 (λh2=>Zk ⟨Yo,Y0 hP,?_⟩) (λ_=>Zb)))))));simp only[Yd,he,hz,ZZa,hl,hc];rw[ZZj ⟨by trivial,h1.1,h1.2,h2.1,h2.2⟩,hR,<-hR,List.length_replicate]
 .exact Zb
theorem Z7w (hP:Z2 P) {f:Operand->V} {s:St} {k:Nat} {d:Option Tmp} {ty:TypeId} {pos:String} {af:Array Edge} {g:Option (Nat×Bool)} {c:Call}:KP (opK P M f s k ⟨d,.call c,ty,pos,af,g⟩) (Zfp P M f s k ⟨d,.call c,ty,pos,af,g⟩):=by
 simp only[opK];split
 .rename_i x hc
  split
  .rename_i h caps hx
   refine (Z65 hP).mono λy ⟨C,h1,h2⟩=>⟨C,h1,?_⟩;simp only[Yd,hc,hx,h2]
  .exact Zb
 .rename_i hc
  split
  .rename_i b x t t' ha ht
   refine Z9 (λhe=>Z9i.kp.mono λy hy=>⟨Yo,Y0 hP,?_⟩) (λ_=>Zb);simp only[Yd,hc,ha,ht,he,if_true];rw[<-he];exact hy
  .exact Zb
 .rename_i hc
  split
  .rename_i x t ha ht
   split
   .rename_i i off n hx
    refine Zc Y5 (λo _=>?_);split
    .refine Zc Zr (λ_ hn=>Z9 (λhe=>Zk ⟨Yo,Y0 hP,?_⟩) (λ_=>Zb))
     simp only[Yd,hc,ha,ht,hx,he,if_true,hn]
    .exact Zb
   .rename_i rows hx
    refine Zc Y5 (λo _=>?_);split
    .refine Zc Zr (λ_ hn=>Z9 (λhe=>Zk ⟨Yo,Y0 hP,?_⟩) (λ_=>Zb))
     simp only[Yd,hc,ha,ht,hx,he,if_true,hn]
    .exact Zb
   .rename_i rows hx
    refine Zc Y5 (λo _=>?_);split
    .refine Zc Zr (λ_ hn=>Z9 (λhe=>Zk ⟨Yo,Y0 hP,?_⟩) (λ_=>Zb))
     simp only[Yd,hc,ha,ht,hx,he,if_true,hn]
    .exact Zb
   .exact Jn hP
  .exact Zb
 .rename_i hc
  split
  .rename_i x t ha ht
   refine Zc Xm (λe he=>Zc Xm (λz hz=>?_));split
   .rename_i i off n hx
    split
    .rename_i b hb
     refine Zc Y5 (λo _=>?_);split
     .refine Z9 (λh=>Zc Zr (λ_ h1=>Zc Zr (λ_ h2=>Zk ⟨Yo,Y0 hP,?_⟩))) (λ_=>Zb)
      simp only[Yd,hc,ha,ht,hx,he,hz,hb,ZZa];rw[ZZj ⟨h.1,h.2.1,h1,h.2.2.1,h.2.2.2.1,h.2.2.2.2⟩,h2]
     .exact Zb
    .exact Zb
   .exact Zb
  .exact Zb
 .exact Jn hP
theorem Z4z (hP:Z2 P) {f:Operand->V} {s:St} {k:Nat} {o:Oper}:KP (opK P M f s k o) (Zfp P M f s k o):=by
 obtain⟨d,op,ty,pos,af,g⟩:=o;cases op with
 | binOp op t x y yt=>exact Z53 hP
 | pick c a b=>exact Z8e hP
 | buildSlice t n parts=>exact Zum hP
 | indexAddr t x ix=>exact Zwk hP
 | load t a=>exact Z7i hP
 | store t a x=>exact Z6g hP
 | slice t x lo hi mx=>exact Z5k hP
 | makeSlice t l c=>exact Zwm hP
 | index t x ix=>exact Z6c hP
 | convert src dst x=>exact Z1e hP
 | call c=>exact Z7w hP
 | _=>simp only[opK];exact Jn hP
def Zsb (s:St) (ops:Array Oper) (o:Oper):KM (Bool×St):=
 match o.guard with
 | none=>ret (true,s)
 | some (j,b)=>match (ops[j]?).bind (·.dst) with
  | some d=>match s.env d with
   | .lit (.bool c)=>bnd hear λo=>match o with
    | .t e=>bnd (obl (c=e)) λ_=>ret (e == b,⟨upd s.env d (.lit (.bool e)),s.heap,s.ep⟩)
    | .k=>ret (c == b,s)
    | _=>fail
   | .tup []=>ret (false,s)
   | _=>fail
  | none=>fail
theorem Zvo {s:St} {ops:Array Oper} {o:Oper}:KP (Zsb s ops o) (λy=>wanted s ops o=some y.1/\y.2=s):=by
 unfold Zsb wanted;cases o.guard with
 | none=>exact Zk ⟨rfl,rfl⟩
 | some p=>
  obtain⟨j,b⟩:=p;simp only;cases hd:(ops[j]?).bind (·.dst) with
  | none=>exact Zb
  | some d=>
   simp only[Vav];cases he:s.env d with
   | lit v=>cases v with
    | bool c=>
     refine Zc Y5 (λq _=>?_);cases q with
     | t e=>
      refine Zc Zr (λ_ hc=>Zk ⟨by subst hc;rfl,?_⟩);have:upd s.env d (.lit (.bool e))=s.env:=by
       funext t
       unfold upd;split
       .rename_i h;rw[h,he,hc]
       .rfl
      rw[this]
     | k=>exact Zk ⟨rfl,rfl⟩
     | _=>exact Zb
    | _=>exact Zb
   | tup l=>cases l with
    | nil=>exact Zk ⟨rfl,rfl⟩
    | cons x l=>exact Zb
   | _=>exact Zb
def opsK (P:Program) (M:Z7) (ops:Array Oper):(k:Nat)->List Oper->(s:St)->KM St
 | _,[],s=>ret s
 | k,o::rest,s=>bnd (Zsb s ops o) λg=>if g.1 then bnd (opK P M g.2.opV g.2 k o) λy=>opsK P M ops (k+1) rest (y.2.put o.dst y.1) else opsK P M ops (k+1) rest (g.2.put o.dst (.tup []))
theorem Z1m {C C':Nat->Xs} {ops:Array Oper}:∀(l:List Oper) {k:Nat} {s:St},(∀j,k<=j->C j=C' j)->Zae P M C ops s k l=Zae P M C' ops s k l:=by
 intro l
 induction l with
 | nil=>intros;rfl
 | cons o l ih=>
  intro k s h;simp only[Zae,h k (Vaf _)];simp only[λs=>ih (k:=k+1) (s:=s) (λj hj=>h j (by omega))]
theorem Zy6 {C C':Nat->Xs} {ops:Array Oper}:∀(l:List Oper) {k:Nat} {s:St} {recs:List Rec},(∀j,k<=j->C j=C' j)->Kd P M C ops s recs k l=Kd P M C' ops s recs k l:=by
 intro l
 induction l with
 | nil=>intros;rfl
 | cons o l ih=>
  intro k s recs h;simp only[Kd,h k (Vaf _)];simp only[λs recs=>ih (k:=k+1) (s:=s) (recs:=recs) (λj hj=>h j (by omega))]
def Znj (C:Nat->Xs) (k:Nat) (D:Xs):Nat->Xs:=λj=>if j=k then D else C j
theorem Yac (hP:Z2 P) {ops:Array Oper}:∀(l:List Oper) {k:Nat} {s:St},KP (opsK P M ops k l s) (λs'=>∃C:Nat->Xs,(∀j,Jm P M (C j))/\Zae P M C ops s k l=some s'):=by
 intro l
 induction l with
 | nil=>intro k s;exact Zk ⟨λ_=>Yo,λ_=>Y0 hP,rfl⟩
 | cons o l ih=>
  intro k s;simp only[opsK,Zae];refine Zc Zvo (λg hg=>?_);obtain⟨g,s0⟩:=g;obtain⟨hg,hs0⟩:=hg;simp only at hg hs0;subst hs0;cases g with
  | true=>
   simp only[if_true];refine Zc (Z4z hP) (λy hy=>ih.mono λs' ⟨C,h1,h2⟩=>?_);obtain⟨D,d1,d2⟩:=hy;refine⟨Znj C k D,λj=>?_,?_⟩
   .unfold Znj;split
    .exact d1
    .exact h1 j
   .rw[hg]
    simp only[ZZa,if_true,Znj];unfold Zkj;rw[d2,ZZa,<-h2];exact Z1m l (λj hj=>by simp only[Znj];rw[ZZi (by omega)])
  | false=>
   simp only[ZZf,if_false];refine ih.mono λs' ⟨C,h1,h2⟩=>⟨C,h1,?_⟩;rw[hg];exact h2
def Ztt (P:Program) (M:Z7) (ops:Array Oper):(recs:List Rec)->(k:Nat)->List Oper->(s:St)->KM St
 | _,_,[],s=>ret s
 | recs,k,o::rest,s=>bnd (Zsb s ops o) λg=>if g.1 then (if Zc3 ops g.2.ep recs (Zge recs o) k o (touch g.2 o) (Zcl M g.2.opV o)=true then
   bnd (opK P M g.2.opV (g.2.only (touch g.2 o)) k o) λy=>Ztt P M ops (recs++[⟨Zge recs o,touch g.2 o,Zcl M g.2.opV o⟩]) (k+1) rest ((g.2.merge k (touch g.2 o) (Zcl M g.2.opV o) y.2).put o.dst y.1) else fail)
  else if Zc3 ops g.2.ep recs (Zge recs o) k o [] false=true then Ztt P M ops (recs++[⟨Zge recs o,[],false⟩]) (k+1) rest (g.2.put o.dst (.tup [])) else fail
theorem Z7z (hP:Z2 P) {ops:Array Oper}:∀(l:List Oper) {k:Nat} {s:St} {recs:List Rec},KP (Ztt P M ops recs k l s) (λs'=>∃C:Nat->Xs,(∀j,Jm P M (C j))/\Kd P M C ops s recs k l=some s'):=by
 intro l
 induction l with
 | nil=>intro k s recs;exact Zk ⟨λ_=>Yo,λ_=>Y0 hP,rfl⟩
 | cons o l ih=>
  intro k s recs;simp only[Ztt,Kd];refine Zc Zvo (λg hg=>?_);obtain⟨g,s0⟩:=g;obtain⟨hg,hs0⟩:=hg;simp only at hg hs0;subst hs0;cases g with
  | true=>
   simp only[if_true];refine Z9 (λha=>Zc (Z4z hP) (λy hy=>ih.mono λs' ⟨C,h1,h2⟩=>?_)) (λ_=>Zb);obtain⟨D,d1,d2⟩:=hy;refine⟨Znj C k D,λj=>?_,?_⟩
   .unfold Znj;split
    .exact d1
    .exact h1 j
   .rw[hg]
    simp only[ZZa,if_true,Znj,ha];rw[d2,ZZa,<-h2];exact Zy6 l (λj hj=>by simp only[Znj];rw[ZZi (by omega)])
  | false=>
   simp only[ZZf,if_false];refine Z9 (λha=>ih.mono λs' ⟨C,h1,h2⟩=>⟨C,h1,?_⟩) (λ_=>Zb);rw[hg];simp only[ZZa,ZZf,if_false,ha,if_true];exact h2
end
inductive It where
 | c (x:Code)
 | blk (i:Nat)
def SX (P:Program) (R:Ex->St->Prop):List It->Ex->St->Prop
 | [],e,s=>R e s
 | .c x::k,.normal,s=>Cx P x s (λe s=>SX P R k e s)
 | .c x::k,.ret,s=>SX P R k .ret s
 | .c x::k,.exit j,s=>SX P R k (.exit j) s
 | .blk i::k,.exit j,s=>if j=i then SX P R k .normal s else SX P R k (.exit j) s
 | .blk i::k,.normal,s=>SX P R k .normal s
 | .blk i::k,.ret,s=>SX P R k .ret s
structure Res where
 stk:List It
 ex:Ex
 st:St
def J3 (P:Program) (M:Z7):(n:Nat)->List It->Ex->(s:St)->KM Res
 | 0,stk,ex,s=>ret ⟨stk,ex,s⟩
 | n+1,stk,ex,s=>match stk with
  | []=>ret ⟨[],ex,s⟩
  | .blk i::k=>match ex with
   | .exit j=>if j=i then J3 P M n k .normal s else J3 P M n k (.exit j) s
   | .normal=>J3 P M n k .normal s
   | .ret=>J3 P M n k .ret s
  | .c x::k=>match ex with
   | .ret=>J3 P M n k .ret s
   | .exit j=>J3 P M n k (.exit j) s
   | .normal=>match x with
    | .skip=>J3 P M n k .normal s
    | .ret=>J3 P M n k .ret s
    | .exit i=>J3 P M n k (.exit i) s
    | .seq a b=>J3 P M n (.c a::.c b::k) .normal s
    | .cond c a b=>match s.opV c with
     | .lit (.bool t)=>bnd (Zmx t) λe=>if e then J3 P M n (.c a::k) .normal s else J3 P M n (.c b::k) .normal s
     | _=>fail
    | .block i c=>J3 P M n (.c c::.blk i::k) .normal s
    | .loop c=>J3 P M n (.c c::.c (.loop c)::k) .normal s
    | .region _ ops d=>match d with
     | false=>bnd (opsK P M ops 0 ops.toList ⟨s.env,s.heap,s.ep+1⟩) λs'=>J3 P M n k .normal s'
     | true=>if Region.noSelect ops=true then bnd (Ztt P M ops [] 0 ops.toList ⟨s.env,s.heap,s.ep+1⟩) λs'=>J3 P M n k .normal s' else fail
    | _=>fail
section
variable {P:Program} {M:Z7} {R:Ex->St->Prop}
def partOf:List It->Option (Operand×Tmp×Tmp×TypeId×Operand×List It)
 | .c (.region _ ops false)::k=>match ops.toList with
  | [⟨some d0,.move x0,_,_,_,none⟩,⟨some d1,.binOp .eql t (.tmp d) y _,_,_,_,none⟩]=>if d=d0 then some (x0,d0,d1,t,y,k) else none
  | _=>none
 | _=>none
theorem Z9m (hP:Z2 P):∀(n:Nat) {stk:List It} {ex:Ex} {s:St},KP (J3 P M n stk ex s) (λr=>SX P R r.stk r.ex r.st->SX P R stk ex s):=by
 intro n
 induction n with
 | zero=>intro stk ex s;exact Zk id
 | succ n ih=>
  intro stk ex s;simp only[J3];split
  .exact Zk id
  .rename_i i k
   split
   .rename_i j
    refine Z9 (λhj=>ih.mono λr hr h=>?_) (λhj=>ih.mono λr hr h=>?_)
    .simp only[SX];rw[ZZj hj];exact hr h
    .simp only[SX];rw[ZZi hj];exact hr h
   .exact ih.mono λr hr h=>hr h
   .exact ih.mono λr hr h=>hr h
  .rename_i x k
   split
   .exact ih.mono λr hr h=>hr h
   .exact ih.mono λr hr h=>hr h
   .split
    .exact ih.mono λr hr h=>Z9l (hr h)
    .exact ih.mono λr hr h=>Cx_ret (hr h)
    .exact ih.mono λr hr h=>Z9z (hr h)
    .refine ih.mono λr hr h=>Cx_seq (Zus (hr h) λe s h=>?_)
     cases e<;>exact h
    .rename_i c a b
     split
     .rename_i t hc
      refine Zc Zh9 (λe he=>?_);subst he;cases t with
      | true=>exact ih.mono λr hr h=>Z2e hc (hr h)
      | false=>exact ih.mono λr hr h=>Z2e hc (hr h)
     .exact Zb
    .rename_i i c
     refine ih.mono λr hr h=>Z67 (Zus (hr h) λe s h=>?_);cases e<;>exact h
    .rename_i c
     refine ih.mono λr hr h=>Z90 (Zus (hr h) λe s h=>?_);cases e<;>exact h
    .rename_i i ops d
     split
     .refine Zc (Yac hP _) (λs' hs=>ih.mono λr hr h=>?_)
      obtain⟨C,h1,h2⟩:=hs;exact Cx_ops hP C h1 h2 (hr h)
     .refine Z9 (λhn=>Zc (Z7z hP _) (λs' hs=>ih.mono λr hr h=>?_)) (λ_=>Zb)
      obtain⟨C,h1,h2⟩:=hs;exact Z9f hP C h1 hn h2 (hr h)
    .exact Zb
theorem Zx8 (hP:Z2 P) (n:Nat) {stk:List It} {ex:Ex} {s:St}:KP (J3 P M n stk ex s) (λr=>∀R,SX P R r.stk r.ex r.st->SX P R stk ex s):=λq a obs q' e ho R=>Z9m hP n q a obs q' e ho
def endK (P:Program) (M:Z7) (f:FuncId) (fn:Func) (xs:List V) (r:Res):KM (V×List V):=match r.stk with
 | []=>match r.ex with
  | .exit _=>fail
  | .normal=>retK P M f fn xs r.st
  | .ret=>retK P M f fn xs r.st
 | _=>fail
def runK (P:Program) (M:Z7) (f:FuncId) (fn:Func) (xs:List V) (n:Nat) (stk:List It) (s:St):KM (V×List V):=
 bnd (J3 P M n stk .normal s) (endK P M f fn xs)
theorem Z94 (hP:Z2 P) {f:FuncId} {fn:Func} {xs:List V} {n:Nat} {stk:List It} {s:St}:KP (runK P M f fn xs n stk s) (λy=>SX P (Zr1 P M f fn xs y) stk .normal s):=by
 refine Zc (Zx8 hP n) (λr hr=>?_);obtain⟨st,ex,s1⟩:=r;unfold endK;cases st with
 | cons x l=>exact Zb
 | nil=>cases ex with
  | exit i=>exact Zb
  | normal=>exact Z10.kp.mono λy hy=>hr _ ⟨trivial,hy⟩
  | ret=>exact Z10.kp.mono λy hy=>hr _ ⟨trivial,hy⟩
def Zuu {α:Type} (x:Option (α×List Prop×List O)):Option (Prop×α):=match x with|some (a,obs,[])=>some (All obs,a)|_=>none
theorem Z2d {α:Type} {x:KM α} {q:List O} {Q:α->Prop} {p:Prop} {a:α} (h:KP x Q) (e:Zuu (x q)=some (p,a)) (hp:p):Q a:=by
 unfold Zuu at e;split at e
 .rename_i b obs hx
  injection e with e;injection e with e1 e2;subst e2;exact h q _ _ _ hx (by rw[e1];exact hp)
 .cases e
theorem Yad (hP:Z2 P) {f:FuncId} {fn:Func} {xs:List V} {y:V×List V} {stk:List It} {s:St} {p:Prop} (n:Nat) (q:List O) (hp:p) (e:Zuu (runK P M f fn xs n stk s q)=some (p,y)):SX P (Zr1 P M f fn xs y) stk .normal s:=
 Z2d (x:=runK P M f fn xs n stk s) (Q:=λy=>SX P (Zr1 P M f fn xs y) stk .normal s) (Z94 hP) e hp
def Za0 (f:List (Id×Id)):V->V
 | .ptr id i off=>match Qm f id with|some id'=>.ptr id' i off|none=>.undef
 | .sl id off len=>match Qm f id with|some id'=>.sl id' off len|none=>(match off,len with|0,0=>.lit (.slice none 0 0)|_,_=>.undef)
 | .lit v=>.lit v
 | .tr rows=>.tr rows
 | .vw rows=>.vw rows
 | .rp sh row off=>.rp sh row off
 | _=>.undef
def renV (f:List (Id×Id)):V->V
 | .agg xs=>.agg (xs.map (Za0 f))
 | .tup xs=>.tup (xs.map (Za0 f))
 | .fn g xs=>.fn g (xs.map (Za0 f))
 | x=>Za0 f x
theorem Zuw {f:List (Id×Id)} {x:V} (h:Za0 f x≠.undef\/x=.undef):VR1 f x (Za0 f x):=by
 cases x with
 | undef=>trivial
 | ptr id i off=>
  simp only[Za0] at h ⊢;split
  .rename_i id' hr;exact⟨hr,rfl,rfl⟩
  .rename_i hr;rw[hr] at h;simp at h
 | sl id off len=>
  simp only[Za0] at h ⊢;split
  .rename_i id' hr;exact⟨hr,rfl,rfl⟩
  .rename_i hr
   rw[hr] at h;simp only at h;split
   .exact⟨hr,rfl,rfl⟩
   .rename_i Zp
    exfalso;split at h
    .rename_i h1 h2;exact Zp rfl rfl
    .simp at h
 | lit v=>rfl
 | tr rows=>rfl
 | vw rows=>rfl
 | rp sh row off=>rfl
 | agg _=>simp[Za0] at h
 | tup _=>simp[Za0] at h
 | fn _ _=>simp[Za0] at h
 | own _ _=>simp[Za0] at h
 | obx _=>simp[Za0] at h
def okV:V->Bool|.undef=>false|_=>true
theorem okV_ne {x:V} (h:okV x=true):x≠.undef:=by rintro rfl;cases h
theorem Zpx {f:List (Id×Id)}:∀{xs:List V},(xs.map (Za0 f)).all okV=true->VRs f xs (xs.map (Za0 f)):=by
 intro xs
 induction xs with
 | nil=>intro _;trivial
 | cons x xs ih=>
  intro h;simp only[Vau,Vbc,ZZg] at h;exact⟨Zuw (.inl (okV_ne h.1)),ih h.2⟩
def okVs:V->Bool
 | .agg xs|.tup xs|.fn _ xs=>xs.all okV
 | x=>okV x
theorem Z9u {f:List (Id×Id)} {x:V} (h:okVs (renV f x)=true):VR f x (renV f x):=by
 cases x with
 | agg xs=>exact Zpx h
 | tup xs=>exact Zpx h
 | fn g xs=>exact⟨rfl,Zpx h⟩
 | undef=>trivial
 | lit v=>rfl
 | tr rows=>rfl
 | vw rows=>rfl
 | rp sh row off=>rfl
 | own e rows=>cases h
 | obx cs=>cases h
 | ptr id i off=>exact Zuw (x:=.ptr id i off) (.inl λe=>by have h2:okVs (Za0 f (.ptr id i off))=true:=h;rw[e] at h2;cases h2)
 | sl id off len=>exact Zuw (x:=.sl id off len) (.inl λe=>by have h2:okVs (Za0 f (.sl id off len))=true:=h;rw[e] at h2;cases h2)
def renB (f:List (Id×Id)) (p:Id×Blk):Option Blk:=match Qm f p.1 with
 | none=>none
 | some _=>some ⟨p.2.box,p.2.own,p.2.cl,(if p.2.box then 0 else p.2.el),if p.2.box then p.2.rows.map (λr=>r.map (Za0 f)) else p.2.rows⟩
def wasB (f:List (Id×Id)) (S:St) (p:Id×Blk):Option Blk:=match Qm f p.1 with
 | none=>none
 | some id'=>(S.heap id').map λc=>⟨c.box,c.own,c.cl,(if c.box then 0 else c.el),c.rows⟩
def newB (f:List (Id×Id)) (p:Id×Blk):Bool:=match Qm f p.1 with
 | none=>!p.2.box&&p.2.own&&(match p.2.rows with|[]=>true|_=>false)
 | some _=>if p.2.box then (match p.2.rows with|[r]=>(r.map (Za0 f)).all okV|_=>false) else true
theorem Z9n {f:List (Id×Id)} {S:St} {p:Id×Blk} (h:wasB f S p=renB f p) (hn:newB f p=true):BR f S p.1 p.2:=by
 obtain⟨id,b⟩:=p;unfold BR;unfold wasB renB at h;unfold newB at hn;simp only at h hn ⊢;split
 .rename_i hr
  rw[hr] at hn;simp only[ZZg,Vb5] at hn;refine⟨hn.1.1,hn.1.2,?_⟩;cases hb:b.rows with
  | nil=>rfl
  | cons x l=>rw[hb] at hn;simp at hn
 .rename_i id' hr
  rw[hr] at h hn;simp only at h hn;obtain⟨c,h1,h2⟩:=ZZc.1 h;injection h2 with e1 e2 e3 e4 e5;refine⟨c,h1,e1,e2,e3,?_⟩;cases hbx:b.box with
  | true=>
   rw[hbx] at hn e1 e5;simp only[if_true] at hn e5 ⊢;cases hb:b.rows with
   | nil=>rw[hb] at hn;cases hn
   | cons r l=>cases l with
    | cons r2 l=>rw[hb] at hn;cases hn
    | nil=>
     rw[hb] at hn e5;exact⟨r,_,rfl,e5,Zpx hn⟩
  | false=>
   rw[hbx] at e1 e4 e5;rw[e1] at e4;simp only[ZZf,if_false] at e4 e5 ⊢;exact⟨e4,e5⟩
def wasL (f:List (Id×Id)) (l:List (Nat×V)) (h:List (Id×Blk)) (S:St):List V×List (Option Blk):=(l.map λp=>S.env p.1,h.map λp=>wasB f S p)
def Zu2 (f:List (Id×Id)) (l:List (Nat×V)) (h:List (Id×Blk)):List V×List (Option Blk):=(l.map λp=>renV f p.2,h.map λp=>renB f p)
def cutB (f:List (Id×Id)) (l:List (Nat×V)) (h:List (Id×Blk)) (ep:Nat):Bool:=wkB f l h ep&&(l.all λp=>okVs (renV f p.2))&&h.all λp=>newB f p
theorem Zs7 {α β:Type} {g1 g2:α->β} {l:List α} (h:l.map g1=l.map g2):∀x∈l,g1 x=g2 x:=by
 induction l with
 | nil=>intro x hx;simp at hx
 | cons y l ih=>
  simp only[Vau,Vcd] at h;intro x hx;rcases Vap.1 hx with rfl|hx
  .exact h.1
  .exact ih h.2 x hx
theorem Z99 {f:List (Id×Id)} {l:List (Nat×V)} {h:List (Id×Blk)} {ep:Nat} {S:St} (e:wasL f l h S=Zu2 f l h) (hb:cutB f l h ep=true):Zkq f S l h ep:=by
 simp only[wasL,Zu2,ZZe] at e;simp only[cutB,ZZg,ZZk] at hb;refine⟨λp hp=>?_,λp hp=>Z9n (Zs7 e.2 p hp) (hb.2 p hp),hb.1.1⟩;rw[Zs7 e.1 p hp];exact Z9u (hb.1.2 p hp)
def len1:V->KM V
 | .sl id off len=>bnd hear λo=>match o with
  | .num n _ _ _=>bnd (obl (len=n)) λ_=>ret (.sl id off n)
  | _=>fail
 | x=>ret x
theorem Z2o {x:V}:KP (len1 x) (λy=>y=x):=by
 unfold len1;split
 .refine Zc Y5 (λo _=>?_)
  split
  .exact Zc Zr (λ_ h=>Zk (by rw[h]))
  .exact Zb
 .exact Zk rfl
def lens:List V->KM (List V)
 | []=>ret []
 | x::xs=>bnd (len1 x) λy=>bnd (lens xs) λys=>ret (y::ys)
theorem Zu0:∀{xs:List V},KP (lens xs) (λys=>ys=xs):=by
 intro xs
 induction xs with
 | nil=>exact Zk rfl
 | cons x xs ih=>exact Zc Z2o (λy hy=>Zc ih (λys hys=>Zk (by rw[hy,hys])))
def lenV:V->KM V
 | .agg xs=>bnd (lens xs) λys=>ret (.agg ys)
 | .fn g xs=>bnd (lens xs) λys=>ret (.fn g ys)
 | x=>len1 x
theorem Yaa {x:V}:KP (lenV x) (λy=>y=x):=by
 unfold lenV;split
 .exact Zc Zu0 (λy hy=>Zk (by rw[hy]))
 .exact Zc Zu0 (λy hy=>Zk (by rw[hy]))
 .exact Z2o
def Z4a (S:St):List (Nat×V)->KM (List V)
 | []=>ret []
 | p::l=>bnd (lenV (S.env p.1)) λy=>bnd (Z4a S l) λys=>ret (y::ys)
theorem Yah {S:St}:∀{l:List (Nat×V)},KP (Z4a S l) (λys=>ys=l.map λp=>S.env p.1):=by
 intro l
 induction l with
 | nil=>exact Zk rfl
 | cons p l ih=>exact Zc Yaa (λy hy=>Zc ih (λys hys=>Zk (by rw[hy,hys];rfl)))
def lenB:Option Blk->KM (Option Blk)
 | some ⟨true,own,cl,el,[row]⟩=>bnd (lens row) λr=>ret (some ⟨true,own,cl,el,[r]⟩)
 | x=>ret x
theorem Yae {x:Option Blk}:KP (lenB x) (λy=>y=x):=by
 unfold lenB;split
 .exact Zc Zu0 (λr hr=>Zk (by rw[hr]))
 .exact Zk rfl
def lenH (f:List (Id×Id)) (S:St):List (Id×Blk)->KM (List (Option Blk))
 | []=>ret []
 | p::l=>bnd (lenB (wasB f S p)) λy=>bnd (lenH f S l) λys=>ret (y::ys)
theorem Z84 {f:List (Id×Id)} {S:St}:∀{l:List (Id×Blk)},KP (lenH f S l) (λys=>ys=l.map λp=>wasB f S p):=by
 intro l
 induction l with
 | nil=>exact Zk rfl
 | cons p l ih=>exact Zc Yae (λy hy=>Zc ih (λys hys=>Zk (by rw[hy,hys];rfl)))
def Z42 (f:List (Id×Id)) (l:List (Nat×V)) (h:List (Id×Blk)) (r:Res):KM (List It×List V×List (Option Blk)):=match r.ex with
 | .normal=>bnd (Z4a r.st l) λvs=>bnd (lenH f r.st h) λbs=>ret (r.stk,vs,bs)
 | _=>fail
def cutK (P:Program) (M:Z7) (f:List (Id×Id)) (l:List (Nat×V)) (h:List (Id×Blk)) (n:Nat) (stk:List It) (s:St):KM (List It×List V×List (Option Blk)):=
 bnd (J3 P M n stk .normal s) (Z42 f l h)
def isC:List It->Bool
 | .c _::_=>true
 | _=>false
theorem Z9e (hP:Z2 P) {stk k2:List It} {s:St} {p:Prop} {l:List (Nat×V)} {h:List (Id×Blk)} {ep:Nat} (f:List (Id×Id)) (n:Nat) (q:List O) (hp:p) (hn:SX P R k2 .normal (mkS l h ep))
  (e:Zuu (cutK P M f l h n stk s q)=some (p,(k2,Zu2 f l h))) (hb:(isC k2&&cutB f l h ep)=true):SX P R stk .normal s:=by
 simp only[ZZg] at hb;refine Z2d (x:=cutK P M f l h n stk s) (Q:=λy=>y=(k2,Zu2 f l h)->SX P R stk .normal s) ?_ e hp rfl;refine Zc (Zx8 hP n) (λr hr=>?_);obtain⟨st,ex,s1⟩:=r;unfold Z42;cases ex with
 | normal=>
  refine Zc Yah (λvs hvs=>Zc Z84 (λbs hbs=>Zk λhy=>hr _ ?_));simp only[ZZe] at hy;simp only;rw[hy.1];have hy2:wasL f l h s1=Zu2 f l h:=by
   rw[<-hy.2,hvs,hbs];rfl
  cases k2 with
  | nil=>cases hb.1
  | cons x k=>cases x with
   | blk i=>cases hb.1
   | c x=>exact Z9a f (Z99 hy2 hb.2) hn
 | ret=>exact Zb
 | exit i=>exact Zb
end
end Go.Proofs.YthdljdelfgofdaaGreatDoor.Ev
namespace Go.Proofs.YthdljdelfgofdaaGreatDoor.Ev
open Go
section
variable {α:Type}
def idx (xs:List α) (i:Int):Option α:=if 0<=i then xs[i.toNat]? else none
def Zak (sz:Nat) (xs ys:List α):Option (List α):=if (xs.length+ys.length)*sz<=140737488355328/\xs.length+ys.length<=9223372036854775807 then some (xs++ys) else none
def Y6 (xs:List α) (l h:Int):Option (List α):=if 0<=l/\l<=h/\h.toNat<=xs.length then some ((xs.drop l.toNat).take (h.toNat - l.toNat)) else none
end
def Zd (l:List UInt8):ByteArray:=⟨l.toArray⟩
def FU:Nat:=18446744073709551616
def w64 (n:Int):Int:=IntKind.i64.wrap n
def w8 (n:Int):Int:=IntKind.u8.wrap n
def Zq (a b:Int):Int:=IntKind.i64.wrap (a+b)
def Zoy (a b:Int):Int:=IntKind.i64.wrap (a - b)
def Zdh (a b:Int):Int:=IntKind.i64.wrap (a*b)
def Zj6 (a b:Int):Int:=IntKind.i64.wrap (a.tdiv b)
def Zfv (a b:Int):Int:=a.tmod b
def shlW (a b:Int):Int:=IntKind.i64.wrap (a*2^min b.toNat IntKind.i64.bits)
def negW (a:Int):Int:=IntKind.i64.wrap (0 - a)
def minI (x y:Int):Int:=if y < x then y else x
def nzI (b:Int):Option Unit:=if b=0 then none else some ()
def nnI (b:Int):Option Unit:=if 0<=b then some () else none
def atS (b:ByteArray) (i:Int):Option Int:=if 0<=i then (b[i.toNat]?).map λc=>(c.toNat:Int) else none
def Zke (b:ByteArray) (l h:Int):Option ByteArray:=if 0<=l/\l<=h/\h.toNat<=b.size then some (b.extract l.toNat h.toNat) else none
def strB (xs:List Int):ByteArray:=⟨(xs.map λn=>UInt8.ofNat n.toNat).toArray⟩
def X9 (a b:ByteArray):Option Unit:=if ((a.size+b.size:Nat):Int) > IntKind.i64.max then none else some ()
theorem Z57 {n:Int} (h1:-9223372036854775808<=n) (h2:n < 9223372036854775808):w64 n=n:=by
 simp[w64,IntKind.wrap,IntKind.bits,IntKind.signed];omega
end Go.Proofs.YthdljdelfgofdaaGreatDoor.Ev
namespace Go.Proofs.YthdljdelfgofdaaGreatDoor.Ev
open Go Go.RowKit KM
variable [Anchor]
abbrev il (n:Int):V:=.lit (.int .i64 n)
abbrev bl (b:Bool):V:=.lit (.bool b)
section
variable {P:Program} {M:Z7}
def entS (M:Z7) (f:FuncId) (xs:List V):St:=(St.enters ⟨λ_=>.undef,λ_=>none,0⟩ 0 (M.modes f) xs).getD ⟨λ_=>.undef,λ_=>none,0⟩
theorem Z71 (hP:Z2 P) {f:FuncId} {fn:Func} {c:Code} {xs:List V} {r:V} {os:List V} (Ku:P.funcs[f]?=some fn) (hc:fn.body=some c) (hs:(St.enters ⟨λ_=>.undef,λ_=>none,0⟩ 0 (M.modes f) xs).isSome=true)
  (h:SX P (Zr1 P M f fn xs (r,os)) [.c c] .normal (entS M f xs)):Z5 P M (f,xs,r,os):=by
 obtain⟨s1,h1⟩:=Vaq.1 hs;refine Z89 hP Ku hc h1 ?_;have:entS M f xs=s1:=by unfold entS;rw[h1];rfl
 rw[<-this];exact h
end
theorem Z7c {α β:Type} {x:Option α} {f:α->Option β} {b:β} (h:x.bind f=some b):∃a,x=some a/\f a=some b:=ZZb.1 h
theorem Z69 {β:Type} {t:Bool} {x y:Option β} {b:β} (h:(if t=true then x else y)=some b):(t=true/\x=some b)\/(t=false/\y=some b):=by
 cases t with
 | true=>exact .inl ⟨rfl,h⟩
 | false=>exact .inr ⟨rfl,h⟩
section
variable {α:Type}
theorem ixn {xs:List α} {i:Int} {a:α} (h:idx xs i=some a):Y3 (il i)=some i.toNat:=by
 unfold idx at h;split at h
 .rename_i h0;simp[Y3,h0]
 .cases h
theorem ixr (e:α->List V) {xs:List α} {i:Int} {a:α} (h:idx xs i=some a):(xs.map e)[i.toNat]?=some (e a):=by
 unfold idx at h;split at h
 .rw[Vay,h];rfl
 .cases h
theorem ixl (e:α->List V) {xs:List α} {i:Int} {a:α} (h:idx xs i=some a):i.toNat < (xs.map e).length:=(ZZh.1 (ixr e h)).1
theorem Zmm (e:α->List V) (xs:List α):(xs.map e).length=xs.length:=Vcb ..
theorem alr (n:Nat) {e:α->List V} (he:∀a,(e a).length=n) (xs:List α):Zcj n (xs.map e)=true:=by
 unfold Zcj;rw[ZZk];intro r hr;obtain⟨a,_,rfl⟩:=Va4.1 hr;simp[he]
theorem apm (e:α->List V) {sz:Nat} {xs ys zs:List α} (h:Zak sz xs ys=some zs):xs.map e++ys.map e=zs.map e:=by
 unfold Zak at h;split at h
 .injection h with h;rw[<-h,Vbt]
 .cases h
theorem apl (e:α->List V) {sz:Nat} {xs ys zs:List α} (h:Zak sz xs ys=some zs):((xs.map e).length+(ys.map e).length)*sz<=140737488355328/\(xs.map e).length+(ys.map e).length<=9223372036854775807:=by
 unfold Zak at h;split at h
 .rename_i hh;simpa using hh
 .cases h
theorem sln {xs ys:List α} {l h:Int} (e:Y6 xs l h=some ys):Y3 (il l)=some l.toNat/\Y3 (il h)=some h.toNat:=by
 unfold Y6 at e;split at e
 .rename_i h0
  refine⟨by simp[Y3,h0.1],?_⟩;have:0<=h:=by omega
  simp[Y3,this]
 .cases e
theorem sll (en:α->List V) {xs ys:List α} {l h:Int} (e:Y6 xs l h=some ys):l.toNat<=h.toNat/\h.toNat<=(xs.map en).length:=by
 unfold Y6 at e;split at e
 .rename_i h0
  rw[Vcb];omega
 .cases e
theorem slr (en:α->List V) {xs ys:List α} {l h:Int} (e:Y6 xs l h=some ys):((xs.map en).drop l.toNat).take (h.toNat - l.toNat)=ys.map en:=by
 unfold Y6 at e;split at e
 .injection e with e;rw[<-e,List.map_take,List.map_drop]
 .cases e
end
def Ze (n:Int):List V:=[.lit (.int .i64 n)]
def encU (n:Int):List V:=[.lit (.int .u8 n)]
def Zh (b:ByteArray):List V:=[.lit (.string b)]
theorem Zh3 (n:Int):(Ze n).length=1:=rfl
theorem Wv (n:ByteArray):(Zh n).length=1:=rfl
abbrev iu (n:Int):V:=.lit (.int .u8 n)
abbrev ss (b:ByteArray):V:=.lit (.string b)
theorem six {b:ByteArray} {i m:Int} (h:atS b i=some m):sidx b (il i)=some m:=by
 unfold atS at h;unfold sidx;split at h
 .rename_i h0
  show (if 0<=i then some i.toNat else none).bind _=_;rw[ZZj h0];exact h
 .cases h
theorem ssx {b c:ByteArray} {l h:Int} (e:Zke b l h=some c):ssl b (some (il l)) (some (il h))=some c:=by
 unfold Zke at e;split at e
 .rename_i h0
  unfold ssl;show ((if 0<=h then some h.toNat else none).bind λh=>(if 0<=l then some l.toNat else none).bind λl=>_)=_;rw[ZZj (by omega),ZZj h0.1];simp only[ZZa];rw[ZZj (by omega)];exact e
 .cases e
theorem ssxh {b c:ByteArray} {l:Int} (e:Zke b l (b.size:Int)=some c):ssl b (some (il l)) none=some c:=by
 have:=ssx e;unfold ssl at this ⊢;exact this
theorem stx (xs:List Int):strV (xs.map λn=>[V.lit (.int .u8 n)])=some (strB xs):=by
 have:Zgt (xs.map λn=>[V.lit (.int .u8 n)])=some (xs.map λn=>UInt8.ofNat n.toNat):=by
  induction xs with
  | nil=>rfl
  | cons x xs ih=>
   unfold Zgt at ih ⊢;simp only[Vau,Zhz];rw[ih];rfl
 unfold strV;rw[this];rfl
section
variable {α:Type}
end
section
variable {α:Type}
end
def ks:Nat->List O->List O
 | 0,l=>l
 | n+1,l=>.k::ks n l
def Scr (q:List O) (p:Prop):Prop:=p
theorem ee:Scr [] True:=trivial
section
variable {q:List O} {p:Prop} {α:Type}
theorem kk (n:Nat) (k:Scr q p):Scr (ks n q) p:=k
theorem gg {c b:Bool} (h:c=b) (k:Scr q p):Scr (.t b::q) (c=b/\p):=⟨h,k⟩
theorem rr {P:Program} {M:Z7} {y:FuncId×List V×V×List V} (h:Z5 P M y) (k:Scr q p):Scr (.res y.2.2.1 y.2.2.2::q) (Z5 P M y/\p):=⟨h,k⟩
theorem xb (e:α->List V) {xs:List α} {i:Int} {a:α} (h:idx xs i=some a) (k:Scr q p):Scr (.row i.toNat (e a)::q) (Y3 (il i)=some i.toNat/\(xs.map e)[i.toNat]?=some (e a)/\p):=⟨ixn h,ixr e h,k⟩
theorem xd (e:α->List V) {xs:List α} {i:Int} {a:α} (h:idx xs i=some a) (k:Scr q p):Scr (.row i.toNat (e a)::.cell (e a)::q) (Y3 (il i)=some i.toNat/\i.toNat < (xs.map e).length/\(xs.map e)[i.toNat]?=some (e a)/\(xs.map e)[i.toNat]?=some (e a)/\p):=⟨ixn h,ixl e h,ixr e h,ixr e h,k⟩
theorem ln (e:α->List V) (xs:List α) (k:Scr q p):Scr (.num (xs.map e).length 0 0 []::q) ((xs.map e).length=(xs.map e).length/\p):=⟨rfl,k⟩
theorem lr (e:α->List V) (xs:List α) (k:Scr q p):Scr (.num xs.length 0 0 []::q) ((xs.map e).length=xs.length/\p):=⟨Zmm e xs,k⟩
theorem tp (x:O) (k:Scr q p):Scr (x::q) p:=k
theorem ta (e:α->List V) (ys zs:List α) (k:Scr q p):Scr (.app (ys.map e) true (zs.map e) (zs.map e).length::q) p:=k
theorem oa (n:Nat) {e:α->List V} (he:∀a,(e a).length=n) (x:α) (k:Scr q p):Scr q (1=([x].map e).length/\[x].map e=[x].map e/\Zcj n ([x].map e)=true/\p):=⟨rfl,rfl,alr n he [x],k⟩
theorem ox (e:α->List V) {sz:Nat} {xs ys zs:List α} (h:Zak sz xs ys=some zs) (k:Scr q p):Scr q ((xs.map e).length=(xs.map e).length/\(((xs.map e).length+(ys.map e).length)*sz<=140737488355328/\(xs.map e).length+(ys.map e).length<=9223372036854775807)/\xs.map e++ys.map e=zs.map e/\p):=⟨rfl,apl e h,apm e h,k⟩
theorem oe (e:α->List V) (xs:List α) (k:Scr q p):Scr q ((xs.map e).length=(xs.map e).length/\p):=⟨rfl,k⟩
theorem ob {a:Prop} (h:a) (k:Scr q p):Scr q (a/\p):=⟨h,k⟩
end
theorem nz0 {b:Int} {u:Unit} (h:nzI b=some u):b≠0:=by
 unfold nzI at h;split at h
 .cases h
 .assumption
theorem nn0 {b:Int} {u:Unit} (h:nnI b=some u):0<=b:=by
 unfold nnI at h;split at h
 .assumption
 .cases h
theorem Wu {a b:ByteArray} {u:Unit} (h:X9 a b=some u):¬((a.size+b.size:Nat):Int) > IntKind.i64.max:=by
 unfold X9 at h;split at h
 .cases h
 .assumption
def J0 (f:Func):Code:=f.body.getD .skip
def at_:List Nat->Code->List It->List It
 | 0::p,.seq a b,k=>at_ p a (.c b::k)
 | _::p,.seq _ b,k=>at_ p b k
 | 0::p,.cond _ a _,k=>at_ p a k
 | _::p,.cond _ _ b,k=>at_ p b k
 | _::p,.block i c,k=>at_ p c (.blk i::k)
 | _::p,.loop c,k=>at_ p c (.c (.loop c)::k)
 | _,c,k=>.c c::k
end Go.Proofs.YthdljdelfgofdaaGreatDoor.Ev
namespace Go.Proofs.YthdljdelfgofdaaGreatDoor.Ev
open Go Go.RowKit
variable [Anchor]
section
variable {P:Program} {M:Z7} {w:World} {ok top:Nat->Prop}
theorem Zul:∀{us:List Value} {xs:List V},us.length=xs.length->K4 P w ok top [] us xs (xs.map λ_=>V.undef) []
 | [],[],_=>.nil
 | u::us,x::xs,h=>.cons (f1:=[]) (f2:=[]) rfl (Zul (by simpa using h))
theorem Zun {ms:List Zx} {us:List Value} {xs:List V} {G:List Nat} (h:Zfh P w ok top ms us xs G):ms=[]->us.length=xs.length/\G=[]/\∀(j:Nat) (u:Value) (x:V),us[j]?=some u->xs[j]?=some x->∀ρ,En w ok ρ u x:=by
 induction h with
 | nil=>intro _;exact⟨rfl,rfl,λj u x hu=>by simp at hu⟩
 | cons h hs ih=>
  intro hm;subst hm;obtain⟨h1,rfl,h2⟩:=ih rfl;obtain⟨h3,rfl⟩:=h;refine⟨by simp[h1],rfl,λj u x hu hx=>?_⟩;cases j with
  | zero=>simp at hu hx;subst hu;subst hx;exact h3
  | succ j=>exact h2 j u x (by simpa using hu) (by simpa using hx)
theorem Zqc {f:FuncId} {xs:List V} {v:Value} {x:V} (Ku:∃fn,P.funcs[f]?=some fn/\fn.body.isSome=true) (hm:M.modes f=[]) (hv:∀(w':World) (ok top:Nat->Prop),Zbo P w' ok top v x [])
  (h:∀(w:World) (us:List Value) (ok:Nat->Prop),Zj3 w (λ_=>False)->(∀g,ok g->g < w.heap.size)->us.length=xs.length->(∀(j:Nat) (u:Value) (x:V),us[j]?=some u->xs[j]?=some x->∀ρ,En w ok ρ u x)->
   Calls P f us.toArray w (λe w'=>e=.returned v/\Below w.heap.size w w')):Z5 P M (f,xs,x,xs.map λ_=>.undef):=by
 refine⟨Ku,?_⟩;show Zce P (M.modes f) f xs x _;rw[hm];intro w us G T X ok hT Za6 hGn hG Zy hX;obtain⟨hl,rfl,he⟩:=Zun Za6 rfl;have:=h w us.toList ok ⟨hT.1,hT.2.1,λg hg=>hg.elim⟩ (λg hg=>(Zy g hg).1) hl he;rw[Array.toArray_toList] at this;exact this.mono λe w' ⟨he,hb⟩=>⟨v,he,⟨⟨hb.os,hb.tape,hb.output,hb.size,λk hk _=>hb.block k hk⟩,ok,T,[],[],hv w' ok T,Zul hl,by simp,λg hg=>by simp at hg,λg hg=>.inl hg,λg hg=>⟨Va3 (Zy g hg).1 hb.size,(Zy g hg).2⟩⟩⟩
theorem Zux {v:Value} (hv:Xn v=true) (w':World) (ok top:Nat->Prop):Zbo P w' ok top v (.lit v) []:=show Giv P w' ok top v (.lit v) [] from .lit hv
theorem Zjm:∀l:List ByteArray,(l.map Zh).flatten=l.map λx=>V.lit (.string x)
 | []=>rfl
 | a::l=>by simp only[Vau,Vax,Zjm l];rfl
theorem Z76 {f:FuncId} {xs:List V} {e:TypeId} {l:List ByteArray} (Ku:∃fn,P.funcs[f]?=some fn/\fn.body.isSome=true) (hm:M.modes f=[]) (Z3:l.length<=maxLen)
  (h:∀(w:World) (us:List Value) (ok:Nat->Prop),Zj3 w (λ_=>False)->(∀g,ok g->g < w.heap.size)->us.length=xs.length->(∀(j:Nat) (u:Value) (x:V),us[j]?=some u->xs[j]?=some x->∀ρ,En w ok ρ u x)->
   Calls P f us.toArray w (λr w'=>r=.returned (.slice (some ⟨w.heap.size,0,none⟩) l.length l.length)/\w'=w.alloc (.cells (l.map Value.string).toArray e))):Z5 P M (f,xs,.tr (l.map Zh),xs.map λ_=>.undef):=by
 refine⟨Ku,?_⟩;show Zce P (M.modes f) f xs (.tr (l.map Zh)) _;rw[hm];intro w us G T X ok hT Za6 hGn hG Zy hX;obtain⟨hl,rfl,he⟩:=Zun Za6 rfl;have:=h w us.toList ok ⟨hT.1,hT.2.1,λg hg=>hg.elim⟩ (λg hg=>(Zy g hg).1) hl he;rw[Array.toArray_toList] at this;refine this.mono λr w' ⟨hr,hw⟩=>⟨_,hr,?_⟩;subst hw;have hs:=Zaw w (.cells (l.map Value.string).toArray e);have hat:=Zh0 w (.cells (l.map Value.string).toArray e);have hXs:¬X w.heap.size:=λhx=>by
  obtain⟨cur,t,hc⟩:=hX _ hx;have:=(Van.1 hc).1;omega
 refine⟨(Y9.refl w.heap.size T w).alloc (Vaf _) _,λg=>ok g\/g=w.heap.size,λ_=>False,[],[],?_,Zul hl,by simp,λg hg=>by simp at hg,λg hg=>hg.elim,λg hg=>?_⟩
 .show Giv P _ (λg=>ok g\/g=w.heap.size) _ _ (.tr (l.map Zh)) []
  refine .tr (.tr (u:=λk=>(l.map Value.string)[k]?.getD (.bool false)) (sz:=1) (by simp) (Vaf _) Z3 (λr hr=>?_) (.inr rfl) (λk x hx=>?_) (λk x hx=>?_))
  .obtain⟨v,_,rfl⟩:=Va4.1 hr;rfl
  .rw[Zjm,Vay] at hx
   obtain⟨y,hy,rfl⟩:=ZZc.1 hx;have hk:(l.map Value.string)[k]?=some (.string y):=by rw[Vay,hy];rfl
   rw[hk];unfold World.cell?;rw[hat];simp[hk]
  .rw[Zjm,Vay] at hx
   obtain⟨y,hy,rfl⟩:=ZZc.1 hx;have hk:(l.map Value.string)[k]?=some (.string y):=by rw[Vay,hy];rfl
   rw[hk];exact .lit rfl
 .rcases hg with hg|rfl
  .exact⟨by have:=(Zy g hg).1;omega,λh=>h,(Zy g hg).2.2⟩
  .exact⟨by omega,λh=>h,hXs⟩
theorem Zgr {ρ:Rho} {u v:Value} (h:En w ok ρ u (.lit v)):u=v:=by cases h;rfl
theorem Z85 {ρ:Rho} {u:Value} {l:List ByteArray} (h:En w ok ρ u (.tr (l.map Zh))):
  (∃A c,u=.slice A 0 c/\l=[])\/∃g o c,u=.slice (some ⟨g,o,none⟩) l.length c/\ok g/\l.length<=c/\∀(j:Nat) x,l[j]?=some x->w.cell? ⟨g,o+j,none⟩=some (.string x):=by
 cases h with
 | tr h=>
  have hf:(l.map Zh).flatten=l.map λx=>V.lit (.string x):=Zjm l;generalize hq:l.map Zh=rows at h;cases h with
  | emp=>exact .inl ⟨_,_,rfl,by simpa using hq⟩
  | @tr g o n c sz rows u hn hc hm hs hg hu hr=>
   subst hq;rw[hf] at hu hr;have hn':n=l.length:=by rw[<-hn];simp
   subst hn';refine .inr ⟨g,o,c,rfl,hg,hc,λj x hx=>?_⟩;have h1:(l.map λx=>V.lit (.string x))[j]?=some (V.lit (.string x)):=by rw[Vay,hx];rfl
   rw[hu j _ h1];have:=hr j _ h1;generalize u j=q at this;cases this;rfl
theorem Z68 {w:World} {ok ok' top top':Nat->Prop} {ms:List Zx} {us:List Value} {xs os:List V} {fo:List Nat} (h:K4 P w ok top ms us xs os fo):ms=[]->fo=[]/\K4 P w ok' top' [] us xs os []:=by
 induction h with
 | nil=>intro _;exact⟨rfl,.nil⟩
 | cons h hs ih=>
  intro hm;subst hm;obtain⟨rfl,h2⟩:=ih rfl;have h1:_=[]:=h;subst h1;exact⟨rfl,.cons (f1:=[]) (f2:=[]) rfl h2⟩
theorem Z7a {f:FuncId} {xs:List V} {e:TypeId} {rows:List (List V)} {os:List V} (hm:M.modes f=[]) (h:Z5 P M (f,xs,.own e rows,os)):Z5 P M (f,xs,.tr rows,os):=by
 refine⟨h.1,?_⟩;have hc:Zce P (M.modes f) f xs (.own e rows) os:=h.2;show Zce P (M.modes f) f xs (.tr rows) os;rw[hm] at hc ⊢;intro w us G T X ok hT Za6 hGn hG Zy hX;have hG0:G=[]:=(Zun Za6 rfl).2.1;refine (hc w us G T X ok hT Za6 hGn hG Zy hX).mono λr w' ⟨v,hr,hd⟩=>⟨v,hr,⟨hd.left,?_⟩⟩;obtain⟨ok',top',fr,fo,h1,h2,h3,h4,h5,h6⟩:=hd.ex;have h1:Giv P w' ok' top' v (.own e rows) fr:=h1;obtain⟨rfl,h2'⟩:=Z68 (ok':=λg=>ok' g\/g∈fr) (top':=λg=>top' g/\g ∉ fr) h2 rfl;subst hG0;refine⟨λg=>ok' g\/g∈fr,λg=>top' g/\g ∉ fr,[],[],?_,h2',by simp,λg hg=>by simp at hg,λg hg=>h5 g hg.1,λg hg=>?_⟩
 .show Giv P w' _ _ v (.tr rows) []
  cases h1 with
  | own h _=>exact .tr (h.ow.rd λg hg=>.inr hg)
 .rcases hg with hg|hg
  .exact⟨(h6 g hg).1,λhh=>(h6 g hg).2.1 hh.1,(h6 g hg).2.2⟩
  .have hk:=h4 g (by simpa using hg)
   refine⟨hk.1,λhh=>hh.2 hg,λhx=>?_⟩;obtain⟨cur,t,hh⟩:=hX g hx;have:=(Van.1 hh).1;rcases hk.2 with hk|hk
   .simp at hk
   .omega
end
inductive LV where
 | und
 | lit (v:Value)
 | ob (i:Nat)
 | nc (i j off sz:Nat)
 | agg (cs:List LV)
 | tup (cs:List LV)
 | bp (b off:Nat)
 | op (i j off sz:Nat)
 | fn (f:FuncId)
 deriving Inhabited
structure LO where
 own:Bool
 sz:Nat
 el:TypeId
 rows:List (List V)
structure LS where
 env:Nat->LV
 ob:Nat->Option LO
 bk:Nat->Option Nat
 bx:Nat->List LV
 used:List Nat
def Jw:LV->Bool
 | .lit _|.ob _=>true
 | _=>false
structure Nm where
 us:Nat->Value
 fps:Nat->List Nat
 bs:Nat->Nat
 U:List Nat
structure Nm.Ext (n n':Nm):Prop where
 us:∀i,i / 1000∈n.U->n'.us i=n.us i
 fps:∀i,i / 1000∈n.U->n'.fps i=n.fps i
 bs:∀b,b∈n.U->n'.bs b=n.bs b
 U:∀d,d∈n.U->d∈n'.U
theorem Nm.Ext.refl (n:Nm):n.Ext n:=⟨λ_ _=>rfl,λ_ _=>rfl,λ_ _=>rfl,λ_ h=>h⟩
theorem Nm.Ext.trans {a b c:Nm} (h:a.Ext b) (k:b.Ext c):a.Ext c:=
 ⟨λi hi=>(k.us i (h.U _ hi)).trans (h.us i hi),λi hi=>(k.fps i (h.U _ hi)).trans (h.fps i hi),λi hi=>(k.bs i (h.U _ hi)).trans (h.bs i hi),λd hd=>k.U d (h.U d hd)⟩
inductive LvR (w:World) (n:Nm):Value->LV->Prop
 | und {v:Value}:LvR w n v .und
 | lit {v:Value} (h:Xn v=true):LvR w n v (.lit v)
 | ob {i:Nat} (hU:i / 1000∈n.U) (h:(n.us i).oneCell'=true):LvR w n (n.us i) (.ob i)
 | nc {i j off sz g o m c:Nat} {v:Value} (hU:i / 1000∈n.U) (h:n.us i=.slice (some ⟨g,o,none⟩) m c) (hg:g∈n.fps i) (hv:w.cell? ⟨g,o+j*sz+off,none⟩=some v):LvR w n v (.nc i j off sz)
 | agg {vs:Array Value} {cs:List LV} (hl:vs.size=cs.length) (hc:∀x∈cs,Jw x=true) (hr:∀(k:Nat) (v:Value) (x:LV),vs[k]?=some v->cs[k]?=some x->LvR w n v x):LvR w n (.agg vs) (.agg cs)
 | tup {vs:Array Value} {cs:List LV} (hl:vs.size=cs.length) (hr:∀(k:Nat) (v:Value) (x:LV),vs[k]?=some v->cs[k]?=some x->LvR w n v x):LvR w n (.tuple vs) (.tup cs)
 | bp {b off:Nat} (hU:b∈n.U):LvR w n (.pointer (some ⟨n.bs b,off,none⟩)) (.bp b off)
 | op {i j off sz g o m c:Nat} (hU:i / 1000∈n.U) (h:n.us i=.slice (some ⟨g,o,none⟩) m c):LvR w n (.pointer (some ⟨g,o+j*sz+off,none⟩)) (.op i j off sz)
 | fn {f:FuncId}:LvR w n (.func (.func f) #[] #[]) (.fn f)
def OwZ (w:World) (sz:Nat) (e:TypeId) (u:Value) (rows:List (List V)) (fp:List Nat):Prop:=
 (∃A,u=.slice A 0 0/\rows=[]/\fp=[])\/
 ∃g o c cur fp',u=.slice (some ⟨g,o,none⟩) rows.length c/\w.heap[g]?=some (.cells cur e (0,0))/\rows.length<=c/\c<=maxLen/\(∀r∈rows,r.length=sz)/\o+c*sz=cur.size/\
  OwL w ((cur.toList.drop o).take (rows.length*sz)) rows.flatten fp'/\fp=g::fp'
def ObR (P:Program) (w0:World) (io:Nat->Prop) (w:World) (o:LO) (u:Value) (fp:List Nat):Prop:=
 match o.own with
 | true=>OwZ w o.sz o.el u o.rows fp
 | false=>fp=[]/\Rd w (λg=>g < w0.heap.size/\¬io g) u (.tr o.rows)
def BxR (w:World) (n:Nm) (b m:Nat) (row:List LV):Prop:=
 ∃cur e,w.heap[n.bs b]?=some (.cells cur e (0,0))/\cur.size=m/\(row≠[]->row.length=m/\∀(k:Nat) (v:Value) (x:LV),cur[k]?=some v->row[k]?=some x->Jw x=true/\LvR w n v x)
structure Yp (P:Program) (w0:World) (io:Nat->Prop) (w:World) (tmps:Array Value) (s:LS) (n:Nm):Prop where
 env:∀(t:Nat) (v:Value),tmps[t]?=some v->LvR w n v (s.env t)
 out:∀t,tmps.size<=t->s.env t=.und
 obs:∀i o,s.ob i=some o->ObR P w0 io w o (n.us i) (n.fps i)
 noO:∀i,s.ob i=none->n.fps i=[]
 noB:∀b,s.bk b=none->s.bx b=[]
 box:∀b m,s.bk b=some m->BxR w n b m (s.bx b)
 mineO:∀i,∀g∈n.fps i,(io g\/w0.heap.size<=g)/\g < w.heap.size
 mineB:∀b m,s.bk b=some m->w0.heap.size<=n.bs b
 apO:∀i j,i≠j->∀g∈n.fps i,g ∉ n.fps j
 once:∀i,(n.fps i).Nodup
 apB:∀b b' m m',s.bk b=some m->s.bk b'=some m'->b≠b'->n.bs b≠n.bs b'
 apOB:∀i b m,s.bk b=some m->n.bs b ∉ n.fps i
 usedO:∀i o,s.ob i=some o->i / 1000∈n.U
 usedB:∀b m,s.bk b=some m->b∈n.U
 used:∀d,d∈n.U->d∈s.used
 left:Y9 w0.heap.size io w0 w
 base:Zhi w0.heap.size io w
section
variable {P:Program} {w0:World} {io:Nat->Prop} {w w':World} {tmps:Array Value} {s s':LS} {n n':Nm}
theorem OwZ.ow {sz:Nat} {e:TypeId} {u:Value} {rows:List (List V)} {fp:List Nat} (h:OwZ w sz e u rows fp):Ow w u (.tr rows) fp:=by
 rcases h with⟨A,rfl,rfl,rfl⟩|⟨g,o,c,cur,fp',rfl,hg,hl,hm,hu,hz,hO,rfl⟩
 .exact .emp
 .exact .tr hg rfl hl hm hu hz hO
theorem OwZ.lt {sz:Nat} {e:TypeId} {u:Value} {rows:List (List V)} {fp:List Nat} (h:OwZ w sz e u rows fp):∀g∈fp,g < w.heap.size:=h.ow.lt
theorem OwZ.frame {sz:Nat} {e:TypeId} {u:Value} {rows:List (List V)} {fp:List Nat} (h:OwZ w sz e u rows fp) (hw:∀g∈fp,w'.heap[g]?=w.heap[g]?):OwZ w' sz e u rows fp:=by
 rcases h with h|⟨g,o,c,cur,fp',h1,h2,h3,h4,h5,h6,h7,rfl⟩
 .exact .inl h
 .exact .inr ⟨g,o,c,cur,fp',h1,by rw[hw g Vaa];exact h2,h3,h4,h5,h6,h7.frame λk hk=>hw k (Vac _ hk),rfl⟩
theorem OwZ.one {sz:Nat} {e:TypeId} {u:Value} {rows:List (List V)} {fp:List Nat} (h:OwZ w sz e u rows fp):u.oneCell'=true:=h.ow.one
theorem OwT.z {e:TypeId} {u:Value} {rows:List (List V)} {fp:List Nat} (h:OwT P w e u rows fp):OwZ w (P.cellsOf e) e u rows fp:=h
theorem ObR.frame {o:LO} {u:Value} {fp:List Nat} (h:ObR P w0 io w o u fp) (hl:Y9 w0.heap.size io w0 w) (hl':Y9 w0.heap.size io w0 w') (hw:∀g∈fp,w'.heap[g]?=w.heap[g]?):ObR P w0 io w' o u fp:=by
 unfold ObR at h ⊢;split
 .rename_i ho;rw[ho] at h;exact h.frame hw
 .rename_i ho;rw[ho] at h
  exact⟨h.1,h.2.mono (λg hg _=>by rw[hl'.block g hg.1 hg.2,hl.block g hg.1 hg.2]) (λ_ h=>h)⟩
theorem LvR.frame {v:Value} {x:LV} (h:LvR w n v x) (he:n.Ext n') (hc:∀i g m u,i / 1000∈n.U->g∈n.fps i->w.cell? ⟨g,m,none⟩=some u->w'.cell? ⟨g,m,none⟩=some u):LvR w' n' v x:=by
 induction h with
 | und=>exact .und
 | lit h=>exact .lit h
 | @ob i hU h=>rw[<-he.us i hU] at h ⊢;exact .ob (he.U _ hU) h
 | nc hU h hg hv=>exact .nc (he.U _ hU) (by rw[he.us _ hU];exact h) (by rw[he.fps _ hU];exact hg) (hc _ _ _ _ hU hg hv)
 | agg hl hc' hr ih=>exact .agg hl hc' ih
 | tup hl hr ih=>exact .tup hl ih
 | bp hU=>rw[<-he.bs _ hU];exact .bp (he.U _ hU)
 | op hU h=>exact .op (he.U _ hU) (by rw[he.us _ hU];exact h)
 | fn=>exact .fn
theorem LvR.cell {v:Value} {x:LV} (h:LvR w n v x) (hx:Jw x=true) (he:n.Ext n'):LvR w' n' v x:=by
 cases h with
 | lit h=>exact .lit h
 | @ob i hU h=>rw[<-he.us i hU] at h ⊢;exact .ob (he.U _ hU) h
 | _=>simp[Jw] at hx
theorem LvR.one {v:Value} {x:LV} (h:LvR w n v x) (hx:Jw x=true):v.oneCell'=true:=by
 cases h with
 | lit h=>cases v<;>simp_all [Xn,Value.oneCell']
 | ob hU h=>exact h
 | _=>simp[Jw] at hx
theorem LvR.grow {v:Value} {x:LV} (h:LvR w n v x) (he:n.Ext n') (hw:∀g,g < w.heap.size->w'.heap[g]?=w.heap[g]?):LvR w' n' v x:=
 h.frame he λi g m u _ _ hc=>by rw[Zkz (hw g (Zla hc))];exact hc
theorem Yp.grow (h:Yp P w0 io w tmps s n) (hl:Y9 w.heap.size (λ_=>False) w w'):Yp P w0 io w' tmps s n:=by
 have hw:∀g,g < w.heap.size->w'.heap[g]?=w.heap[g]?:=λg hg=>hl.block g hg id;have hl2:Y9 w0.heap.size io w w':=⟨hl.os,hl.tape,hl.output,hl.size,λk hk _=>hw k (Va3 hk h.base.base)⟩;have hl':Y9 w0.heap.size io w0 w':=h.left.trans hl2;exact {h with
  env:=λt v hv=>(h.env t v hv).grow (.refl n) hw
  obs:=λi o ho=>(h.obs i o ho).frame h.left hl' λg hg=>hw g (h.mineO i g hg).2
  box:=λb m hb=>by
   obtain⟨cur,e,h1,h2,h3⟩:=h.box b m hb;exact⟨cur,e,by rw[hw _ (Van.1 h1).1];exact h1,h2,λhn=>⟨(h3 hn).1,λk v x hv hx=>⟨((h3 hn).2 k v x hv hx).1,((h3 hn).2 k v x hv hx).2.cell ((h3 hn).2 k v x hv hx).1 (.refl n)⟩⟩⟩
  mineO:=λi g hg=>⟨(h.mineO i g hg).1,Va3 (h.mineO i g hg).2 hl.size⟩
  left:=hl'
  base:=h.base.left hl2}
def LS.put (s:LS) (dst:Option Tmp) (v:LV):LS:=match dst with|some d=>⟨upd s.env d v,s.ob,s.bk,s.bx,s.used⟩|none=>s
theorem Yp.put {a:Act} (h:Yp P w0 io w a.tmps s n) {dst:Option Tmp} {u:Value} {v:LV} (hd:∀d,dst=some d->d < a.tmps.size) (hv:LvR w n u v):Yp P w0 io w (a.put dst u).tmps (s.put dst v) n:=by
 cases dst with
 | none=>exact h
 | some d=>
  have Zs:=hd d rfl;exact {h with
   env:=λt x hx=>by
    simp only[Act.put] at hx;simp only[LS.put,upd];by_cases e:t=d
    .subst e
     rw[Vbf,ZZj rfl,ZZj Zs] at hx;injection hx with hx;subst hx;rw[ZZj rfl];exact hv
    .rw[Vbf,ZZi (λhh=>e hh.symm)] at hx
     rw[ZZi e];exact h.env t x hx
   out:=λt ht=>by
    simp only[Act.put,Vdx] at ht;simp only[LS.put,upd];rw[ZZi (λe=>absurd Zs (by rw[<-e];exact Nat.not_lt.2 ht))];exact h.out t ht}
theorem Yp.less (h:Yp P w0 io w tmps s n) {env:Nat->LV} {used:List Nat} (he:∀t,env t=.und\/env t=s.env t) (hu:∀d∈s.used,d∈used):Yp P w0 io w tmps ⟨env,s.ob,s.bk,s.bx,used⟩ n:=
 {h with
  env:=λt v hv=>by
   rcases he t with e|e
   .simp only;rw[e];exact .und
   .simp only;rw[e];exact h.env t v hv
  out:=λt ht=>by
   rcases he t with e|e
   .exact e
   .simp only;rw[e];exact h.out t ht
  used:=λd hd=>hu d (h.used d hd)}
def opL (s:LS):Operand->LV
 | .tmp t=>s.env t
 | .const v=>if Xn v then .lit v else .und
 | .func f=>.fn f
 | .global _=>.und
theorem Yp.opL {a:Act} (h:Yp P w0 io w a.tmps s n) (x:Operand):LvR w n (a.eval x) (Ev.opL s x):=by
 cases x with
 | tmp t=>
  simp only[Ev.opL,Act.eval];by_cases ht:t < a.tmps.size
  .have h1:a.tmps[t]?=some a.tmps[t]:=Vah ht
   have:=h.env t a.tmps[t] h1;rw[Vbi,h1];exact this
  .rw[h.out t (Vcg ht)];exact .und
 | const v=>
  simp only[Ev.opL,Act.eval];split
  .rename_i hs;exact .lit hs
  .exact .und
 | global g=>exact .und
 | func f=>exact .fn
end
def toV:LV->V
 | .lit v=>.lit v
 | _=>.undef
def Zr0 (P:Program) (t:TypeId) (cs:List LV):Option LV:=
 if (P.underlying t).isSome then if Jd P t then some (.agg cs) else match cs with|[x]=>some x|_=>none else none
inductive Zcn (P:Program) (s:LS) (o:Oper):LV->Prop
 | move {x:Operand} {v:LV} (ho:o.op=.move x\/o.op=.assign x) (hx:opL s x=v):Zcn P s o v
 | pick {c x y:Operand} {t:Bool} {v:LV} (ho:o.op=.pick c x y) (hc:opL s c=.lit (.bool t)) (hx:(if t then opL s x else opL s y)=v):Zcn P s o v
 | extract {t:Operand} {i:Nat} {vs:List LV} {v:LV} (ho:o.op=.extract t i) (ht:opL s t=.tup vs) (hv:vs[i]?=some v):Zcn P s o v
 | plain {v:Value} (h:Ye P (λx=>toV (opL s x)) o=some (.lit v)):Zcn P s o (.lit v)
 | len {x:Operand} {t:TypeId} {i:Nat} {b:LO} (ho:o.op=.call {callee:=.builtin .len,args:=#[x],argTypes:=#[t]}) (ht:(Xe P t).isSome=true) (hx:opL s x=.ob i) (hb:s.ob i=some b):Zcn P s o (.lit (.int .i64 b.rows.length))
 | fieldB {t:TypeId} {x:Operand} {f off b m:Nat} (ho:o.op=.fieldAddr t x f) (hf:Zgu P t f=some off) (hx:opL s x=.bp b m):Zcn P s o (.bp b (m+off))
 | fieldO {t:TypeId} {x:Operand} {f off i j m sz:Nat} (ho:o.op=.fieldAddr t x f) (hf:Zgu P t f=some off) (hx:opL s x=.op i j m sz):Zcn P s o (.op i j (m+off) sz)
 | index {t e:TypeId} {x ix:Operand} {i m:Nat} {b:LO} {row:List V} (ho:o.op=.indexAddr t x ix) (ht:Xe P t=some e) (hz:Zi P e≠0) (hn:Y3 (toV (opL s ix))=some m) (hx:opL s x=.ob i) (hb:s.ob i=some b) (hl:b.rows[m]?=some row) (hr:row.length=Zi P e) (Xy:b.own=true):Zcn P s o (.op i m 0 (Zi P e))
 | loadB {t:TypeId} {x:Operand} {b m:Nat} {n:Nat} {v:LV} (ho:o.op=.load t x) (hx:opL s x=.bp b m) (hk:s.bk b=some n) (hl:m+Zi P t<=(s.bx b).length) (Zp:s.bx b≠[]) (hv:Zr0 P t (((s.bx b).drop m).take (Zi P t))=some v):Zcn P s o v
 | loadL {t:TypeId} {x:Operand} {i j m sz:Nat} {b:LO} {row:List V} {v:Value} (ho:o.op=.load t x) (hx:opL s x=.op i j m sz) (hb:s.ob i=some b) (Zo:b.own=true) (hz:row.length=sz) (h1:Zi P t=1) (ha:Jd P t=false) (hu:(P.underlying t).isSome=true) (hj:b.rows[j]?=some row) (hv:row[m]?=some (.lit v)):Zcn P s o (.lit v)
 | loadN {t:TypeId} {x:Operand} {i j m sz:Nat} {b:LO} {row:List V} {r:List (List V)} (ho:o.op=.load t x) (hx:opL s x=.op i j m sz) (hb:s.ob i=some b) (Zo:b.own=true) (hz:row.length=sz) (h1:Zi P t=1) (ha:Jd P t=false) (hu:(P.underlying t).isSome=true) (hj:b.rows[j]?=some row) (hv:row[m]?=some (.tr r)):Zcn P s o (.nc i j m sz)
section
variable {P:Program} {w0:World} {io:Nat->Prop} {w w':World} {a:Act} {s s':LS} {n n':Nm} {o:Oper} {v:LV}
theorem Zru {t:TypeId} {x:Operand} {g m:Nat} {us:List Value} (ho:o.op=.load t x) (hx:a.eval x=.pointer (some ⟨g,m,none⟩)) (hl:us.length=Zi P t) (hs:(P.underlying t).isSome=true) (h1:Jd P t=false->us.length=1)
  (hc:∀j u,us[j]?=some u->w.cell? ⟨g,m+j,none⟩=some u):∃u,(execOp a.eval o).run P w=.ok (.value u) w/\(Jd P t=true->u=.agg us.toArray)/\(Jd P t=false->us=[u]):=by
 obtain⟨d,hu⟩:=Vaq.1 hs;cases Zao:Jd P t with
 | true=>
  obtain⟨ti,Qi⟩:∃ti,P.info? t=some ti:=by
   unfold Program.underlying at hu;split at hu
   .rename_i h;exact⟨_,h⟩
   .rename_i h;exact⟨_,h⟩
   .cases hu
  have Yx:ti.size=us.length:=by rw[hl];simp[Zi,Program.cellsOf,Qi]
  have Z8:=run_loadCells_list (P:=P) (w:=w) ⟨g,m,none⟩ us (λj u hj=>by rw[W8];exact hc j u hj);rw[<-Yx] at Z8;refine⟨.agg us.toArray,?_,λ_=>rfl,λh=>by cases h⟩;cases d<;>simp[Jd,hu] at Zao<;>simp[execOp,ho,hx,Instr.loadAt,Instr.sureAddr,loadVar,isAgg,underlying,hu,Go.sizeOf,typeInfo,Qi,Z8]
 | false=>
  match us,h1 Zao with
  | [u],_=>
   refine⟨u,?_,λh=>(by cases h),λ_=>rfl⟩;have h0:=hc 0 u rfl;simp only[Va5] at h0;cases d<;>simp[Jd,hu] at Zao<;>simp[execOp,ho,hx,Instr.loadAt,Instr.sureAddr,loadVar,isAgg,underlying,hu,load,Sem.run,h0]
theorem Zm8 {t:TypeId} {x:Operand} {f off:Nat} (ho:o.op=.fieldAddr t x f) (hf:Zgu P t f=some off) {g m:Nat} (hx:a.eval x=.pointer (some ⟨g,m,none⟩)):
  (execOp a.eval o).run P w=.ok (.value (.pointer (some ⟨g,m+off,none⟩))) w:=by
 unfold Zgu at hf;split at hf
 .rename_i fs hu
  obtain⟨fl,J2,hf⟩:=ZZb.1 hf;split at hf
  .cases hf
  .rename_i Yx
   simp only[ZZd] at hf;subst hf;have Z4d:∃ti,P.info? fl.type=some ti/\ti.size≠0:=by
    unfold Program.cellsOf at Yx;cases hq:P.info? fl.type with
    | none=>rw[hq] at Yx;simp at Yx
    | some ti=>rw[hq] at Yx;exact⟨ti,rfl,by simpa using Yx⟩
   obtain⟨ti,Qi,Zp⟩:=Z4d;rw[<-W8];simp[execOp,ho,hx,Instr.fieldAt,underlying,hu,J2,Instr.sureAddr,fieldPlace,Go.sizeOf,typeInfo,Qi,Zp]
 .cases hf
theorem Zwo {t e:TypeId} {x ix:Operand} {m len c:Nat} {kd:IntKind} {g q:Nat} (ho:o.op=.indexAddr t x ix) (ht:Xe P t=some e) (hz:Zi P e≠0) (hi:a.eval ix=.int kd (m:Int)) (hx:a.eval x=.slice (some ⟨g,q,none⟩) len c) (hl:m < len):
  (execOp a.eval o).run P w=.ok (.value (.pointer (some ⟨g,q+m*Zi P e,none⟩))) w:=by
 have hu:=Q9 ht;obtain⟨ti,Qi,Yx⟩:∃ti,P.info? e=some ti/\ti.size=Zi P e:=by
  unfold Zi Program.cellsOf at hz ⊢;cases hq:P.info? e with
  | none=>rw[hq] at hz;simp at hz
  | some ti=>exact⟨ti,rfl,rfl⟩
 have h1:(0:Int)<=(m:Int)/\(m:Int) < (len:Int):=⟨by omega,by omega⟩;rw[<-W8];simp[execOp,ho,hx,hi,Instr.indexAt,asIntOf,underlying,hu,Go.sizeOf,typeInfo,Qi,Yx,hl]
theorem Zcw {u v:Value} (h:LvR w n u (.lit v)):u=v:=by cases h;rfl
theorem Yp.litV (h:Yp P w0 io w a.tmps s n) {x:Operand} {u:Value} (hx:Ys (toV (Ev.opL s x))=some u):a.eval x=u:=by
 have h1:=h.opL x;cases hq:Ev.opL s x<;>rw[hq] at hx h1<;>simp only[toV,Ys] at hx<;>try cases hx
 exact Zcw h1
theorem OwZ.top {sz:Nat} {e:TypeId} {u:Value} {rows:List (List V)} {fp:List Nat} (h:OwZ w sz e u rows fp) (Zp:rows≠[]):∃g q c cur fp',u=.slice (some ⟨g,q,none⟩) rows.length c/\w.heap[g]?=some (.cells cur e (0,0))/\rows.length<=c/\c<=maxLen/\(∀r∈rows,r.length=sz)/\q+c*sz=cur.size/\
  OwL w ((cur.toList.drop q).take (rows.length*sz)) rows.flatten fp'/\fp=g::fp':=by
 rcases h with⟨A,_,h,_⟩|h
 .exact absurd h Zp
 .exact h
theorem OwZ.cell {sz:Nat} {e:TypeId} {u:Value} {rows:List (List V)} {fp:List Nat} (h:OwZ w sz e u rows fp) {j m:Nat} {row:List V} {x:V} (hj:rows[j]?=some row) (hm:row[m]?=some x):
  ∃g q c cur fp' y f,u=.slice (some ⟨g,q,none⟩) rows.length c/\w.heap[g]?=some (.cells cur e (0,0))/\fp=g::fp'/\w.cell? ⟨g,q+j*row.length+m,none⟩=some y/\Ow w y x f/\(∀k∈f,k∈fp')/\cur[q+j*row.length+m]?=some y:=by
 obtain⟨g,q,c,cur,fp',h1,h2,h3,h4,h5,h6,h7,h8⟩:=h.top (λe=>by rw[e] at hj;simp at hj);have Ks:=h5 row (Vag hj);have hk:=K9 h5 hj hm;obtain⟨y,f,hy,hO,hf⟩:=h7.get _ _ hk;have hc:cur[q+(j*sz+m)]?=some y:=by
  rw[Val] at hy;split at hy
  .simpa using hy
  .cases hy
 rw[Ks];refine⟨g,q,c,cur,fp',y,f,h1,h2,h8,?_,hO,hf,by rw[Nat.add_assoc];exact hc⟩;rw[Nat.add_assoc,cell_of_row w g _ cur e (0,0) h2];exact hc
theorem Zcn.ok (h:Yp P w0 io w a.tmps s n) (hop:Zcn P s o v):∃u,(execOp a.eval o).run P w=.ok (.value u) w/\LvR w n u v:=by
 cases hop with
 | @move x _ ho hx=>
  subst hx;refine⟨a.eval x,?_,h.opL x⟩;rcases ho with ho|ho<;>simp[execOp,ho]
 | @pick c x y t _ ho hc hx=>
  subst hx;have h1:=h.opL c;rw[hc] at h1;have hb:=Zcw h1;refine⟨if t then a.eval x else a.eval y,?_,?_⟩
  .cases t<;>simp[execOp,ho,hb,asBool]
  .cases t
   .exact h.opL y
   .exact h.opL x
 | @extract t i vs _ ho ht hv=>
  have h1:=h.opL t;rw[ht] at h1;generalize hb:a.eval t=b at h1;cases h1 with
  | @tup us _ hl hr=>
   have hi:=(ZZh.1 hv).1;have hu:us[i]?=some us[i]:=Vah (by omega);exact⟨us[i],by simp[execOp,ho,hb,Instr.extract,hu],hr i _ _ hu hv⟩
 | @plain v' he=>
  unfold Ye at he;split at he
  .rename_i hc
   rw[ZZg] at hc;obtain⟨hp,Xp⟩:=hc;split at he
   .rename_i val hev
    have hcg:execOp a.eval o=execOp (λx=>(Ys (toV (Ev.opL s x))).getD undef) o:=Zgf hp (λx hx=>by
     have h1:=ZZk.1 Xp x hx;obtain⟨u,hu⟩:=Vaq.1 h1;rw[hu];exact h.litV hu)
    refine⟨val,by rw[hcg];exact Zye hev w,?_⟩;have hv:∀(w:World),En w (λ_=>True) (λ_=>none) val (.lit v'):=λw=>Zrv he;cases hv w with
    | lit hs=>exact .lit hs
   .cases he
  .cases he
 | @len x t i b ho ht hx hb=>
  obtain⟨e,Xw⟩:=Vaq.1 ht;have hu:=Q9 Xw;have hq:∃A c,a.eval x=.slice A b.rows.length c:=by
   have h1:=h.opL x;rw[hx] at h1;generalize Zn:a.eval x=q at h1;cases h1;have hO:=h.obs i b hb;unfold ObR at hO;split at hO
   .rcases hO with⟨A,h1,h2,_⟩|⟨g,o,c,cur,fp',h1,_⟩
    .exact⟨A,0,by rw[h1,h2];rfl⟩
    .exact⟨_,_,h1⟩
   .have:=hO.2
    generalize b.rows=R at this ⊢;generalize n.us i=z at this ⊢;cases this with
    | emp=>exact⟨_,_,rfl⟩
    | tr hn=>exact⟨_,_,by rw[hn]⟩
  obtain⟨A,c,hq⟩:=hq;refine⟨.int .i64 b.rows.length,?_,.lit rfl⟩;simp[execOp,ho,resolve,invoke,builtin,hq,Builtin.len_,underlying,hu,goInt]
 | @fieldB t x f off b m ho hf hx=>
  have h1:=h.opL x;rw[hx] at h1;generalize hb:a.eval x=q at h1;cases h1 with
  | bp hU=>exact⟨_,Zm8 ho hf hb,.bp hU⟩
 | @fieldO t x f off i j m sz ho hf hx=>
  have h1:=h.opL x;rw[hx] at h1;generalize hb:a.eval x=q at h1;cases h1 with
  | op hU hi=>exact⟨_,Zm8 ho hf hb,by rw[Nat.add_assoc];exact .op hU hi⟩
 | @index t e x ix i m b row ho ht hz hn hx hb Z6 Ks Zo=>
  have hl:=(ZZh.1 Z6).1;have h1:=h.opL x;rw[hx] at h1;generalize hq:a.eval x=q at h1;cases h1 with
  | ob hU Zu8=>
   have hO:=h.obs i b hb;unfold ObR at hO;rw[Zo] at hO;obtain⟨g,q,c,cur,fp',h1,_⟩:=hO.top (λe=>by rw[e] at hl;simp at hl);have hi:∃kd,a.eval ix=.int kd (m:Int):=by
    have h2:=h.opL ix;cases hq2:Ev.opL s ix<;>rw[hq2] at hn h2<;>simp only[toV,Y3] at hn<;>try cases hn
    rename_i v2;rw[Zcw h2];split at hn
    .rename_i kd k hk
     injection hk with hk;split at hn
     .rename_i h0
      simp only[ZZd] at hn;exact⟨kd,by rw[hk,<-hn,Int.toNat_of_nonneg h0]⟩
     .cases hn
    .cases hn
   obtain⟨kd,hi⟩:=hi;exact⟨_,Zwo ho ht hz hi (hq.trans h1) hl,.op (off:=0) hU h1⟩
 | @loadB t x b m k _ ho hx hk hl Zp hv=>
  have h1:=h.opL x;rw[hx] at h1;generalize hq:a.eval x=q at h1;cases h1 with
  | bp hU=>
   obtain⟨cur,e,hg,Yx,hc⟩:=h.box b k hk;obtain⟨Z3,hc⟩:=hc Zp;have Y4:cur.size=(s.bx b).length:=by omega
   have hsz2:(((s.bx b).drop m).take (Zi P t)).length=Zi P t:=by simp;omega
   have hul:((cur.toList.drop m).take (Zi P t)).length=Zi P t:=by simp;omega
   have Ka:∀j u,((cur.toList.drop m).take (Zi P t))[j]?=some u->cur[m+j]?=some u/\j < Zi P t:=λj u hj=>by
    rw[Val] at hj;split at hj
    .rename_i Zs
     exact⟨by simpa using hj,Zs⟩
    .cases hj
   have Z6:∀j y,(((s.bx b).drop m).take (Zi P t))[j]?=some y->(s.bx b)[m+j]?=some y:=λj y hj=>by
    rw[Val] at hj;split at hj
    .simpa using hj
    .cases hj
   unfold Zr0 at hv;split at hv
   case isFalse=>cases hv
   rename_i Zhq;obtain⟨u,hr,K3,ha2⟩:=Zru (P:=P) (w:=w) (us:=(cur.toList.drop m).take (Zi P t)) ho hq hul Zhq (λhf=>by
    rw[hf] at hv;simp only[ZZf,if_false] at hv;split at hv
    .rename_i y hy
     rw[hul,<-hsz2,hy];rfl
    .cases hv) (λj u hj=>by rw[cell_of_row w _ _ cur e (0,0) hg];exact (Ka j u hj).1)
   refine⟨u,hr,?_⟩;cases Zao:Jd P t with
   | true=>
    rw[Zao] at hv;simp only[if_true,ZZd] at hv;subst hv;rw[K3 Zao];refine .agg (by rw[List.size_toArray,hul,hsz2]) (λy hy=>?_) (λj u y hu hy=>?_)
    .obtain⟨j,hj⟩:=Va2 hy
     have Zs:m+j < cur.size:=by
      have:=(ZZh.1 (Z6 j y hj)).1;omega
     exact (hc (m+j) cur[m+j] y (Vah Zs) (Z6 j y hj)).1
    .exact (hc (m+j) u y (Ka j u (by simpa using hu)).1 (Z6 j y hy)).2
   | false=>
    rw[Zao] at hv;simp only[ZZf,if_false] at hv;split at hv
    .rename_i y hy
     simp only[ZZd] at hv;subst hv;have hu:=ha2 Zao;exact (hc (m+0) u y (Ka 0 u (by rw[hu];rfl)).1 (Z6 0 y (by rw[hy];rfl))).2
    .cases hv
 | @loadL t x i j m sz b row v' ho hx hb Zo hz h1 ha hu hj hv=>
  have h2:=h.opL x;rw[hx] at h2;generalize hq:a.eval x=q at h2;cases h2 with
  | @op _ _ _ _ g q' n' c hU hi=>
   have hO:=h.obs i b hb;unfold ObR at hO;rw[Zo] at hO;obtain⟨g2,q2,c2,cur,fp',y,f,e1,e2,e3,e4,e5,e6,_⟩:=hO.cell hj hv;rw[hi] at e1;injection e1 with e1;injection e1 with e1;injection e1 with e1 e1';subst e1;subst e1';subst hz;obtain⟨u,hr,_,ha2⟩:=Zru (P:=P) (w:=w) (us:=[y]) ho hq (by rw[h1];rfl) hu (λ_=>rfl) (λk u hk=>by
    cases k with
    | zero=>simp only[Vbd,ZZd] at hk;subst hk;exact e4
    | succ k=>simp at hk)
   have:=ha2 ha;injection this with this _;subst this;refine⟨_,hr,?_⟩;cases e5 with|lit hs=>exact .lit hs
 | @loadN t x i j m sz b row r ho hx hb Zo hz h1 ha hu hj hv=>
  have h2:=h.opL x;rw[hx] at h2;generalize hq:a.eval x=q at h2;cases h2 with
  | @op _ _ _ _ g q' n' c hU hi=>
   have hO:=h.obs i b hb;unfold ObR at hO;rw[Zo] at hO;obtain⟨g2,q2,c2,cur,fp',y,f,e1,e2,e3,e4,e5,e6,_⟩:=hO.cell hj hv;rw[hi] at e1;injection e1 with e1;injection e1 with e1;injection e1 with e1 e1';subst e1;subst e1';subst hz;obtain⟨u,hr,_,ha2⟩:=Zru (P:=P) (w:=w) (us:=[y]) ho hq (by rw[h1];rfl) hu (λ_=>rfl) (λk u hk=>by
    cases k with
    | zero=>simp only[Vbd,ZZd] at hk;subst hk;exact e4
    | succ k=>simp at hk)
   have:=ha2 ha;injection this with this _;subst this;exact⟨_,hr,.nc hU hi (by rw[e3];exact Vaa) e4⟩
end
structure LPt where
 bk:Nat->Option Nat
 bx:Nat->Option (List LV)
 ob:Nat->Option LO
def no1 {α:Type}:Nat->Option α:=λ_=>none
def at1 {α:Type} (d:Nat) (x:α):Nat->Option α:=λi=>if i=d then some x else none
def LPt.no:LPt:=⟨no1,no1,no1⟩
def LS.add (s:LS) (p:LPt) (used:List Nat):LS:=⟨s.env,λi=>(p.ob i).or (s.ob i),λb=>(p.bk b).or (s.bk b),λb=>(p.bx b).getD (s.bx b),used⟩
def Zip:LV->Option (List LV)
 | .agg cs=>some cs
 | .lit v=>some [.lit v]
 | .ob i=>some [.ob i]
 | _=>none
def rdC (s:LS):LV->Option V
 | .lit (.slice none 0 0)=>some (.tr [])
 | .lit v=>some (.lit v)
 | .ob i=>(s.ob i).map λb=>.tr b.rows
 | _=>none
def rdCs (s:LS):List LV->Option (List V)
 | []=>some []
 | x::r=>(rdC s x).bind λy=>(rdCs s r).map (y::·)
def rdA (s:LS):LV->Option V
 | .agg cs=>(rdCs s cs).map .agg
 | x=>rdC s x
def rdAs (s:LS):List LV->Option (List V)
 | []=>some []
 | x::r=>(rdA s x).bind λy=>(rdAs s r).map (y::·)
def tkC (P:Program) (d k:Nat):V->Option (LV×List LO)
 | .lit v=>some (.lit v,[])
 | .own e rows=>some (.ob (1000*d+k),[⟨true,P.cellsOf e,e,rows⟩])
 | _=>none
def tkCs (P:Program) (d:Nat):Nat->List V->Option (List LV×List LO)
 | _,[]=>some ([],[])
 | k,x::r=>(tkC P d k x).bind λy=>(tkCs P d (k+y.2.length) r).map λz=>(y.1::z.1,y.2++z.2)
def tkO (P:Program) (d k:Nat):V->Option (LV×List LO)
 | .agg cs=>(tkCs P d k cs).map λy=>(.agg y.1,y.2)
 | x=>tkC P d k x
def tkOs (P:Program) (d:Nat):Nat->List V->Option (List LV×List LO)
 | _,[]=>some ([],[])
 | k,x::r=>(tkO P d k x).bind λy=>(tkOs P d (k+y.2.length) r).map λz=>(y.1::z.1,y.2++z.2)
def tkR (P:Program) (d:Nat):V->Option (LV×List LO)
 | .tup vs=>(tkOs P d 0 vs).map λy=>(.tup y.1,y.2)
 | x=>tkO P d 0 x
def Zb4 (d:Nat) (l:List LO):Nat->Option LO:=λi=>if i / 1000=d then l[i % 1000]? else none
def Zf4 (l:List Zx):Bool:=l.all λm=>m == .rd
inductive LOp (P:Program) (M:Z7) (s:LS) (o:Oper):LV->LPt->Prop
 | look {v:LV} (h:Zcn P s o v):LOp P M s o v .no
 | alloc {t:TypeId} {z:List V} {d:Nat} (ho:o.op=.alloc t) (hz:Kq P t=some z) (hd:o.dst=some d):LOp P M s o (.bp d 0) ⟨at1 d z.length,no1,no1⟩
 | box {t:TypeId} {x:Operand} {cs:List LV} {d:Nat} (ho:o.op=.box t x) (hc:Zip (opL s x)=some cs) (hd:o.dst=some d):LOp P M s o (.bp d 0) ⟨at1 d cs.length,at1 d cs,no1⟩
 | store {t:TypeId} {x y:Operand} {b:Nat} {cs:List LV} (ho:o.op=.store t x y) (hx:opL s x=.bp b 0) (hb:s.bk b=some cs.length) (hc:Zip (opL s y)=some cs) (hl:cs.length=Zi P t) (hz:Zi P t≠0):LOp P M s o .und ⟨no1,at1 b cs,no1⟩
 | call {f:Operand} {ars:Array Operand} {ts:Array TypeId} {g:FuncId} {d:Nat} {xs:List V} {r:V} {os:List V} {v:LV} {l:List LO} (ho:o.op=.call {callee:=.value f,args:=ars,argTypes:=ts}) (hf:opL s f=.fn g) (ha:rdAs s (ars.toList.map (opL s))=some xs)
   (hm:Zf4 (M.modes g)=true) (hg:Z5 P M (g,xs,r,os)) (hr:tkR P d r=some (v,l)) (hl:l.length<=1000) (hd:o.dst=some d):LOp P M s o v ⟨no1,no1,Zb4 d l⟩
def Wb (o:Oper):Bool:=
 match o.op with
 | .alloc _|.box ..=>true
 | .call c=>match c.callee with|.value _=>true|_=>false
 | _=>false
def LPost (P:Program) (w0:World) (io:Nat->Prop) (tmps:Array Value) (s:LS) (n:Nm) (o:Oper) (v:LV) (p:LPt) (val:Value) (w':World):Prop:=
 ∃n',n.Ext n'/\(∀d∈n'.U,d∈n.U\/o.dst=some d/\Wb o=true)/\LvR w' n' val v/\∀used,(∀d∈n'.U,d∈used)->Yp P w0 io w' tmps (s.add p used) n'
section
variable {P:Program} {M:Z7} {w0:World} {io:Nat->Prop} {w w':World} {a:Act} {tmps:Array Value} {s s':LS} {n n':Nm} {o:Oper} {v:LV} {p:LPt}
theorem Zvy {u:Value} {x:LV} {cs:List LV} (h:LvR w n u x) (hc:Zip x=some cs):u.cells.size=cs.length/\∀(j:Nat) (v:Value) (y:LV),u.cells[j]?=some v->cs[j]?=some y->Jw y=true/\LvR w n v y:=by
 have one:(∀vs,u≠.agg vs)->Jw x=true->cs=[x]->u.cells.size=cs.length/\∀(j:Nat) (v:Value) (y:LV),u.cells[j]?=some v->cs[j]?=some y->Jw y=true/\LvR w n v y:=by
  rintro hu hx rfl;have huc:u.cells=#[u]:=by
   cases u<;>first|rfl|exact absurd rfl (hu _)
  rw[huc];refine⟨rfl,λj v y hv hy=>?_⟩;cases j with
  | zero=>
   have h1:u=v:=by simpa using hv
   have h2:x=y:=by simpa using hy
   subst h1;subst h2;exact⟨hx,h⟩
  | succ j=>simp at hy
 cases x<;>simp only[Zip,ZZd] at hc<;>try cases hc
 case agg=>cases h with|agg hl hce hr=>exact⟨hl,λj v y hv hy=>⟨hce _ (Vag hy),hr j v y hv hy⟩⟩
 case lit v=>cases h with|lit hs=>exact one (by rintro vs rfl;simp[Xn] at hs) rfl rfl
 case ob i=>cases h with|ob hU h1=>exact one (by rintro vs e;rw[e] at h1;simp[Value.oneCell'] at h1) rfl rfl
theorem Y9.new (w:World) (ob:Obj):Y9 w.heap.size (λ_=>False) w (w.alloc ob):=
 ⟨rfl,rfl,rfl,by rw[Zaw];omega,λk hk _=>Below.heap_alloc w ob k hk⟩
theorem BxR.ext {b m:Nat} {row:List LV} (h:BxR w n b m row) (he:n.Ext n') (hb:b∈n.U):BxR w n' b m row:=by
 obtain⟨cur,e,h1,h2,h3⟩:=h;exact⟨cur,e,by rw[he.bs b hb];exact h1,h2,λhn=>⟨(h3 hn).1,λk v x hv hx=>⟨((h3 hn).2 k v x hv hx).1,((h3 hn).2 k v x hv hx).2.cell ((h3 hn).2 k v x hv hx).1 he⟩⟩⟩
theorem Yp.newBox (h:Yp P w0 io w tmps s n) {d:Nat} (hd:d ∉ n.U) {us:Array Value} {e:TypeId} {bx:Nat->Option (List LV)} (hbx:bx=no1\/∃cs,bx=at1 d cs/\us.size=cs.length/\∀(j:Nat) (v:Value) (y:LV),us[j]?=some v->cs[j]?=some y->Jw y=true/\LvR w n v y):
  ∃n',n.Ext n'/\(∀x∈n'.U,x∈n.U\/x=d)/\LvR (w.alloc (.cells us e)) n' (.pointer (some ⟨w.heap.size,0,none⟩)) (.bp d 0)/\∀used,(∀x∈n'.U,x∈used)->Yp P w0 io (w.alloc (.cells us e)) tmps (s.add ⟨at1 d us.size,bx,no1⟩ used) n':=by
 have hg:=h.grow (Y9.new w (.cells us e))
 let n':Nm:=⟨n.us,n.fps,upd n.bs d w.heap.size,d::n.U⟩
 have he:n.Ext n':=⟨λ_ _=>rfl,λ_ _=>rfl,λb hb=>Zz (λe=>hd (e▸hb)),λx hx=>Vac _ hx⟩;have hbd:n'.bs d=w.heap.size:=Zl _ _ _;have hdn:s.bk d=none:=by
  cases hk:s.bk d with
  | none=>rfl
  | some m=>exact absurd (h.usedB d m hk) hd
 have hbk:∀b m,(s.add ⟨at1 d us.size,bx,no1⟩ []).bk b=some m->(b=d/\m=us.size)\/(b≠d/\s.bk b=some m):=λb m hb=>by
  simp only[LS.add,at1] at hb;by_cases e:b=d
  .rw[ZZj e] at hb
   simp only[Option.some_or,ZZd] at hb;exact .inl ⟨e,hb.symm⟩
  .rw[ZZi e] at hb
   exact .inr ⟨e,by simpa using hb⟩
 have Zed:∀b m,s.bk b=some m->b∈n.U/\b≠d/\n'.bs b=n.bs b/\n.bs b < w.heap.size:=λb m hb=>by
  have hU:=h.usedB b m hb;obtain⟨cur,e,h1,_⟩:=h.box b m hb;exact⟨hU,λe=>hd (e▸hU),he.bs b hU,(Van.1 h1).1⟩
 refine⟨n',he,λx hx=>by rcases Vap.1 hx with h|h;exact .inr h;exact .inl h,?_,λused hu=>?_⟩
 .have:=LvR.bp (w:=w.alloc (.cells us e)) (n:=n') (b:=d) (off:=0) Vaa
  rw[hbd] at this;exact this
 .refine {env:=λt v hv=>(hg.env t v hv).grow he (λ_ _=>rfl),out:=hg.out,obs:=λi o ho=>?_,noO:=λi hi=>?_,noB:=λb hb=>?_,box:=λb m hb=>?_,mineO:=hg.mineO,mineB:=λb m hb=>?_,apO:=hg.apO,once:=hg.once,apB:=λb b' m m' hb Zn Zp=>?_,apOB:=λi b m hb=>?_,usedO:=λi o ho=>?_,usedB:=λb m hb=>?_,used:=hu,left:=hg.left,base:=hg.base}
  .simp only[LS.add,no1,Vcs] at ho;exact hg.obs i o ho
  .simp only[LS.add,no1,Vcs] at hi;exact hg.noO i hi
  .have Zp:b≠d:=λe=>by subst e;simp[LS.add,at1] at hb
   have Zn:s.bk b=none:=by simpa [LS.add,at1,Zp] using hb
   have e1:(bx b).getD (s.bx b)=s.bx b:=by
    rcases hbx with rfl|⟨cs,rfl,_⟩
    .rfl
    .simp[at1,Zp]
   exact e1.trans (h.noB b Zn)
  .rcases hbk b m hb with⟨rfl,rfl⟩|⟨Zp,Zn⟩
   .show BxR _ n' b us.size ((bx b).getD (s.bx b))
    refine⟨us,e,by rw[hbd];exact Zh0 w _,rfl,λhn=>?_⟩;rcases hbx with rfl|⟨cs,rfl,hl,hc⟩
    .exact absurd (h.noB b hdn) hn
    .have e1:((at1 b cs b).getD (s.bx b))=cs:=by simp[at1]
     rw[e1];exact⟨hl.symm,λk v x hv hx=>⟨(hc k v x hv hx).1,(hc k v x hv hx).2.cell (hc k v x hv hx).1 he⟩⟩
   .have e1:(bx b).getD (s.bx b)=s.bx b:=by
     rcases hbx with rfl|⟨cs,rfl,_⟩
     .rfl
     .simp[at1,Zp]
    show BxR _ n' b m ((bx b).getD (s.bx b));rw[e1];exact (hg.box b m Zn).ext he (Zed b m Zn).1
  .rcases hbk b m hb with⟨rfl,rfl⟩|⟨Zp,Zn⟩
   .rw[hbd];exact h.base.base
   .rw[(Zed b m Zn).2.2.1];exact h.mineB b m Zn
  .rcases hbk b m hb with⟨rfl,rfl⟩|⟨h1,h2⟩<;>rcases hbk b' m' Zn with⟨rfl,rfl⟩|⟨h3,h4⟩
   .exact absurd rfl Zp
   .rw[hbd,(Zed b' m' h4).2.2.1];have:=(Zed b' m' h4).2.2.2;omega
   .rw[hbd,(Zed b m h2).2.2.1];have:=(Zed b m h2).2.2.2;omega
   .rw[(Zed b m h2).2.2.1,(Zed b' m' h4).2.2.1];exact h.apB b b' m m' h2 h4 Zp
  .rcases hbk b m hb with⟨rfl,rfl⟩|⟨h1,h2⟩
   .rw[hbd];intro Zm;have:=(h.mineO i _ Zm).2;omega
   .rw[(Zed b m h2).2.2.1];exact h.apOB i b m h2
  .simp only[LS.add,no1,Vcs] at ho;exact Vac _ (h.usedO i o ho)
  .rcases hbk b m hb with⟨rfl,rfl⟩|⟨h1,h2⟩
   .exact Vaa
   .exact Vac _ (h.usedB b m h2)
theorem Yp.rdC_ok (h:Yp P w0 io w tmps s n) {u:Value} {x:LV} {y:V} (hu:LvR w n u x) (hx:Jw x=true) (hr:rdC s x=some y):Rd w (λg=>g < w.heap.size) u y:=by
 unfold rdC at hr;split at hr
 .simp only[ZZd] at hr;subst hr;rw[Zcw hu];exact .emp
 .simp only[ZZd] at hr;subst hr;cases hu with|lit hs=>exact .lit hs
 .rename_i i
  obtain⟨b,hb,rfl⟩:=ZZc.1 hr;cases hu with
  | ob hU h1=>
   have hO:=h.obs i b hb;unfold ObR at hO;split at hO
   .exact hO.ow.rd λg hg=>hO.lt g hg
   .exact hO.2.mono (λ_ _ _=>rfl) (λg hg=>Va3 hg.1 h.base.base)
 .cases hr
theorem Zzq {x:LV} {y:V} (hr:rdC s x=some y):Jw x=true:=by
 unfold rdC at hr;split at hr<;>first|rfl|cases hr
theorem Yp.rdCs_ok (h:Yp P w0 io w tmps s n):∀{xs:List LV} {ys:List V},rdCs s xs=some ys->ys.length=xs.length/\∀(j:Nat) (u:Value) (x:LV) (y:V),xs[j]?=some x->ys[j]?=some y->LvR w n u x->Rd w (λg=>g < w.heap.size) u y:=by
 intro xs
 induction xs with
 | nil=>
  intro ys hr;simp only[rdCs,ZZd] at hr;subst hr;exact⟨rfl,λj u x y hx=>by simp at hx⟩
 | cons x xs ih=>
  intro ys hr;simp only[rdCs] at hr;obtain⟨y,h1,hr⟩:=ZZb.1 hr;obtain⟨zs,h2,rfl⟩:=ZZc.1 hr;obtain⟨l,e⟩:=ih h2;refine⟨by simp[l],λj u x' y' hx hy hu=>?_⟩;cases j with
  | zero=>
   have e1:x=x':=by simpa using hx
   have e2:y=y':=by simpa using hy
   subst e1;subst e2;exact h.rdC_ok hu (Zzq h1) h1
  | succ j=>exact e j u x' y' (by simpa using hx) (by simpa using hy) hu
theorem Yp.rdA_ok (h:Yp P w0 io w tmps s n) {u:Value} {x:LV} {y:V} (hu:LvR w n u x) (hr:rdA s x=some y) (ρ:Rho):En w (λg=>g < w.heap.size) ρ u y:=by
 unfold rdA at hr;split at hr
 .rename_i cs
  obtain⟨ys,h1,rfl⟩:=ZZc.1 hr;cases hu with
  | @agg vs _ hl hc hr=>
   obtain⟨l,e⟩:=h.rdCs_ok h1;have key:∀(j:Nat) (y:V),ys[j]?=some y->∃v,vs[j]?=some v/\Rd w (λg=>g < w.heap.size) v y:=λj y hy=>by
    have Zs:=(ZZh.1 hy).1;have hv:vs[j]?=some vs[j]:=Vah (by omega);have hx:cs[j]?=some (cs[j]'(by omega)):=Vab (by omega);exact⟨_,hv,e j _ _ y hx hy (hr j _ _ hv hx)⟩
   refine .agg (by omega) (λy hy=>?_) (λj v y hv hy=>?_)
   .obtain⟨j,hj⟩:=Va2 hy
    obtain⟨v,_,h2⟩:=key j y hj;exact h2.cellish
   .obtain⟨v',h1,h2⟩:=key j y hy
    rw[hv] at h1;injection h1 with h1;subst h1;exact h2.en
 .exact (h.rdC_ok hu (Zzq hr) hr).en
theorem Znk {ms:List Zx} (h:Zf4 ms=true):ms.headD .rd=.rd/\Zf4 ms.tail=true:=by
 cases ms with
 | nil=>exact⟨rfl,rfl⟩
 | cons m ms=>
  simp only[Zf4,Vbc,ZZg,beq_iff_eq] at h;exact⟨h.1,h.2⟩
theorem Yp.rdAs_ok (h:Yp P w0 io w a.tmps s n) {top:Nat->Prop}:∀{xs:List Operand} {ys:List V} {ms:List Zx},Zf4 ms=true->rdAs s (xs.map (Ev.opL s))=some ys->Zfh P w (λg=>g < w.heap.size) top ms (xs.map a.eval) ys []:=by
 intro xs
 induction xs with
 | nil=>
  intro ys ms _ hr;simp only[Vbw,rdAs,ZZd] at hr;subst hr;exact .nil
 | cons x xs ih=>
  intro ys ms hm hr;simp only[Vau,rdAs] at hr;obtain⟨y,h1,hr⟩:=ZZb.1 hr;obtain⟨zs,h2,rfl⟩:=ZZc.1 hr;obtain⟨hm1,hm2⟩:=Znk hm;have:=Zfh.cons (P:=P) (w:=w) (ok:=λg=>g < w.heap.size) (top:=top) (ms:=ms) (u:=a.eval x) (x:=y) (f1:=[]) (by rw[hm1];exact⟨λρ=>h.rdA_ok (h.opL x) h1 ρ,rfl⟩) (ih hm2 h2);exact this
end
def Tk (P:Program) (w:World) (d k:Nat) (l:List LO) (fp:List Nat) (R:Nm->Prop):Prop:=
 ∃W:List (Value×List Nat),W.length=l.length/\(∀(j:Nat) (o:LO) (p:Value×List Nat),l[j]?=some o->W[j]?=some p->o.own=true/\OwZ w o.sz o.el p.1 o.rows p.2)/\fp=(W.map (·.2)).flatten/\
  ∀n':Nm,d∈n'.U->k+l.length<=1000->(∀(j:Nat) (p:Value×List Nat),W[j]?=some p->n'.us (1000*d+(k+j))=p.1)->R n'
section
variable {P:Program} {M:Z7} {w0:World} {io:Nat->Prop} {w w':World} {a:Act} {tmps:Array Value} {s s':LS} {n n':Nm} {o:Oper} {v:LV} {p:LPt} {d k:Nat} {l l1 l2:List LO} {fp f1 f2:List Nat} {R R1 R2:Nm->Prop} {okv top:Nat->Prop}
theorem Tk.nil (h:∀n',R n'):Tk P w d k [] [] R:=⟨[],rfl,λj o p hj=>by simp at hj,rfl,λn' _ _ _=>h n'⟩
theorem Tk.mono (h:Tk P w d k l fp R1) (hR:∀n',R1 n'->R2 n'):Tk P w d k l fp R2:=by
 obtain⟨W,h1,h2,h3,h4⟩:=h;exact⟨W,h1,h2,h3,λn' a b c=>hR n' (h4 n' a b c)⟩
theorem Tk.app (h1:Tk P w d k l1 f1 R1) (h2:Tk P w d (k+l1.length) l2 f2 R2):Tk P w d k (l1++l2) (f1++f2) (λn'=>R1 n'/\R2 n'):=by
 obtain⟨W1,a1,a2,a3,a4⟩:=h1;obtain⟨W2,b1,b2,b3,b4⟩:=h2;refine⟨W1++W2,by simp[a1,b1],λj o p hl hW=>?_,by rw[a3,b3];simp,λn' hd hk hn=>⟨a4 n' hd (by simp at hk;omega) (λj p hj=>hn j p ?_),b4 n' hd (by simp at hk;omega) (λj p hj=>?_)⟩⟩
 .by_cases hj:j < l1.length
  .rw[Vam hj] at hl
   rw[Vam (by omega)] at hW;exact a2 j o p hl hW
  .rw[Vaj (by omega)] at hl
   rw[Vaj (by omega),a1] at hW;exact b2 _ o p hl hW
 .rw[Vam (ZZh.1 hj).1];exact hj
 .have:=hn (l1.length+j) p (by rw[Vaj (by omega),a1,Vbq];exact hj)
  rw[<-Nat.add_assoc k] at this;exact this
theorem Z6j {u:Value} {x:V} {y:LV} (h:Giv P w okv top u x fp) (ht:tkC P d k x=some (y,l)):Tk P w d k l fp (λn'=>Jw y=true/\∀w',LvR w' n' u y):=by
 unfold tkC at ht;split at ht
 .simp only[ZZd,ZZe] at ht
  obtain⟨rfl,rfl⟩:=ht;cases h with
  | lit hs=>exact .nil λn'=>⟨rfl,λw'=>.lit hs⟩
 .rename_i e rows
  simp only[ZZd,ZZe] at ht;obtain⟨rfl,rfl⟩:=ht;cases h with
  | own hO hg=>
   refine⟨[(u,fp)],rfl,λj o p hl hW=>?_,by simp,λn' hd hk hn=>⟨rfl,λw'=>?_⟩⟩
   .cases j with
    | zero=>
     simp only[Vbd,ZZd] at hl hW;subst hl;subst hW;exact⟨rfl,hO⟩
    | succ j=>simp at hl
   .have h1:=hn 0 (u,fp) rfl
    simp only[Va5] at h1;have hdiv:(1000*d+k) / 1000=d:=by simp at hk;omega
    have:=LvR.ob (w:=w') (n:=n') (i:=1000*d+k) (by rw[hdiv];exact hd) (by rw[h1];exact (OwT.z hO).one);rw[h1] at this;exact this
 .cases ht
theorem Z9g {us:List Value} {xs:List V} (h:Zbq P w okv top us xs fp):∀{k:Nat} {ys:List LV} {l:List LO},tkCs P d k xs=some (ys,l)->ys.length=xs.length/\Tk P w d k l fp (λn'=>∀(j:Nat) (u:Value) (y:LV),us[j]?=some u->ys[j]?=some y->Jw y=true/\∀w',LvR w' n' u y):=by
 induction h with
 | nil=>
  intro k ys l ht;simp only[tkCs,ZZd,ZZe] at ht;obtain⟨rfl,rfl⟩:=ht;exact⟨rfl,.nil λn' j u y hj=>by simp at hj⟩
 | cons hx _ ih=>
  intro k ys l ht;simp only[tkCs] at ht;obtain⟨⟨y,l1⟩,h1,ht⟩:=ZZb.1 ht;obtain⟨⟨zs,l2⟩,h2,ht⟩:=ZZc.1 ht;simp only[ZZe] at ht;obtain⟨rfl,rfl⟩:=ht;obtain⟨a,b⟩:=ih h2;refine⟨by simp[a],((Z6j hx h1).app b).mono λn' hR j u y' hu hy=>?_⟩;cases j with
  | zero=>
   simp only[Vbd,ZZd] at hu hy;subst hu;subst hy;exact hR.1
  | succ j=>exact hR.2 j u y' (by simpa using hu) (by simpa using hy)
theorem Z6n {u:Value} {x:V} {y:LV} (h:Qw P w okv top u x fp) (ht:tkO P d k x=some (y,l)):Tk P w d k l fp (λn'=>∀w',LvR w' n' u y):=by
 unfold tkO at ht;split at ht
 .rename_i cs
  obtain⟨⟨ys,l1⟩,h1,ht⟩:=ZZc.1 ht;simp only[ZZe] at ht;obtain⟨rfl,rfl⟩:=ht;obtain⟨us,rfl,hL⟩:=h;obtain⟨a,b⟩:=Z9g hL h1;have Z3:=hL.length;refine b.mono λn' hR w'=>.agg (by simp at Z3;omega) (λy hy=>?_) (λj u y hu hy=>(hR j u y (by simpa using hu) hy).2 w');obtain⟨j,hj⟩:=Va2 hy;have Zs:=(ZZh.1 hj).1;have hu:us.toList[j]?=some us[j]!:=by
   rw[Vab (by omega)];simp[getElem!_def,show j < us.size by simp at Z3;omega]
  exact (hR j _ y hu hj).1
 .rename_i hx
  have h':Giv P w okv top u x fp:=by
   unfold Qw at h;split at h
   .exact absurd rfl (hx _)
   .rename_i cs;simp[tkC] at ht
   .exact h
  exact (Z6j h' ht).mono λn' hR=>hR.2
theorem Z86 {us:List Value} {xs:List V} (h:Ji P w okv top us xs fp):∀{k:Nat} {ys:List LV} {l:List LO},tkOs P d k xs=some (ys,l)->ys.length=xs.length/\Tk P w d k l fp (λn'=>∀(j:Nat) (u:Value) (y:LV),us[j]?=some u->ys[j]?=some y->∀w',LvR w' n' u y):=by
 induction h with
 | nil=>
  intro k ys l ht;simp only[tkOs,ZZd,ZZe] at ht;obtain⟨rfl,rfl⟩:=ht;exact⟨rfl,.nil λn' j u y hj=>by simp at hj⟩
 | cons hx _ ih=>
  intro k ys l ht;simp only[tkOs] at ht;obtain⟨⟨y,l1⟩,h1,ht⟩:=ZZb.1 ht;obtain⟨⟨zs,l2⟩,h2,ht⟩:=ZZc.1 ht;simp only[ZZe] at ht;obtain⟨rfl,rfl⟩:=ht;obtain⟨a,b⟩:=ih h2;refine⟨by simp[a],((Z6n hx h1).app b).mono λn' hR j u y' hu hy=>?_⟩;cases j with
  | zero=>
   simp only[Vbd,ZZd] at hu hy;subst hu;subst hy;exact hR.1
  | succ j=>exact hR.2 j u y' (by simpa using hu) (by simpa using hy)
theorem tkR_ok {u:Value} {x:V} {y:LV} (h:Zbo P w okv top u x fp) (ht:tkR P d x=some (y,l)):Tk P w d 0 l fp (λn'=>∀w',LvR w' n' u y):=by
 unfold tkR at ht;split at ht
 .obtain⟨⟨ys,l1⟩,h1,ht⟩:=ZZc.1 ht
  simp only[ZZe] at ht;obtain⟨rfl,rfl⟩:=ht;obtain⟨us,rfl,hL⟩:=h;obtain⟨a,b⟩:=Z86 hL h1;have Z3:=hL.length;exact b.mono λn' hR w'=>.tup (by simp at Z3;omega) (λj u y hu hy=>hR j u y (by simpa using hu) hy w')
 .rename_i hx
  have h':Qw P w okv top u x fp:=by
   unfold Zbo at h;split at h
   .exact absurd rfl (hx _)
   .exact h
  exact Z6n h' ht
theorem Zmt {i:Nat} {b:LO} (h:Zb4 d l i=some b):i / 1000=d/\l[i % 1000]?=some b:=by
 unfold Zb4 at h;split at h
 .exact⟨by assumption,h⟩
 .cases h
theorem Zrt {W:List (Value×List Nat)} {j:Nat} {p:Value×List Nat} (h:W[j]?=some p):∀g∈p.2,g∈(W.map (·.2)).flatten:=λg hg=>
 Vbs.2 ⟨p.2,Va4.2 ⟨p,Vag h,rfl⟩,hg⟩
theorem Z35 {W:List (Value×List Nat)} (h:(W.map (·.2)).flatten.Nodup) {i j:Nat} {p q:Value×List Nat} (hi:W[i]?=some p) (hj:W[j]?=some q) (Zp:i≠j):∀g∈p.2,g ∉ q.2:=by
 induction W generalizing i j with
 | nil=>simp at hi
 | cons x W ih=>
  simp only[Vau,Vax] at h;obtain⟨h1,h2,h3⟩:=Vat.1 h;cases i with
  | zero=>
   cases j with
   | zero=>exact absurd rfl Zp
   | succ j=>
    simp only[Vbd,ZZd] at hi;subst hi;exactλg hg hq=>h3 g hg g (Zrt (by simpa using hj) g hq) rfl
  | succ i=>
   cases j with
   | zero=>
    simp only[Vbd,ZZd] at hj;subst hj;exactλg hg hq=>h3 g hq g (Zrt (by simpa using hi) g hg) rfl
   | succ j=>exact ih h2 (by simpa using hi) (by simpa using hj) (by omega)
theorem Z5p {W:List (Value×List Nat)} (h:(W.map (·.2)).flatten.Nodup) {i:Nat} {p:Value×List Nat} (hi:W[i]?=some p):p.2.Nodup:=by
 induction W generalizing i with
 | nil=>simp at hi
 | cons x W ih=>
  simp only[Vau,Vax] at h;obtain⟨h1,h2,h3⟩:=Vat.1 h;cases i with
  | zero=>
   simp only[Vbd,ZZd] at hi;subst hi;exact h1
  | succ i=>exact ih h2 (by simpa using hi)
theorem Yp.take (h:Yp P w0 io w tmps s n) (hd:d ∉ n.U) (ht:Tk P w d 0 l fp R) (hl:l.length<=1000) (hn:fp.Nodup) (hf:∀g∈fp,g < w.heap.size/\w0.heap.size<=g/\(∀i,g ∉ n.fps i)/\∀b m,s.bk b=some m->n.bs b≠g):
  ∃n',n.Ext n'/\(∀x∈n'.U,x∈n.U\/x=d)/\R n'/\∀used,(∀x∈n'.U,x∈used)->Yp P w0 io w tmps (s.add ⟨no1,no1,Zb4 d l⟩ used) n':=by
 obtain⟨W,hW,hO,rfl,hR⟩:=ht
 let new:Nat->Option (Value×List Nat):=λi=>if i / 1000=d then W[i % 1000]? else none
 let n':Nm:=⟨λi=>((new i).map (·.1)).getD (n.us i),λi=>((new i).map (·.2)).getD (n.fps i),n.bs,d::n.U⟩
 have Z0:∀i p,new i=some p->i / 1000=d/\W[i % 1000]?=some p:=λi p hi=>by
  simp only[new] at hi;split at hi
  .exact⟨by assumption,hi⟩
  .cases hi
 have Zed:∀i,i / 1000∈n.U->new i=none:=λi hi=>by
  simp only[new];exact ZZi (show ¬i / 1000=d fromλe=>hd (e▸hi))
 have Kz:∀i,new i=none->n'.us i=n.us i/\n'.fps i=n.fps i:=λi hi=>by simp only[n',hi,Vcy,Vb7,and_self]
 have Z0c:∀i p,new i=some p->n'.us i=p.1/\n'.fps i=p.2:=λi p hi=>by simp only[n',hi,Vav,Va0,and_self]
 have he:n.Ext n':=⟨λi hi=>(Kz i (Zed i hi)).1,λi hi=>(Kz i (Zed i hi)).2,λ_ _=>rfl,λx hx=>Vac _ hx⟩;have hobs:∀i,(s.add ⟨no1,no1,Zb4 d l⟩ []).ob i=(Zb4 d l i).or (s.ob i):=λi=>rfl;have hnl:∀i,new i=none↔Zb4 d l i=none:=λi=>by
  simp only[new,Zb4];split
  .rw[Vcz,Vcz,hW]
  .simp
 have Za5:∀i p,new i=some p->∀g∈p.2,g∈(W.map (·.2)).flatten:=λi p hi g hg=>Zrt (Z0 i p hi).2 g hg;have Z4s:∀i g,g∈n'.fps i->(∃p,new i=some p/\g∈p.2)\/(new i=none/\g∈n.fps i):=λi g hg=>by
  cases hi:new i with
  | none=>rw[(Kz i hi).2] at hg;exact .inr ⟨rfl,hg⟩
  | some p=>rw[(Z0c i p hi).2] at hg;exact .inl ⟨p,rfl,hg⟩
 refine⟨n',he,λx hx=>by rcases Vap.1 hx with h|h;exact .inr h;exact .inl h,hR n' Vaa (by omega) (λj p hj=>?_),λused hu=>?_⟩
 .have Zs:=(ZZh.1 hj).1
  have hi:new (1000*d+(0+j))=some p:=by
   simp only[new];rw[ZZj (by omega),show (1000*d+(0+j)) % 1000=j by omega];exact hj
  exact (Z0c _ p hi).1
 .refine {env:=λt v hv=>(h.env t v hv).grow he (λ_ _=>rfl),out:=h.out,obs:=λi b hb=>?_,noO:=λi hi=>?_,noB:=h.noB,box:=λb m hb=>(h.box b m hb).ext he (h.usedB b m hb),mineO:=λi g hg=>?_,mineB:=h.mineB,apO:=λi j Zp g hg Zm=>?_,once:=λi=>?_,apB:=h.apB,apOB:=λi b m hb hg=>?_,usedO:=λi b hb=>?_,usedB:=λb m hb=>Vac _ (h.usedB b m hb),used:=hu,left:=h.left,base:=h.base}
  .have Zn:(Zb4 d l i).or (s.ob i)=some b:=hb
   cases hi:new i with
   | none=>
    rw[(hnl i).1 hi,Vcs] at Zn;rw[(Kz i hi).1,(Kz i hi).2];exact h.obs i b Zn
   | some p=>
    obtain⟨h1,h2⟩:=Z0 i p hi;rw[(Z0c i p hi).1,(Z0c i p hi).2];cases hob:Zb4 d l i with
    | none=>rw[(hnl i).2 hob] at hi;cases hi
    | some b'=>
     rw[hob,Option.some_or] at Zn;injection Zn with Zn;subst Zn;obtain⟨h3,h4⟩:=hO _ _ _ (Zmt hob).2 h2;unfold ObR;rw[h3];exact h4
  .have Yu:(Zb4 d l i).or (s.ob i)=none:=hi
   rw[Option.or_eq_none_iff] at Yu;rw[(Kz i ((hnl i).2 Yu.1)).2];exact h.noO i Yu.2
  .rcases Z4s i g hg with⟨p,h1,h2⟩|⟨_,h2⟩
   .have:=hf g (Za5 i p h1 g h2)
    exact⟨.inr this.2.1,this.1⟩
   .exact h.mineO i g h2
  .rcases Z4s i g hg with⟨p,h1,h2⟩|⟨_,h2⟩<;>rcases Z4s j g Zm with⟨q,h3,h4⟩|⟨_,h4⟩
   .obtain⟨a1,a2⟩:=Z0 i p h1
    obtain⟨b1,b2⟩:=Z0 j q h3;exact Z35 hn a2 b2 (by omega) g h2 h4
   .exact (hf g (Za5 i p h1 g h2)).2.2.1 j h4
   .exact (hf g (Za5 j q h3 g h4)).2.2.1 i h2
   .exact h.apO i j Zp g h2 h4
  .cases hi:new i with
   | none=>rw[(Kz i hi).2];exact h.once i
   | some p=>rw[(Z0c i p hi).2];exact Z5p hn (Z0 i p hi).2
  .rcases Z4s i _ hg with⟨p,h1,h2⟩|⟨_,h2⟩
   .exact (hf _ (Za5 i p h1 _ h2)).2.2.2 b m hb rfl
   .exact h.apOB i b m hb h2
  .have Zn:(Zb4 d l i).or (s.ob i)=some b:=hb
   cases hob:Zb4 d l i with
   | some b'=>rw[(Zmt hob).1];exact Vaa
   | none=>rw[hob,Vcs] at Zn;exact Vac _ (h.usedO i b Zn)
theorem LS.add_no (used:List Nat):s.add .no used=⟨s.env,s.ob,s.bk,s.bx,used⟩:=by
 simp only[LS.add,LPt.no,no1,Vcs,Vb7]
theorem LOp.ok (hP:Z2 P) (h:Yp P w0 io w a.tmps s n) (hop:LOp P M s o v p) (hf:Wb o=true->∀d,o.dst=some d->d ∉ n.U):OpW P o a w (LPost P w0 io a.tmps s n o v p):=by
 cases hop with
 | look hl=>
  obtain⟨u,hr,hv⟩:=hl.ok h;refine (OpR.value hr ⟨n,.refl n,λd hd=>.inl hd,hv,λused hu=>?_⟩).toW;rw[LS.add_no];exact {h with used:=hu}
 | @alloc t z d ho hz hd=>
  unfold Kq at hz;obtain⟨zv,hzv,hz⟩:=ZZb.1 hz;obtain⟨ti,Qi,hz0⟩:=ZZb.1 hzv;split at hz
  .simp only[ZZd] at hz
   subst hz;have hr:(execOp a.eval o).run P w=.ok (.value (.pointer (some ⟨w.heap.size,0,none⟩))) (w.alloc (.cells zv.cells t)):=by
    simp[execOp,ho,Instr.alloc,zeroValue,typeInfo,Qi,hz0,newVar,newRow]
   obtain⟨n',h1,h2,h3,h4⟩:=h.newBox (hf (by simp[Wb,ho]) d hd) (us:=zv.cells) (e:=t) (bx:=no1) (.inl rfl);refine (OpR.value hr ⟨n',h1,λx hx=>(h2 x hx).imp (λh=>h) (λe=>⟨by rw[e];exact hd,by simp[Wb,ho]⟩),h3,λused hu=>?_⟩).toW;have:=h4 used hu;rw[show (zv.cells.toList.map V.lit).length=zv.cells.size by simp];exact this
  .cases hz
 | @box t x cs d ho hc hd=>
  obtain⟨c1,c2⟩:=Zvy (h.opL x) hc;have hr:(execOp a.eval o).run P w=.ok (.value (.pointer (some ⟨w.heap.size,0,none⟩))) (w.alloc (.cells (a.eval x).cells t)):=by
   simp[execOp,ho,Instr.box,newVar,newRow]
  obtain⟨n',h1,h2,h3,h4⟩:=h.newBox (hf (by simp[Wb,ho]) d hd) (us:=(a.eval x).cells) (e:=t) (bx:=at1 d cs) (.inr ⟨cs,rfl,c1,c2⟩);refine (OpR.value hr ⟨n',h1,λx hx=>(h2 x hx).imp (λh=>h) (λe=>⟨by rw[e];exact hd,by simp[Wb,ho]⟩),h3,λused hu=>?_⟩).toW;have:=h4 used hu;rw[c1] at this;exact this
 | @store t x y b cs ho hx hb hc hl hz=>
  have hx':=h.opL x;rw[hx] at hx';generalize hq:a.eval x=q at hx';cases hx' with
  | bp hU=>
   obtain⟨c1,c2⟩:=Zvy (h.opL y) hc;obtain⟨cur,e,hg,Yx,_⟩:=h.box b _ hb;have Z8:=Zi2 (P:=P) (a:=a) (w:=w) ho hq (by rw[c1,hl]) hz hg (by omega) (λu hu=>by
    obtain⟨m,hm⟩:=Va2 hu;have hm':(a.eval y).cells[m]?=some u:=by simpa using hm
    have Zs:m < cs.length:=by have:=(Van.1 hm').1;omega
    obtain⟨a1,a2⟩:=c2 m u _ hm' (Vab Zs);exact a2.one a1)
   have Z0:(cur.toList.take 0++(a.eval y).cells.toList++cur.toList.drop (0+(a.eval y).cells.toList.length)).toArray=(a.eval y).cells:=by
    rw[List.drop_of_length_le (by simp;omega)];simp
   rw[Z0] at Z8;have hB:=h.mineB b _ hb;have Kk:∀g,g≠n.bs b->(w.setRow (n.bs b) (a.eval y).cells).heap[g]?=w.heap[g]?:=λg Zm=>setRow_other w _ g _ Zm;have hl2:Y9 w0.heap.size io w (w.setRow (n.bs b) (a.eval y).cells):=⟨rfl,rfl,rfl,by simp,λk hk _=>Kk k (by omega)⟩;refine (OpR.skip Z8 ⟨n,.refl n,λd hd=>.inl hd,.und,λused hu=>?_⟩).toW;refine {env:=λt v hv=>(h.env t v hv).frame (.refl n) (λi g m u _ Zm Ka=>?_),out:=h.out,obs:=λi o Xy=>?_,noO:=λi hi=>?_,noB:=λb' Zn=>?_,box:=λb' m Zn=>?_,mineO:=λi g Zm=>⟨(h.mineO i g Zm).1,by simpa using (h.mineO i g Zm).2⟩,mineB:=λb' m Zn=>?_,apO:=h.apO,once:=h.once,apB:=λb1 b2 m1 m2 h1 h2=>?_,apOB:=λi b' m Zn=>?_,usedO:=λi o Xy=>?_,usedB:=λb' m Zn=>?_,used:=hu,left:=h.left.trans hl2,base:=h.base.left hl2}
   .rw[Zkz (Kk g (λe=>h.apOB i b _ hb (e▸Zm)))];exact Ka
   .have ho2:s.ob i=some o:=by simpa [LS.add,no1] using Xy
    exact (h.obs i o ho2).frame h.left (h.left.trans hl2) λg Zm=>Kk g (λe=>h.apOB i b _ hb (e▸Zm))
   .exact h.noO i (by simpa [LS.add,no1] using hi)
   .have hb2:s.bk b'=none:=by simpa [LS.add,no1] using Zn
    have Zp:b'≠b:=λe=>by subst e;rw[hb] at hb2;cases hb2
    show (at1 b cs b').getD (s.bx b')=[];simp only[at1,ZZi Zp,Vb7];exact h.noB b' hb2
   .have hb2:s.bk b'=some m:=by simpa [LS.add,no1] using Zn
    show BxR _ n b' m ((at1 b cs b').getD (s.bx b'));by_cases e2:b'=b
    .subst e2
     rw[hb] at hb2;injection hb2 with hb2;subst hb2;simp only[at1,if_true,Va0];exact⟨_,e,setRow_heap w _ cur _ e (0,0) hg,c1,λ_=>⟨rfl,λk v x hv hx=>⟨(c2 k v x hv hx).1,(c2 k v x hv hx).2.cell (c2 k v x hv hx).1 (.refl n)⟩⟩⟩
    .simp only[at1,ZZi e2,Vb7]
     obtain⟨cur',e',g1,g2,g3⟩:=h.box b' m hb2;exact⟨cur',e',by rw[Kk _ (h.apB b' b _ _ hb2 hb e2)];exact g1,g2,λhn=>⟨(g3 hn).1,λk v x hv hx=>⟨((g3 hn).2 k v x hv hx).1,((g3 hn).2 k v x hv hx).2.cell ((g3 hn).2 k v x hv hx).1 (.refl n)⟩⟩⟩
   .exact h.mineB b' m (by simpa [LS.add,no1] using Zn)
   .exact h.apB b1 b2 m1 m2 (by simpa [LS.add,no1] using h1) (by simpa [LS.add,no1] using h2)
   .exact h.apOB i b' m (by simpa [LS.add,no1] using Zn)
   .exact h.usedO i o (by simpa [LS.add,no1] using Xy)
   .exact h.usedB b' m (by simpa [LS.add,no1] using Zn)
 | @call f ars ts g d xs r os _ l ho Ku ha hm hg hr hl hd=>
  have hfv:=h.opL f;rw[Ku] at hfv;generalize hq:a.eval f=q at hfv;cases hfv;obtain⟨⟨fn,h1,h2⟩,hc⟩:=hg;have hb:fn.body.isNone=false:=by cases hbb:fn.body with
   | none=>rw[hbb] at h2;cases h2
   | some c=>rfl
  have Z8:(execOp a.eval o).run P w=.ok (.enter g (ars.map a.eval)) w:=by
   have h3':¬fn.name = "runtime.NumGoroutine" := by simpa using hP.name g fn h1
   have Zn:¬fn.body=none:=λhh=>by rw[hh] at h2;cases h2
   simp[execOp,ho,resolve,hq,Deferred.ofValue,invoke,callFunc,h1,h3',Zn]
  have Zfk:=hc w (ars.map a.eval) [] (λ_=>False) (λ_=>False) (λg=>g < w.heap.size) ⟨h.base.anch.1,h.base.anch.2.1,λg hg=>hg.elim⟩ (by
   have:=h.rdAs_ok (top:=λ_=>False) hm ha;simpa using this) Vcq (λg hg=>by cases hg) (λg hg=>⟨hg,id,id⟩) (λg hg=>hg.elim)
  intro K Q hK;unfold Oper.wp;rw[Z8,Oper.upon_enter];refine Zfk.mono ?_;rintro e w'' ⟨val,rfl,hdone⟩;obtain⟨Jk,ok',top',fr,fo,Zpu,Zt6,Qd,Zva,_,_⟩:=hdone;have Zm:=h.grow Jk;obtain⟨n',q1,q2,q3,q4⟩:=Zm.take (hf (by simp[Wb,ho]) d hd) (tkR_ok (d:=d) Zpu hr) hl (Vat.1 Qd).1 (λg hg=>by
   obtain⟨a1,a2⟩:=Zva g (Vae _ hg);have hge:w.heap.size<=g:=by
    rcases a2 with a2|a2
    .cases a2
    .exact a2
   refine⟨a1,Vcf h.base.base hge,λi hi=>?_,λb m hb e=>?_⟩
   .have:=(h.mineO i g hi).2;omega
   .obtain⟨cur,e',h1,_⟩:=h.box b m hb
    have:=(Van.1 h1).1;omega)
  exact hK _ _ ⟨n',q1,λx hx=>(q2 x hx).imp (λh=>h) (λe=>⟨by rw[e];exact hd,by simp[Wb,ho]⟩),q3 w'',q4⟩
end
inductive MkA (w:World) (ts:Nat->Nat×TypeId):Nat->List Value->List V->List (List Nat)->Prop
 | nil {k:Nat}:MkA w ts k [] [] []
 | lit {k:Nat} {v:Value} {us:List Value} {xs:List V} {fps:List (List Nat)} (h:Xn v=true) (hs:MkA w ts (k+1) us xs fps):MkA w ts k (v::us) (.lit v::xs) ([]::fps)
 | ow {k:Nat} {u:Value} {rows:List (List V)} {f:List Nat} {us:List Value} {xs:List V} {fps:List (List Nat)} (h:OwZ w (ts k).1 (ts k).2 u rows f) (hs:MkA w ts (k+1) us xs fps):MkA w ts k (u::us) (.tr rows::xs) (f::fps)
def Zhm (agg:Bool) (us:List Value):Value:=if agg then .agg us.toArray else us.headD undef
def Zb8 (P:Program) (g:FuncId) (agg:Bool) (xs xs':List V) (k k':Int):Prop:=
 (∃fn,P.funcs[g]?=some fn/\fn.body.isSome=true)/\
 ∀(w:World) (us:List Value) (ts:Nat->Nat×TypeId) (fps:List (List Nat)),MkA w ts 0 us xs fps->fps.flatten.Nodup->Zj3 w (λg=>g∈fps.flatten)->
  Calls P g #[Zhm agg us,.int .i64 k] w (λe w'=>e=.returned (.int .i64 k')/\Y9 w.heap.size (λg=>g∈fps.flatten) w w'/\MkA w' ts 0 us xs' fps)
def Zh5:LV->Option (Bool×List LV)
 | .ob i=>some (false,[.ob i])
 | .agg cs=>some (true,cs)
 | _=>none
def mkX (s:LS):List LV->Option (List V)
 | []=>some []
 | .lit v::cs=>(mkX s cs).map (.lit v::·)
 | .ob i::cs=>(s.ob i).bind λb=>if b.own=true then (mkX s cs).map (.tr b.rows::·) else none
 | _::_=>none
def Zdj (f:Nat->Option LO):List LV->List V->Nat->Option LO
 | .ob i::cs,.tr r::xs=>upd (Zdj f cs xs) i ((f i).map λb=>⟨b.own,b.sz,b.el,r⟩)
 | _::cs,_::xs=>Zdj f cs xs
 | _,_=>f
def Qr:List LV->List Nat
 | []=>[]
 | .ob i::cs=>i::Qr cs
 | _::cs=>Qr cs
def Zkx:List V->List V->Bool
 | [],[]=>true
 | .lit _::xs,.lit _::ys=>Zkx xs ys
 | .tr _::xs,.tr _::ys=>Zkx xs ys
 | _,_=>false
def Zoc (s:LS) (i:Nat):Nat×TypeId:=((s.ob i).map λb=>(b.sz,b.el)).getD (0,0)
def tsOf (s:LS) (cs:List LV):Nat->Nat×TypeId:=λj=>match cs[j]? with|some (.ob i)=>Zoc s i|_=>(0,0)
def fpC (n:Nm):LV->List Nat
 | .ob i=>n.fps i
 | _=>[]
def Ze5:LV->LV
 | .nc ..=>.und
 | .tup _=>.und
 | x=>x
inductive Zrj (P:Program) (s:LS) (o:Oper):LV->LS->Prop
 | store {t:TypeId} {x y:Operand} {i j m:Nat} {b:LO} {row:List V} {u u0:Value} {R:List (List V)} (ho:o.op=.store t x y) (hx:opL s x=.op i j m row.length) (hb:s.ob i=some b) (Zo:b.own=true) (hj:b.rows[j]?=some row) (hm:row[m]?=some (.lit u0)) (hy:opL s y=.lit u) (h1:Zi P t=1)
   (hR:b.rows.set j (row.set m (.lit u))=R):Zrj P s o .und ⟨λt=>Ze5 (s.env t),upd s.ob i (some ⟨true,b.sz,b.el,R⟩),s.bk,s.bx,s.used⟩
 | mark {f x y:Operand} {ts:Array TypeId} {g:FuncId} {agg:Bool} {cs:List LV} {xs xs':List V} {k k':Int} (ho:o.op=.call {callee:=.value f,args:=#[x,y],argTypes:=ts}) (hf:opL s f=.fn g) (hx:Zh5 (opL s x)=some (agg,cs)) (hX:mkX s cs=some xs) (hn:(Qr cs).Nodup) (hs:Zkx xs xs'=true) (hy:opL s y=.lit (.int .i64 k))
   (hM:Zb8 P g agg xs xs' k k'):Zrj P s o (.lit (.int .i64 k')) ⟨λt=>Ze5 (s.env t),Zdj s.ob cs xs',s.bk,s.bx,s.used⟩
 | markN {f x y:Operand} {ts:Array TypeId} {g:FuncId} {i j m:Nat} {b:LO} {row:List V} {r r':List (List V)} {R:List (List V)} {k k':Int} (ho:o.op=.call {callee:=.value f,args:=#[x,y],argTypes:=ts}) (hf:opL s f=.fn g) (hx:opL s x=.nc i j m row.length) (hb:s.ob i=some b) (Zo:b.own=true) (hj:b.rows[j]?=some row) (hm:row[m]?=some (.tr r)) (hy:opL s y=.lit (.int .i64 k))
   (hM:Zb8 P g false [.tr r] [.tr r'] k k') (hR:b.rows.set j (row.set m (.tr r'))=R):Zrj P s o (.lit (.int .i64 k')) ⟨λt=>Ze5 (s.env t),upd s.ob i (some ⟨true,b.sz,b.el,R⟩),s.bk,s.bx,s.used⟩
section
variable {P:Program} {M:Z7} {w0:World} {io:Nat->Prop} {w w':World} {a:Act} {tmps:Array Value} {s s':LS} {n n':Nm} {o:Oper} {v:LV}
theorem LvR.kill {u:Value} {x:LV} (h:LvR w n u x):LvR w' n u (Ze5 x):=by
 cases h with
 | und=>exact .und
 | lit h=>exact .lit h
 | ob hU h=>exact .ob hU h
 | nc=>exact .und
 | agg hl hc hr=>exact .agg hl hc λk v x hv hx=>(hr k v x hv hx).cell (hc x (Vag hx)) (.refl n)
 | tup=>exact .und
 | bp hU=>exact .bp hU
 | op hU h=>exact .op hU h
 | fn=>exact .fn
theorem Yp.write (h:Yp P w0 io w tmps s n) (I S:Nat->Prop) (hS:∀g,S g->∃i,I i/\g∈n.fps i) (hl:Y9 w.heap.size S w w') {ob':Nat->Option LO} (hI:∀i b,ob' i=some b->(I i/\(∃b,s.ob i=some b)/\ObR P w0 io w' b (n.us i) (n.fps i))\/(¬I i/\s.ob i=some b))
  (Kt:∀i,ob' i=none->s.ob i=none):Yp P w0 io w' tmps ⟨λt=>Ze5 (s.env t),ob',s.bk,s.bx,s.used⟩ n:=by
 have Zj0:∀g,g < w.heap.size->¬S g->w'.heap[g]?=w.heap[g]?:=λg hg hs=>hl.block g hg hs;have hl2:Y9 w0.heap.size io w w':=⟨hl.os,hl.tape,hl.output,hl.size,λk hk hio=>Zj0 k (Va3 hk h.base.base) λhs=>by
  obtain⟨i,_,hg⟩:=hS k hs;rcases (h.mineO i k hg).1 with h1|h1
  .exact hio h1
  .omega⟩
 have Zhq:∀i b,ob' i=some b->∃b,s.ob i=some b:=λi b hb=>by
  rcases hI i b hb with⟨_,h1,_⟩|⟨_,h1⟩
  .exact h1
  .exact⟨b,h1⟩
 refine {env:=λt v hv=>(h.env t v hv).kill,out:=λt ht=>by simp only;rw[h.out t ht];rfl,obs:=λi b hb=>?_,noO:=λi hi=>h.noO i (Kt i hi),noB:=h.noB,box:=λb m hb=>?_,mineO:=λi g hg=>⟨(h.mineO i g hg).1,Va3 (h.mineO i g hg).2 hl.size⟩,mineB:=h.mineB,apO:=h.apO,once:=h.once,apB:=h.apB,apOB:=h.apOB,usedO:=λi b hb=>?_,usedB:=h.usedB,used:=h.used,left:=h.left.trans hl2,base:=h.base.left hl2}
 .rcases hI i b hb with⟨_,_,h1⟩|⟨hn,h1⟩
  .exact h1
  .refine (h.obs i b h1).frame h.left (h.left.trans hl2) λg hg=>Zj0 g (h.mineO i g hg).2 λhs=>?_
   obtain⟨j,hj,hgj⟩:=hS g hs;exact h.apO i j (λe=>hn (e▸hj)) g hg hgj
 .obtain⟨cur,e,h1,h2,h3⟩:=h.box b m hb
  have hq:¬S (n.bs b):=λhs=>by
   obtain⟨j,_,hgj⟩:=hS _ hs;exact h.apOB j b m hb hgj
  exact⟨cur,e,by rw[Zj0 _ (Van.1 h1).1 hq];exact h1,h2,λhn=>⟨(h3 hn).1,λk v x hv hx=>⟨((h3 hn).2 k v x hv hx).1,((h3 hn).2 k v x hv hx).2.cell ((h3 hn).2 k v x hv hx).1 (.refl n)⟩⟩⟩
 .obtain⟨b',Zn⟩:=Zhq i b hb
  exact h.usedO i b' Zn
theorem Zza {α:Type} {sz:Nat}:∀{rows:List (List α)} {j m:Nat} {row:List α} {x:α},(∀r∈rows,r.length=sz)->rows[j]?=some row->m < row.length->(rows.set j (row.set m x)).flatten=rows.flatten.set (j*sz+m) x:=by
 intro rows
 induction rows with
 | nil=>intro j m row x _ hj;simp at hj
 | cons r rs ih=>
  intro j m row x hu hj hm;have hr:r.length=sz:=hu r Vaa;cases j with
  | zero=>
   have e:r=row:=by simpa using hj
   subst e;simp only[List.set_cons_zero,Vax,Vdb,Vbk];rw[List.set_append_left _ _ hm]
  | succ j=>
   simp only[List.set_cons_succ,Vax];rw[ih (λr hr=>hu r (Vac _ hr)) (by simpa using hj) hm,List.set_append_right _ _ (by rw[hr,Vbu];omega)]
   congr 2
   rw[hr,Vbu];omega
theorem Z09 {α:Type} {sz:Nat} {rows:List (List α)} {j m:Nat} {row:List α} {x:α} (hu:∀r∈rows,r.length=sz) (hj:rows[j]?=some row):∀r∈rows.set j (row.set m x),r.length=sz:=λr hr=>by
 rcases Vdu hr with h|rfl
 .exact hu r h
 .rw[Vcw];exact hu row (Vag hj)
theorem OwL.split1 {vs:List Value} {xs:List V} {fp:List Nat} (h:OwL w vs xs fp):∀{k:Nat} {x:V},xs[k]?=some x->∃y f f1 f2,vs[k]?=some y/\Ow w y x f/\fp=f1++(f++f2)/\
  ∀(w':World) (y':Value) (x':V),(∀g∈f1++f2,w'.heap[g]?=w.heap[g]?)->Ow w' y' x' f->OwL w' (vs.set k y') (xs.set k x') fp:=by
 induction xs generalizing vs fp with
 | nil=>intro k x hk;simp at hk
 | cons z zs ih=>
  intro k x hk;cases h with
  | @cons v _ vs _ g1 g2 h hs=>
   cases k with
   | zero=>
    have e:z=x:=by simpa using hk
    subst e;refine⟨v,g1,[],g2,rfl,h,rfl,λw' y' x' hw hy=>?_⟩;exact .cons hy (hs.frame λg hg=>hw g (by simpa using hg))
   | succ k=>
    obtain⟨y,f,f1,f2,a1,a2,rfl,a4⟩:=ih hs (by simpa using hk);refine⟨y,f,g1++f1,f2,by simpa using a1,a2,by simp,λw' y' x' hw hy=>?_⟩;exact .cons (h.frame λg hg=>hw g (by simp[hg])) (a4 w' y' x' (λg hg=>hw g (by
     rcases Vak.1 hg with h|h<;>simp[h])) hy)
theorem OwZ.split {sz:Nat} {e:TypeId} {u:Value} {rows:List (List V)} {fp:List Nat} (h:OwZ w sz e u rows fp) {j m:Nat} {row:List V} {x:V} (hj:rows[j]?=some row) (hm:row[m]?=some x):
  ∃g q c cur y f f1 f2,u=.slice (some ⟨g,q,none⟩) rows.length c/\w.heap[g]?=some (.cells cur e (0,0))/\fp=g::(f1++(f++f2))/\cur[q+j*row.length+m]?=some y/\Ow w y x f/\
   ∀(w':World) (y':Value) (x':V),(∀k∈f1++f2,w'.heap[k]?=w.heap[k]?)->w'.heap[g]?=some (.cells (cur.setIfInBounds (q+j*row.length+m) y') e (0,0))->Ow w' y' x' f->OwZ w' sz e u (rows.set j (row.set m x')) fp:=by
 obtain⟨g,q,c,cur,fp',h1,h2,h3,h4,h5,h6,h7,h8⟩:=h.top (λe=>by rw[e] at hj;simp at hj);have Ks:=h5 row (Vag hj);have hk:=K9 h5 hj hm;obtain⟨y,f,f1,f2,a1,a2,a3,a4⟩:=h7.split1 hk;have hml:=(ZZh.1 hm).1;have hc:cur[q+j*row.length+m]?=some y:=by
  rw[Ks,Nat.add_assoc];rw[Val] at a1;split at a1
  .simpa using a1
  .cases a1
 refine⟨g,q,c,cur,y,f,f1,f2,h1,h2,by rw[h8,a3],hc,a2,λw' y' x' hw hg hy=>.inr ⟨g,q,c,cur.setIfInBounds (q+j*row.length+m) y',fp',by rw[Vcw];exact h1,hg,by rw[Vcw];exact h3,h4,Z09 h5 hj,by simpa using h6,?_,h8⟩⟩;have:=a4 w' y' x' hw hy;rw[Zza h5 hj hml,Vcw];have e1:((cur.setIfInBounds (q+j*row.length+m) y').toList.drop q).take (rows.length*sz)=((cur.toList.drop q).take (rows.length*sz)).set (j*sz+m) y':=by
  rw[Vdr,List.drop_set,ZZi (by omega),List.take_set,Ks]
  congr 1
  omega
 rw[e1];exact this
theorem Zx0 {u:Value} (h:Xn u=true):u.cells=#[u]:=by cases u<;>simp_all [Xn,Value.cells]
theorem lit_sc {u v:Value} (h:LvR w n u (.lit v)):Xn v=true:=by cases h with|lit h=>exact h
theorem Z6p (h:Yp P w0 io w a.tmps s n) {t:TypeId} {x y:Operand} {i j m:Nat} {b:LO} {row:List V} {u u0:Value} {R:List (List V)} (ho:o.op=.store t x y) (hx:Ev.opL s x=.op i j m row.length) (hb:s.ob i=some b) (Zo:b.own=true) (hj:b.rows[j]?=some row) (hm:row[m]?=some (.lit u0)) (hy:Ev.opL s y=.lit u) (h1:Zi P t=1)
  (hR:b.rows.set j (row.set m (.lit u))=R):OpW P o a w (λval w'=>LvR w' n val .und/\Yp P w0 io w' a.tmps ⟨λt=>Ze5 (s.env t),upd s.ob i (some ⟨true,b.sz,b.el,R⟩),s.bk,s.bx,s.used⟩ n):=by
 have hyv:=h.opL y;rw[hy] at hyv;have hu:Xn u=true:=lit_sc hyv;have hye:=Zcw hyv;have hxv:=h.opL x;rw[hx] at hxv;generalize hq:a.eval x=qv at hxv;cases hxv with
 | @op _ _ _ _ g q nn c hU hi=>
  have hO:=h.obs i b hb;unfold ObR at hO;rw[Zo] at hO;obtain⟨g2,q2,c2,cur,yv,f,f1,f2,e1,e2,e3,e4,e5,e6⟩:=hO.split hj hm;rw[hi] at e1;injection e1 with e1;injection e1 with e1;injection e1 with e1 e1';subst e1;subst e1';have hf:f=[]:=by cases e5;rfl
  subst hf;have Zs:q+j*row.length+m < cur.size:=(Van.1 e4).1;have X5:(a.eval y).cells=#[u]:=by rw[hye];exact Zx0 hu
  have Z8:=Zi2 (P:=P) (a:=a) (w:=w) ho hq (by rw[X5,h1];rfl) (by omega) e2 (by omega) (λv hv=>by
   rw[X5] at hv;have:v=u:=by simpa using hv
   rw[this];exact Zts hu)
  have Z0:(cur.toList.take (q+j*row.length+m)++(a.eval y).cells.toList++cur.toList.drop (q+j*row.length+m+(a.eval y).cells.toList.length)).toArray=cur.setIfInBounds (q+j*row.length+m) u:=by
   apply Vdc;rw[X5,Vdr,List.set_eq_take_append_cons_drop,ZZj (by simpa using Zs)];simp
  rw[Z0] at Z8;have Qd:=h.once i;rw[e3] at Qd;have hgn:∀k∈f1++f2,k≠g:=λk hk e=>by
   subst e;exact (Vaz.1 Qd).1 (by simpa using hk)
  have Kk:∀k,k≠g->(w.setRow g (cur.setIfInBounds (q+j*row.length+m) u)).heap[k]?=w.heap[k]?:=λk hk=>setRow_other w g k _ hk;have Zt8:=e6 (w.setRow g (cur.setIfInBounds (q+j*row.length+m) u)) u (.lit u) (λk hk=>Kk k (hgn k hk)) (setRow_heap w g cur _ b.el (0,0) e2) (.lit hu);rw[hR] at Zt8;refine (OpR.skip Z8 ⟨.und,?_⟩).toW;refine h.write (w':=w.setRow g (cur.setIfInBounds (q+j*row.length+m) u)) (λk=>k=i) (λk=>k=g) (λk hk=>⟨i,rfl,by rw[hk,e3];exact Vaa⟩) ⟨rfl,rfl,rfl,by simp,λk _ hk=>Kk k hk⟩ (λk b' Zn=>?_) (λk hk=>?_)
  .by_cases e:k=i
   .subst e
    rw[Zl] at Zn;injection Zn with Zn;subst Zn;exact .inl ⟨rfl,⟨b,hb⟩,Zt8⟩
   .rw[Zz e] at Zn
    exact .inr ⟨e,Zn⟩
  .by_cases e:k=i
   .subst e;rw[Zl] at hk;cases hk
   .rw[Zz e] at hk;exact hk
theorem Zvj (hP:Z2 P) {f:Operand} {ars:Array Operand} {ts:Array TypeId} {g:FuncId} (ho:o.op=.call {callee:=.value f,args:=ars,argTypes:=ts}) (hf:LvR w n (a.eval f) (.fn g)) (hg:∃fn,P.funcs[g]?=some fn/\fn.body.isSome=true):
  (execOp a.eval o).run P w=.ok (.enter g (ars.map a.eval)) w:=by
 generalize hq:a.eval f=q at hf;cases hf;obtain⟨fn,h1,h2⟩:=hg;have h3':¬fn.name = "runtime.NumGoroutine" := by simpa using hP.name g fn h1
 have Zn:¬fn.body=none:=λhh=>by rw[hh] at h2;cases h2
 simp[execOp,ho,resolve,hq,Deferred.ofValue,invoke,callFunc,h1,h3',Zn]
theorem Yp.mkX_ok (h:Yp P w0 io w tmps s n) {ts:Nat->Nat×TypeId}:∀{cs:List LV} {k:Nat} {us:List Value} {xs:List V},us.length=cs.length->(∀(j:Nat) (u:Value) (x:LV),us[j]?=some u->cs[j]?=some x->LvR w n u x)->(∀j i,cs[j]?=some (.ob i)->ts (k+j)=Zoc s i)->mkX s cs=some xs->MkA w ts k us xs (cs.map (fpC n)):=by
 intro cs
 induction cs with
 | nil=>
  intro k us xs hl _ _ hx;simp only[mkX,ZZd] at hx;subst hx;have:us=[]:=Var (by simpa using hl);subst this;exact .nil
 | cons c cs ih=>
  intro k us xs hl hr ht hx
  match us,hl with
  | u::us,hl=>
   have h0:=hr 0 u c rfl rfl;have Wl:∀(j:Nat) (v:Value) (x:LV),us[j]?=some v->cs[j]?=some x->LvR w n v x:=λj v x hv hx=>hr (j+1) v x (by simpa using hv) (by simpa using hx);have ht':∀j i,cs[j]?=some (.ob i)->ts (k+1+j)=Zoc s i:=λj i hj=>by
    have:=ht (j+1) i (by simpa using hj)
    rwa [show k+(j+1)=k+1+j by omega] at this
   have hl':us.length=cs.length:=by simpa using hl
   cases c with
   | lit v=>
    simp only[mkX] at hx;obtain⟨zs,h1,rfl⟩:=ZZc.1 hx;cases h0 with
    | lit hs=>exact .lit hs (ih hl' Wl ht' h1)
   | ob i=>
    simp only[mkX] at hx;obtain⟨b,hb,hx⟩:=ZZb.1 hx;split at hx
    case isFalse=>cases hx
    rename_i Zo;obtain⟨zs,h1,rfl⟩:=ZZc.1 hx;have htk:=ht 0 i rfl;cases h0 with
    | ob hU Zu8=>
     have hO:=h.obs i b hb;unfold ObR at hO;rw[Zo] at hO;refine .ow ?_ (ih hl' Wl ht' h1);rw[Va5] at htk;rw[htk];simpa only[Zoc,hb,Vav,Va0,fpC] using hO
   | _=>simp[mkX] at hx
theorem Z87:∀{cs:List LV} {xs:List V},mkX s cs=some xs->∀i∈Qr cs,∃b,s.ob i=some b/\b.own=true:=by
 intro cs
 induction cs with
 | nil=>intro xs _ i hi;cases hi
 | cons c cs ih=>
  intro xs hx i hi;cases c<;>simp only[mkX] at hx<;>try cases hx
  case lit v=>
   obtain⟨zs,h1,rfl⟩:=ZZc.1 hx;exact ih h1 i hi
  case ob k=>
   obtain⟨b,hb,hx⟩:=ZZb.1 hx;split at hx
   case isFalse=>cases hx
   rename_i Zo;obtain⟨zs,h1,rfl⟩:=ZZc.1 hx;rcases Vap.1 hi with rfl|hi
   .exact⟨b,hb,Zo⟩
   .exact ih h1 i hi
theorem Zsz {f:Nat->Option LO}:∀{cs:List LV} {xs:List V} {i:Nat},i ∉ Qr cs->Zdj f cs xs i=f i:=by
 intro cs
 induction cs with
 | nil=>intro xs i _;cases xs<;>rfl
 | cons c cs ih=>
  intro xs i hi;cases xs with
  | nil=>cases c<;>rfl
  | cons x xs=>
   cases c with
   | ob k=>
    simp only[Qr,Vap,not_or] at hi;cases x<;>simp only[Zdj]<;>first|exact ih hi.2|(rw[Zz hi.1];exact ih hi.2)
   | _=>cases x<;>exact ih (by simpa [Qr] using hi)
theorem Yp.mkX_back (h:Yp P w0 io w tmps s n) {ts:Nat->Nat×TypeId}:∀{cs:List LV} {k:Nat} {us:List Value} {xs xs':List V},us.length=cs.length->(∀(j:Nat) (u:Value) (x:LV),us[j]?=some u->cs[j]?=some x->LvR w n u x)->(∀j i,cs[j]?=some (.ob i)->ts (k+j)=Zoc s i)->mkX s cs=some xs->Zkx xs xs'=true->(Qr cs).Nodup->MkA w' ts k us xs' (cs.map (fpC n))->
  ∀i∈Qr cs,∃b,Zdj s.ob cs xs' i=some b/\b.own=true/\OwZ w' b.sz b.el (n.us i) b.rows (n.fps i):=by
 intro cs
 induction cs with
 | nil=>intro k us xs xs' _ _ _ _ _ _ _ i hi;cases hi
 | cons c cs ih=>
  intro k us xs xs' hl hr ht hx hs hn hA i hi
  match us,hl with
  | u::us,hl=>
   have h0:=hr 0 u c rfl rfl;have Wl:∀(j:Nat) (v:Value) (x:LV),us[j]?=some v->cs[j]?=some x->LvR w n v x:=λj v x hv hx=>hr (j+1) v x (by simpa using hv) (by simpa using hx);have ht':∀j i,cs[j]?=some (.ob i)->ts (k+1+j)=Zoc s i:=λj i hj=>by
    have:=ht (j+1) i (by simpa using hj)
    rwa [show k+(j+1)=k+1+j by omega] at this
   have hl':us.length=cs.length:=by simpa using hl
   cases c with
   | lit v=>
    simp only[mkX] at hx;obtain⟨zs,h1,rfl⟩:=ZZc.1 hx
    match xs',hs with
    | .lit v'::xs',hs=>
     cases hA with
     | lit _ hA=>exact ih hl' Wl ht' h1 hs hn hA i hi
   | ob q=>
    simp only[mkX] at hx;obtain⟨b,hb,hx⟩:=ZZb.1 hx;split at hx
    case isFalse=>cases hx
    rename_i Zo;obtain⟨zs,h1,rfl⟩:=ZZc.1 hx;have htk:=ht 0 q rfl;rw[Va5] at htk
    match xs',hs with
    | .tr r::xs',hs=>
     simp only[Qr] at hn;cases hA with
     | ow hO hA=>
      cases h0 with
      | ob hU Zu8=>
       rcases Vap.1 hi with rfl|hi
       .refine⟨⟨b.own,b.sz,b.el,r⟩,?_,Zo,?_⟩
        .simp only[Zdj,Zl,hb,Vav]
        .rw[htk] at hO
         simpa only[Zoc,hb,Vav,Va0,fpC] using hO
       .obtain⟨b',q1,q2⟩:=ih hl' Wl ht' h1 hs (Vaz.1 hn).2 hA i hi
        refine⟨b',?_,q2⟩;simp only[Zdj];rw[Zz (show i≠q fromλe=>(Vaz.1 hn).1 (e▸hi))];exact q1
   | _=>simp[mkX] at hx
theorem Z17 {cs:List LV}:∀j i,cs[j]?=some (.ob i)->tsOf s cs (0+j)=Zoc s i:=λj i hj=>by
 unfold tsOf;rw[Vbk,hj]
theorem Zrf {cs:List LV}:(cs.map (fpC n)).flatten=((Qr cs).map n.fps).flatten:=by
 induction cs with
 | nil=>rfl
 | cons c cs ih=>cases c<;>simp[Qr,fpC,ih]
theorem Yp.keys_nodup (h:Yp P w0 io w tmps s n):∀{l:List Nat},l.Nodup->(l.map n.fps).flatten.Nodup:=by
 intro l
 induction l with
 | nil=>intro _;exact Vcq
 | cons i l ih=>
  intro hl;obtain⟨h1,h2⟩:=Vaz.1 hl;simp only[Vau,Vax];refine Vat.2 ⟨h.once i,ih h2,λg hg g' Zm e=>?_⟩;subst e;obtain⟨f,hf,hgf⟩:=Vbs.1 Zm;obtain⟨k,hk,rfl⟩:=Va4.1 hf;exact h.apO i k (λe=>h1 (e▸hk)) g hg hgf
theorem Zxn {l:List Nat} {g:Nat} (h:g∈(l.map n.fps).flatten):∃i,i∈l/\g∈n.fps i:=by
 obtain⟨f,hf,hgf⟩:=Vbs.1 h;obtain⟨k,hk,rfl⟩:=Va4.1 hf;exact⟨k,hk,hgf⟩
theorem Z1q {u:Value} {x:LV} {agg:Bool} {cs:List LV} (h:LvR w n u x) (hc:Zh5 x=some (agg,cs)):∃us:List Value,u=Zhm agg us/\us.length=cs.length/\∀(j:Nat) (v:Value) (y:LV),us[j]?=some v->cs[j]?=some y->LvR w n v y:=by
 unfold Zh5 at hc;split at hc
 .rename_i i
  simp only[ZZd,ZZe] at hc;obtain⟨rfl,rfl⟩:=hc;refine⟨[u],rfl,rfl,λj v y hv hy=>?_⟩;cases j with
  | zero=>
   have e1:u=v:=by simpa using hv
   have e2:LV.ob i=y:=by simpa using hy
   subst e1;subst e2;exact h
  | succ j=>simp at hv
 .simp only[ZZd,ZZe] at hc
  obtain⟨rfl,rfl⟩:=hc;cases h with
  | @agg vs _ hl hc hr=>exact⟨vs.toList,rfl,by simpa using hl,λj v y hv hy=>hr j v y (by simpa using hv) hy⟩
 .cases hc
theorem Z70 (hP:Z2 P) (h:Yp P w0 io w a.tmps s n) {f x y:Operand} {ts:Array TypeId} {g:FuncId} {agg:Bool} {cs:List LV} {xs xs':List V} {k k':Int} (ho:o.op=.call {callee:=.value f,args:=#[x,y],argTypes:=ts}) (hf:Ev.opL s f=.fn g) (hx:Zh5 (Ev.opL s x)=some (agg,cs)) (hX:mkX s cs=some xs) (hn:(Qr cs).Nodup) (hs:Zkx xs xs'=true) (hy:Ev.opL s y=.lit (.int .i64 k))
  (hM:Zb8 P g agg xs xs' k k'):OpW P o a w (λval w'=>LvR w' n val (.lit (.int .i64 k'))/\Yp P w0 io w' a.tmps ⟨λt=>Ze5 (s.env t),Zdj s.ob cs xs',s.bk,s.bx,s.used⟩ n):=by
 have hfv:=h.opL f;rw[hf] at hfv;have hyv:=h.opL y;rw[hy] at hyv;have hye:=Zcw hyv;obtain⟨us,hu,hul,hur⟩:=Z1q (h.opL x) hx;have hA:=h.mkX_ok hul hur (Z17 (s:=s)) hX;have hN:=h.keys_nodup hn;rw[<-Zrf] at hN;have Z8:=Zvj hP (a:=a) (w:=w) ho hfv hM.1;have Za6:(#[x,y].map a.eval)=#[Zhm agg us,.int .i64 k]:=by simp[hu,hye]
 rw[Za6] at Z8;have Zfk:=hM.2 w us (tsOf s cs) (cs.map (fpC n)) hA hN ⟨h.base.anch.1,h.base.anch.2.1,λq hq=>by
  rw[Zrf] at hq;obtain⟨i,_,hi⟩:=Zxn hq;exact h.base.anch.2.2 q (h.mineO i q hi).1⟩
 intro K Q hK;unfold Oper.wp;rw[Z8,Oper.upon_enter];refine Zfk.mono ?_;rintro e w' ⟨rfl,hl,hA'⟩;refine hK _ _ ⟨.lit rfl,?_⟩;have Zxe:=h.mkX_back hul hur (Z17 (s:=s)) hX hs hn hA';rw[Zrf] at hl;refine h.write (λi=>i∈Qr cs) (λq=>q∈((Qr cs).map n.fps).flatten) (λq hq=>Zxn hq) hl (λi b hb=>?_) (λi hi=>?_)
 .by_cases hm:i∈Qr cs
  .obtain⟨b',q1,q2,q3⟩:=Zxe i hm
   rw[hb] at q1;injection q1 with q1;subst q1;obtain⟨b0,hb0,_⟩:=Z87 hX i hm;refine .inl ⟨hm,⟨b0,hb0⟩,?_⟩;unfold ObR;rw[q2];exact q3
  .rw[Zsz hm] at hb
   exact .inr ⟨hm,hb⟩
 .by_cases hm:i∈Qr cs
  .obtain⟨b',q1,_⟩:=Zxe i hm
   rw[hi] at q1;cases q1
  .rw[Zsz hm] at hi
   exact hi
theorem Ow.toZ {y:Value} {r:List (List V)} {f:List Nat} (h:Ow w y (.tr r) f):∃sz e,OwZ w sz e y r f:=by
 cases h with
 | emp=>exact⟨0,0,.inl ⟨_,rfl,rfl,rfl⟩⟩
 | @tr g o n c sz cur e rows fp hb hn hc hm hs hz hl=>
  subst hn;exact⟨sz,e,.inr ⟨g,o,c,cur,fp,rfl,hb,hc,hm,hs,hz,hl,rfl⟩⟩
theorem Z7o (hP:Z2 P) (h:Yp P w0 io w a.tmps s n) {f x y:Operand} {ts:Array TypeId} {g:FuncId} {i j m:Nat} {b:LO} {row:List V} {r r':List (List V)} {R:List (List V)} {k k':Int} (ho:o.op=.call {callee:=.value f,args:=#[x,y],argTypes:=ts}) (hf:Ev.opL s f=.fn g) (hx:Ev.opL s x=.nc i j m row.length) (hb:s.ob i=some b) (Zo:b.own=true) (hj:b.rows[j]?=some row) (hm:row[m]?=some (.tr r)) (hy:Ev.opL s y=.lit (.int .i64 k))
  (hM:Zb8 P g false [.tr r] [.tr r'] k k') (hR:b.rows.set j (row.set m (.tr r'))=R):OpW P o a w (λval w'=>LvR w' n val (.lit (.int .i64 k'))/\Yp P w0 io w' a.tmps ⟨λt=>Ze5 (s.env t),upd s.ob i (some ⟨true,b.sz,b.el,R⟩),s.bk,s.bx,s.used⟩ n):=by
 have hfv:=h.opL f;rw[hf] at hfv;have hyv:=h.opL y;rw[hy] at hyv;have hye:=Zcw hyv;have hxv:=h.opL x;rw[hx] at hxv;generalize hq:a.eval x=u at hxv;cases hxv with
 | @nc _ _ _ _ g1 q nn c _ hU hi hg1 Ka=>
  have hO:=h.obs i b hb;unfold ObR at hO;rw[Zo] at hO;obtain⟨g2,q2,c2,cur,yv,ff,f1,f2,e1,e2,e3,e4,e5,e6⟩:=hO.split hj hm;rw[hi] at e1;injection e1 with e1;injection e1 with e1;injection e1 with e1 e1';subst e1;subst e1';have huy:u=yv:=by
   rw[cell_of_row w g1 _ cur b.el (0,0) e2,e4] at Ka;injection Ka with Ka;exact Ka.symm
  subst huy;obtain⟨sz,e,hz⟩:=e5.toZ;have Qd:=h.once i;rw[e3] at Qd;obtain⟨hn1,hn2⟩:=Vaz.1 Qd;obtain⟨hn3,hn4,hn5⟩:=Vat.1 hn2;obtain⟨hn6,hn7,hn8⟩:=Vat.1 hn4;have Jg:∀q∈ff,q∈n.fps i:=λq hq=>by rw[e3];simp[hq]
  have Z8:=Zvj hP (a:=a) (w:=w) ho hfv hM.1;have Za6:(#[x,y].map a.eval)=#[Zhm false [u],.int .i64 k]:=by simp[hq,hye,Zhm]
  rw[Za6] at Z8;have J2:([ff]:List (List Nat)).flatten=ff:=by simp
  have Zfk:=hM.2 w [u] (λ_=>(sz,e)) [ff] (.ow hz .nil) (by rw[J2];exact hn6) ⟨h.base.anch.1,h.base.anch.2.1,λq hq=>by
   rw[J2] at hq;exact h.base.anch.2.2 q (h.mineO i q (Jg q hq)).1⟩
  intro K Q hK;unfold Oper.wp;rw[Z8,Oper.upon_enter];refine Zfk.mono ?_;rintro ex w' ⟨rfl,hl,hA'⟩;refine hK _ _ ⟨.lit rfl,?_⟩;rw[J2] at hl;cases hA' with
  | ow hz' Zha=>
   have Zj0:∀q,q∈n.fps i->q ∉ ff->w'.heap[q]?=w.heap[q]?:=λq hq hqf=>hl.block q (h.mineO i q hq).2 hqf;have hg:g1 ∉ ff:=λhh=>hn1 (by simp[hh]);have Zt8:=e6 w' u (.tr r') (λq hq=>by
    refine Zj0 q (by rw[e3];rcases Vak.1 hq with h|h<;>simp[h]) λhh=>?_;rcases Vak.1 hq with h1|h1
    .exact hn5 q h1 q (Vae _ hh) rfl
    .exact hn8 q hh q h1 rfl) (by
     rw[Zj0 g1 hg1 hg,e2];have Zs:=(Van.1 e4).1;have:cur.setIfInBounds (q+j*row.length+m) u=cur:=by
      apply Array.ext_getElem?;intro l;by_cases hll:q+j*row.length+m=l
      .subst hll;rw[Vbf,ZZj rfl,ZZj Zs,e4]
      .rw[Vbf,ZZi hll]
     rw[this]) hz'.ow
   rw[hR] at Zt8;refine h.write (λk=>k=i) (λq=>q∈ff) (λq hq=>⟨i,rfl,Jg q hq⟩) hl (λk b' Zn=>?_) (λk hk=>?_)
   .by_cases e:k=i
    .subst e
     rw[Zl] at Zn;injection Zn with Zn;subst Zn;exact .inl ⟨rfl,⟨b,hb⟩,Zt8⟩
    .rw[Zz e] at Zn
     exact .inr ⟨e,Zn⟩
   .by_cases e:k=i
    .subst e;rw[Zl] at hk;cases hk
    .rw[Zz e] at hk;exact hk
theorem Zrj.ok (hP:Z2 P) (h:Yp P w0 io w a.tmps s n) (hop:Zrj P s o v s'):OpW P o a w (λval w'=>LvR w' n val v/\Yp P w0 io w' a.tmps s' n):=by
 cases hop with
 | store ho hx hb Zo hj hm hy h1 hR=>exact Z6p h ho hx hb Zo hj hm hy h1 hR
 | mark ho hf hx hX hn hs hy hM=>exact Z70 hP h ho hf hx hX hn hs hy hM
 | markN ho hf hx hb Zo hj hm hy hM hR=>exact Z7o hP h ho hf hx hb Zo hj hm hy hM hR
end
def Zzc (o:Oper) (u:List Nat):List Nat:=if Wb o then (match o.dst with|some d=>d::u|none=>u) else u
inductive LOpA (P:Program) (M:Z7) (s:LS) (o:Oper):LV->LS->Prop
 | add {v:LV} {p:LPt} (h:LOp P M s o v p) (hf:Wb o=true->∀d,o.dst=some d->d ∉ s.used):LOpA P M s o v (s.add p (Zzc o s.used))
 | wr {v:LV} {s':LS} (h:Zrj P s o v s'):LOpA P M s o v s'
def Zhv (s:LS) (ops:Array Oper) (o:Oper):Option Bool:=
 match o.guard with
 | none=>some true
 | some (j,b)=>match ((ops[j]?).bind (·.dst)).map s.env with
  | some (.lit (.bool c))=>some (c == b)
  | some (.tup [])=>some false
  | _=>none
inductive Zn8 (P:Program) (M:Z7) (ops:Array Oper):LS->List Oper->LS->Prop
 | nil {s:LS}:Zn8 P M ops s [] s
 | yes {s s1 s':LS} {o:Oper} {l:List Oper} {v:LV} (hw:Zhv s ops o=some true) (hop:LOpA P M s o v s1) (hs:Zn8 P M ops (s1.put o.dst v) l s'):Zn8 P M ops s (o::l) s'
 | no {s s':LS} {o:Oper} {l:List Oper} (hw:Zhv s ops o=some false) (hs:Zn8 P M ops (s.put o.dst (.tup [])) l s'):Zn8 P M ops s (o::l) s'
section
variable {P:Program} {M:Z7} {w0:World} {io:Nat->Prop} {w w':World} {a a':Act} {tmps:Array Value} {s s' s1 S:LS} {n n':Nm} {o:Oper} {v:LV} {ops:Array Oper} {R:Ex->LS->Prop}
theorem LOpA.ok (hP:Z2 P) (h:Yp P w0 io w a.tmps s n) (hop:LOpA P M s o v s'):OpW P o a w (λval w'=>∃n',n.Ext n'/\LvR w' n' val v/\Yp P w0 io w' a.tmps s' n'):=by
 cases hop with
 | add hl hf=>
  have h1:=hl.ok hP h (λhm d hd hU=>hf hm d hd (h.used d hU));intro K Q hK;refine h1 K Q λval w' ⟨n',q1,q2,q3,q4⟩=>hK _ _ ⟨n',q1,q3,q4 _ λd hd=>?_⟩;unfold Zzc;rcases q2 d hd with h2|⟨h2,h3⟩
  .split
   .split
    .exact Vac _ (h.used d h2)
    .exact h.used d h2
   .exact h.used d h2
  .rw[ZZj h3,h2]
   exact Vaa
 | wr hl=>
  have h1:=hl.ok hP h;intro K Q hK;exact h1 K Q λval w' ⟨q1,q2⟩=>hK _ _ ⟨n,.refl n,q1,q2⟩
theorem Z3m (h:Yp P w0 io w a.tmps s n) {g:Bool} (hw:Zhv s ops o=some g):Region.wanted o (yielded ops a.tmps)=g:=by
 unfold Zhv at hw;unfold Region.wanted;split at hw
 .rename_i hg;simp only[ZZd] at hw;rw[hg];exact hw
 .rename_i j b hg
  rw[hg];simp only;have hy:∀t,(ops[j]?).bind (·.dst)=some t->yielded ops a.tmps j=match a.tmps[t]? with|some (.bool b)=>some b|_=>none:=λt ht=>by
   unfold yielded;rw[ht];rfl
  cases ht:(ops[j]?).bind (·.dst) with
  | none=>rw[ht] at hw;simp at hw
  | some t=>
   rw[ht] at hw;simp only[Vav] at hw;rw[hy t ht];have key:∀{x:LV},s.env t=x->x≠.und->∃u,a.tmps[t]?=some u/\LvR w n u x:=λ{x} hx Zp=>by
    by_cases Zs:t < a.tmps.size
    .have h1:a.tmps[t]?=some a.tmps[t]:=Vah Zs
     exact⟨_,h1,hx▸h.env t _ h1⟩
    .exact absurd (hx.symm.trans (h.out t (Vcg Zs))) Zp
   split at hw
   .rename_i c W5
    simp only[ZZd] at W5 hw;obtain⟨u,hu,Yh⟩:=key W5 (by simp);rw[hu,Zcw Yh];rw[<-hw];cases c<;>cases b<;>rfl
   .rename_i W5
    simp only[ZZd] at W5 hw;obtain⟨u,hu,Yh⟩:=key W5 (by simp);rw[hu];cases Yh;rw[<-hw];cases b<;>rfl
   .cases hw
def Zdp (P:Program) (w0:World) (io:Nat->Prop) (a:Act) (n:Nm) (s':LS) (a':Act) (w':World):Prop:=
 ∃n',n.Ext n'/\Yp P w0 io w' a'.tmps s' n'/\a'.tmps.size=a.tmps.size/\a'.defers=a.defers
theorem Zdp.refl (h:Yp P w0 io w a.tmps s n):Zdp P w0 io a n s a w:=⟨n,.refl n,h,rfl,rfl⟩
theorem Zdp.trans {a1:Act} {n1:Nm} (he:n.Ext n1) (ht:a1.tmps.size=a.tmps.size) (hd:a1.defers=a.defers) (h:Zdp P w0 io a1 n1 s' a' w'):Zdp P w0 io a n s' a' w':=by
 obtain⟨n',h1,h2,h3,h4⟩:=h;exact⟨n',he.trans h1,h2,h3.trans ht,h4.trans hd⟩
theorem Z2f (hP:Z2 P) {K:Act->World->Prop} {Q:Exit->Act->World->Prop} {i:Nat} (h:Yp P w0 io w a.tmps s n) (ho:ops[i]?=some o) (hd:∀d,o.dst=some d->d < a.tmps.size) {g:Bool} (hw:Zhv s ops o=some g)
  (hop:g=true->OpW P o a w (λval w'=>∃n',n.Ext n'/\LvR w' n' val v/\Yp P w0 io w' a.tmps s1 n'))
  (hK:∀a' w',Zdp P w0 io a n (if g then s1.put o.dst v else s.put o.dst (.tup [])) a' w'->K a' w'):wpOp P ops Q i K a w:=by
 unfold wpOp;rw[ho];simp only;rw[Z3m h hw];cases g with
 | true=>
  simp only[if_true] at hK ⊢;refine .inl (hop rfl _ _ λval w' ⟨n',h1,h2,h3⟩=>hK _ _ ⟨n',h1,?_,Zft _ _ _,Zep _ _ _⟩);exact h3.put hd h2
 | false=>
  simp only[ZZf,if_false] at hK ⊢;exact hK _ _ ⟨n,.refl n,h.put hd (.tup (by rfl) (λk v x hv=>by simp[undef] at hv)),Zft _ _ _,Zep _ _ _⟩
theorem Z9b (hP:Z2 P) {Q:Exit->Act->World->Prop}:∀(l:List Oper) {k:Nat} {s s':LS} {a:Act} {w:World} {n:Nm},Yp P w0 io w a.tmps s n->(∀j,l[j]?=ops[k+j]?)->Zdq a.tmps.size ops.toList=true->Zn8 P M ops s l s'->
  (∀a' w',Zdp P w0 io a n s' a' w'->Q .normal a' w')->wpOps P ops Q (List.range' k l.length) a w:=by
 intro l
 induction l with
 | nil=>
  intro k s s' a w n h _ _ he hQ;cases he;exact hQ _ _ (.refl h)
 | cons o l ih=>
  intro k s s' a w n h hl hds he hQ;have h0:ops[k]?=some o:=by simpa using (hl 0).symm
  simp only[Vad,List.range'_succ];rw[wpOps_cons];have hd:=Zhn hds (i:=k) (o:=o) (by simpa using h0);have hl':∀j,l[j]?=ops[k+1+j]?:=λj=>by have:=hl (j+1);simpa [Nat.add_assoc,Vdw 1 j] using this
  cases he with
  | @yes _ s1 _ _ _ v hw hop hs=>
   refine Z2f (v:=v) (s1:=s1) hP h h0 hd hw (λ_=>hop.ok hP h) (λa' w' ⟨n',q1,q2,q3,q4⟩=>?_);simp only[if_true] at q2;exact ih q2 hl' (by rw[q3];exact hds) hs (λa2 w2 hA=>hQ _ _ (.trans q1 q3 q4 hA))
  | no hw hs=>
   refine Z2f (v:=.und) (s1:=s) hP h h0 hd hw (λhf=>by cases hf) (λa' w' ⟨n',q1,q2,q3,q4⟩=>?_);simp only[ZZf,if_false] at q2;exact ih q2 hl' (by rw[q3];exact hds) hs (λa2 w2 hA=>hQ _ _ (.trans q1 q3 q4 hA))
def Lx (P:Program) (c:Code) (S:LS) (R:Ex->LS->Prop):Prop:=
 ∀(w0:World) (io:Nat->Prop) (w:World) (a:Act) (n:Nm) (Q:Exit->Act->World->Prop),Yp P w0 io w a.tmps S n->X2 a.tmps.size c=true->(∀ex S' a' w',R ex S'->Zdp P w0 io a n S' a' w'->Q ex.to a' w')->wpL P c Q a w
theorem Yab (h:R .normal S):Lx P .skip S R:=λw0 io w a n Q hR hd hQ=>wp_skip (hQ _ _ _ _ h (.refl hR))
theorem Lx_ret (h:R .ret S):Lx P .ret S R:=λw0 io w a n Q hR hd hQ=>wp_ret (hQ _ _ _ _ h (.refl hR))
theorem Z96 {i:Nat} (h:R (.exit i) S):Lx P (.exit i) S R:=λw0 io w a n Q hR hd hQ=>wp_exit (hQ _ _ _ _ h (.refl hR))
theorem Lx_ops (hP:Z2 P) {i:Nat} {ops:Array Oper} {S':LS} (he:Zn8 P M ops S ops.toList S') (h:R .normal S'):Lx P (.region i ops false) S R:=by
 intro w0 io w a n Q hR hd hQ;refine wp_region ?_;rw[List.range_eq_range',<-Array.length_toList];exact Z9b hP ops.toList hR (by simp) hd he (λa' w' hA=>hQ _ _ _ _ h hA)
def Z3l (K:LS->Prop) (R:Ex->LS->Prop):Ex->LS->Prop
 | .normal,s=>K s
 | e,s=>R e s
theorem Zk6 {x y:Code} (h:Lx P x S (Z3l (λs=>Lx P y s R) R)):Lx P (.seq x y) S R:=by
 intro w0 io w a n Q hR hd hQ;simp only[X2,ZZg] at hd;refine wp_seq (Zaf (h w0 io w a n _ hR hd.1 (λex S' a' w' hr hA=>?_)));cases ex with
 | normal=>
  obtain⟨n',r1,r2,r3,r4⟩:=hA;show y.wp P Q a' w';exact Zaf (hr w0 io w' a' n' Q r2 (by rw[r3];exact hd.2) (λex2 S2 a2 w2 Xq hA2=>hQ _ _ _ _ Xq (.trans r1 r3 r4 hA2)))
 | ret=>exact hQ _ _ _ _ hr hA
 | exit i=>exact hQ _ _ _ _ hr hA
theorem Z12 {c:Operand} {x y:Code} {b:Bool} (hc:Ev.opL S c=.lit (.bool b)) (h:Lx P (if b then x else y) S R):Lx P (.cond c x y) S R:=by
 intro w0 io w a n Q hR hd hQ;simp only[X2,ZZg] at hd;have hv:=hR.opL c;rw[hc] at hv;refine wp_cond (Zcw hv) (Zaf ?_);refine h w0 io w a n Q hR ?_ hQ;cases b
 .exact hd.2
 .exact hd.1
def inL (i:Nat) (R:Ex->LS->Prop):Ex->LS->Prop
 | .exit j,s=>if j=i then R .normal s else R (.exit j) s
 | e,s=>R e s
theorem Zrs {i:Nat} {c:Code} (h:Lx P c S (inL i R)):Lx P (.block i c) S R:=by
 intro w0 io w a n Q hR hd hQ;simp only[X2] at hd;refine wp_block (Zaf (h w0 io w a n _ hR hd (λex S' a' w' hr hA=>?_)));cases ex with
 | exit j=>
  show Exit.inBlock i Q (.exit j) a' w';simp only[inL] at hr;by_cases hj:j=i
  .subst hj
   rw[ZZj rfl] at hr;simp only[Exit.inBlock,if_true];exact hQ _ _ _ _ hr hA
  .rw[ZZi hj] at hr
   simp only[Exit.inBlock,ZZi hj];exact hQ _ _ _ _ hr hA
 | normal=>exact hQ _ _ _ _ hr hA
 | ret=>exact hQ _ _ _ _ hr hA
theorem Z14 {c:Code} (h:Lx P c S (Z3l (λs=>Lx P (.loop c) s R) R)):Lx P (.loop c) S R:=by
 intro w0 io w a n Q hR hd hQ;refine Zys (Zaf (h w0 io w a n _ hR hd (λex S' a' w' hr hA=>?_)));cases ex with
 | normal=>
  obtain⟨n',r1,r2,r3,r4⟩:=hA;show Lw P c Q a' w';exact hr w0 io w' a' n' Q r2 (by rw[r3];exact hd) (λex2 S2 a2 w2 Xq hA2=>hQ _ _ _ _ Xq (.trans r1 r3 r4 hA2))
 | ret=>exact hQ _ _ _ _ hr hA
 | exit i=>exact hQ _ _ _ _ hr hA
theorem Zht {c:Code} {R':Ex->LS->Prop} (h:Lx P c S R) (hR:∀e s,R e s->R' e s):Lx P c S R':=λw0 io w a n Q Zhb hd hQ=>h w0 io w a n Q Zhb hd (λex S' a' w' hr=>hQ ex S' a' w' (hR _ _ hr))
theorem Z2l {c:Code} {env:Nat->LV} {used:List Nat} (h:Lx P c ⟨env,S.ob,S.bk,S.bx,used⟩ R) (he:∀t,env t=.und\/env t=S.env t) (hu:∀d∈S.used,d∈used):Lx P c S R:=λw0 io w a n Q Zhb hd hQ=>
 h w0 io w a n Q (Zhb.less he hu) hd hQ
def Zbp:Nat->List V->List LV
 | _,[]=>[]
 | k,.tr _::xs=>.ob k::Zbp (k+1) xs
 | k,.lit v::xs=>.lit v::Zbp (k+1) xs
 | k,_::xs=>.und::Zbp (k+1) xs
def Zmv (ts:Nat->Nat×TypeId):Nat->List V->Nat->Option LO
 | _,[]=>λ_=>none
 | k,.tr r::xs=>upd (Zmv ts (k+1) xs) k (some ⟨true,(ts k).1,(ts k).2,r⟩)
 | k,_::xs=>Zmv ts (k+1) xs
def argL (agg:Bool) (cs:List LV):LV:=if agg then .agg cs else cs.headD .und
def Zu3 (ts:Nat->Nat×TypeId) (agg:Bool) (xs:List V) (k:Int):LS:=
 ⟨upd (upd (λ_=>.und) 1 (.lit (.int .i64 k))) 0 (argL agg (Zbp 0 xs)),Zmv ts 0 xs,λ_=>none,λ_=>[],[0]⟩
def Zr8 (s:LS) (ts:Nat->Nat×TypeId):Nat->List V->List V->Prop
 | _,[],[]=>True
 | k,.lit v::xs,.lit v'::xs'=>v=v'/\Zr8 s ts (k+1) xs xs'
 | k,.tr _::xs,.tr r::xs'=>s.ob k=some ⟨true,(ts k).1,(ts k).2,r⟩/\Zr8 s ts (k+1) xs xs'
 | _,_,_=>False
theorem MkA.len {ts:Nat->Nat×TypeId} {k:Nat} {us:List Value} {xs:List V} {fps:List (List Nat)} (h:MkA w ts k us xs fps):us.length=xs.length/\fps.length=xs.length:=by
 induction h with
 | nil=>exact⟨rfl,rfl⟩
 | lit _ _ ih=>simp[ih]
 | ow _ _ ih=>simp[ih]
theorem Zfo:∀{xs:List V} {k:Nat},(Zbp k xs).length=xs.length:=by
 intro xs
 induction xs with
 | nil=>intro k;rfl
 | cons x xs ih=>intro k;cases x<;>simp[Zbp,ih]
theorem mkA_in {ts:Nat->Nat×TypeId} {k:Nat} {us:List Value} {xs:List V} {fps:List (List Nat)} (h:MkA w ts k us xs fps):k+xs.length<=1000->∀(n:Nm),(∀d,d=0->d∈n.U)->(∀j u,us[j]?=some u->n.us (k+j)=u)->(∀j f,fps[j]?=some f->n.fps (k+j)=f)->
  (∀(j:Nat) (u:Value) (x:LV),us[j]?=some u->(Zbp k xs)[j]?=some x->Jw x=true/\LvR w n u x)/\∀i b,Zmv ts k xs i=some b->(k<=i/\i < k+xs.length)/\b.own=true/\OwZ w b.sz b.el (n.us i) b.rows (n.fps i):=by
 induction h with
 | nil=>intro _ n _ _ _;exact⟨λj u x hu=>by simp at hu,λi b hb=>by simp[Zmv] at hb⟩
 | @lit k v us xs fps hs _ ih=>
  intro hk n hU Kz hfp;have Xi:k+1+xs.length<=1000:=by simp at hk;omega
  obtain⟨h1,h2⟩:=ih Xi n hU (λj u hj=>by have:=Kz (j+1) u (by simpa using hj);rwa [show k+(j+1)=k+1+j by omega] at this) (λj f hj=>by have:=hfp (j+1) f (by simpa using hj);rwa [show k+(j+1)=k+1+j by omega] at this);refine⟨λj u x hu hx=>?_,λi b hb=>?_⟩
  .cases j with
   | zero=>
    simp only[Zbp,Vbd,ZZd] at hu hx;subst hu;subst hx;exact⟨rfl,.lit hs⟩
   | succ j=>exact h1 j u x (by simpa using hu) (by simpa [Zbp] using hx)
  .obtain⟨q1,q2⟩:=h2 i b hb
   exact⟨by simp;omega,q2⟩
 | @ow k u rows f us xs fps hO _ ih=>
  intro hk n hU Kz hfp;have Xi:k+1+xs.length<=1000:=by simp at hk;omega
  obtain⟨h1,h2⟩:=ih Xi n hU (λj u hj=>by have:=Kz (j+1) u (by simpa using hj);rwa [show k+(j+1)=k+1+j by omega] at this) (λj f hj=>by have:=hfp (j+1) f (by simpa using hj);rwa [show k+(j+1)=k+1+j by omega] at this);have hu0:=Kz 0 u rfl;have hf0:=hfp 0 f rfl;rw[Va5] at hu0 hf0;refine⟨λj u' x hu hx=>?_,λi b hb=>?_⟩
  .cases j with
   | zero=>
    simp only[Zbp,Vbd,ZZd] at hu hx;subst hu;subst hx;refine⟨rfl,?_⟩;have:=LvR.ob (w:=w) (n:=n) (i:=k) (hU _ (by simp at hk;omega)) (by rw[hu0];exact hO.one);rw[hu0] at this;exact this
   | succ j=>exact h1 j u' x (by simpa using hu) (by simpa [Zbp] using hx)
  .simp only[Zmv] at hb
   by_cases e:i=k
   .subst e
    rw[Zl] at hb;injection hb with hb;subst hb;exact⟨by simp,rfl,by rw[hu0,hf0];exact hO⟩
   .rw[Zz e] at hb
    obtain⟨q1,q2⟩:=h2 i b hb;exact⟨by simp;omega,q2⟩
theorem Z93 {ts:Nat->Nat×TypeId} {k:Nat} {us:List Value} {xs:List V} {fps:List (List Nat)} (h:MkA w ts k us xs fps):∀{xs':List V},Zr8 s ts k xs xs'->(∀i b,s.ob i=some b->ObR P w0 io w' b (n.us i) (n.fps i))->(∀j u,us[j]?=some u->n.us (k+j)=u)->(∀j f,fps[j]?=some f->n.fps (k+j)=f)->MkA w' ts k us xs' fps:=by
 induction h with
 | nil=>
  intro xs' ho _ _ _;cases xs' with
  | nil=>exact .nil
  | cons x xs'=>simp[Zr8] at ho
 | @lit k v us xs fps hs _ ih=>
  intro xs' ho hob Kz hfp
  match xs',ho with
  | .lit v'::xs',ho=>
   obtain⟨rfl,ho⟩:=ho;exact .lit hs (ih ho hob (λj u hj=>by have:=Kz (j+1) u (by simpa using hj);rwa [show k+(j+1)=k+1+j by omega] at this) (λj f hj=>by have:=hfp (j+1) f (by simpa using hj);rwa [show k+(j+1)=k+1+j by omega] at this))
 | @ow k u rows f us xs fps hO _ ih=>
  intro xs' ho hob Kz hfp
  match xs',ho with
  | .tr r::xs',ho=>
   obtain⟨hb,ho⟩:=ho;have hu0:=Kz 0 u rfl;have hf0:=hfp 0 f rfl;rw[Va5] at hu0 hf0;have h1:=hob k _ hb;rw[hu0,hf0] at h1;exact .ow h1 (ih ho hob (λj u hj=>by have:=Kz (j+1) u (by simpa using hj);rwa [show k+(j+1)=k+1+j by omega] at this) (λj f hj=>by have:=hfp (j+1) f (by simpa using hj);rwa [show k+(j+1)=k+1+j by omega] at this))
theorem mk_ok (hP:Z2 P) {f:FuncId} {fn:Func} {c:Code} {agg:Bool} {xs xs':List V} {k k':Int} {rt:Nat} (Ku:P.funcs[f]?=some fn) (hc:fn.body=some c) (hr:fn.results=#[.tmp rt]) (hx:xs.length<=1000) (Zu8:agg=true\/xs.length=1)
  (h:∀ts,Lx P c (Zu3 ts agg xs k) (λe s=>e=.ret/\s.env rt=.lit (.int .i64 k')/\Zr8 s ts 0 xs xs')):Zb8 P f agg xs xs' k k':=by
 refine⟨⟨fn,Ku,by rw[hc];rfl⟩,λw us ts fps hA Qd Zxh=>?_⟩;obtain⟨hl1,hl2⟩:=hA.len
 let n0:Nm:=⟨λi=>us.getD i undef,λi=>fps.getD i [],λ_=>0,[0]⟩
 let tmps:=#[Zhm agg us,Value.int .i64 k]++Array.replicate (fn.ntmps - 2) undef
 have hu0:∀j u,us[j]?=some u->n0.us (0+j)=u:=λj u hj=>by simp only[n0,Vbk,Va8,hj,Va0]
 have hf0:∀j f,fps[j]?=some f->n0.fps (0+j)=f:=λj f hj=>by simp only[n0,Vbk,Va8,hj,Va0]
 obtain⟨Z8o,hin2⟩:=mkA_in hA (by omega) n0 (λd hd=>by simp[n0,hd]) hu0 hf0;have hfm:∀i g,g∈n0.fps i->∃f,fps[i]?=some f/\g∈f:=λi g hg=>by
  simp only[n0,Va8] at hg;cases hi:fps[i]? with
  | none=>rw[hi] at hg;simp at hg
  | some f=>rw[hi] at hg;exact⟨f,rfl,hg⟩
 have J2:∀i g,g∈n0.fps i->g∈fps.flatten:=λi g hg=>by
  obtain⟨f,h1,h2⟩:=hfm i g hg;exact Vbs.2 ⟨f,Vag h1,h2⟩
 have Yau:∀(l:List (List Nat)),l.flatten.Nodup->∀(i j:Nat) (f f':List Nat),l[i]?=some f->l[j]?=some f'->i≠j->∀g∈f,g ∉ f':=by
  intro l
  induction l with
  | nil=>intro _ i j f f' h1;simp at h1
  | cons x l ih=>
   intro hn i j f f' h1 h2 Zp g hg Zm;simp only[Vax] at hn;obtain⟨a1,a2,a3⟩:=Vat.1 hn;cases i with
   | zero=>
    cases j with
    | zero=>exact Zp rfl
    | succ j=>
     have e:x=f:=by simpa using h1
     subst e;exact a3 g hg g (Vbs.2 ⟨f',Vag (by simpa using h2),Zm⟩) rfl
   | succ i=>
    cases j with
    | zero=>
     have e:x=f':=by simpa using h2
     subst e;exact a3 g Zm g (Vbs.2 ⟨f,Vag (by simpa using h1),hg⟩) rfl
    | succ j=>exact ih a2 i j f f' (by simpa using h1) (by simpa using h2) (by omega) g hg Zm
 have honce:∀(l:List (List Nat)),l.flatten.Nodup->∀(i:Nat) (f:List Nat),l[i]?=some f->f.Nodup:=by
  intro l
  induction l with
  | nil=>intro _ i f h1;simp at h1
  | cons x l ih=>
   intro hn i f h1;simp only[Vax] at hn;obtain⟨a1,a2,a3⟩:=Vat.1 hn;cases i with
   | zero=>
        have e:x=f:=by simpa using h1
        subst e;exact a1
   | succ i=>exact ih a2 i f (by simpa using h1)
 have hAlt:∀{k:Nat} {us:List Value} {xs:List V} {fps:List (List Nat)},MkA w ts k us xs fps->∀f∈fps,∀g∈f,g < w.heap.size:=by
  intro k us xs fps hh
  induction hh with
  | nil=>intro f hf;cases hf
  | lit _ _ ih=>intro f hf g hg;rcases Vap.1 hf with rfl|hf;cases hg;exact ih f hf g hg
  | ow hO _ ih=>intro f hf g hg;rcases Vap.1 hf with rfl|hf;exact hO.lt g hg;exact ih f hf g hg
 have K0:∀{k:Nat} {us:List Value} {xs:List V} {fps:List (List Nat)},MkA w ts k us xs fps->∀(j:Nat) (f:List Nat),fps[j]?=some f->Zmv ts k xs (k+j)=none->f=[]:=by
  intro k us xs fps hh
  induction hh with
  | nil=>intro j f hf;simp at hf
  | @lit k v us xs fps _ _ ih=>
   intro j f hf hn;cases j with
   | zero=>simpa using hf.symm
   | succ j=>exact ih j f (by simpa using hf) (by rw[show k+1+j=k+(j+1) by omega];exact hn)
  | @ow k u rows f us xs fps hO _ ih=>
   intro j f' hf hn;cases j with
   | zero=>simp only[Zmv,Va5,Zl] at hn;cases hn
   | succ j=>
    simp only[Zmv] at hn;rw[Zz (show k+(j+1)≠k by omega)] at hn;exact ih j f' (by simpa using hf) (by rw[show k+1+j=k+(j+1) by omega];exact hn)
 have Yx:tmps.size=2+(fn.ntmps - 2):=by simp[tmps]
 have hR:Yp P w (λg=>g∈fps.flatten) w tmps (Zu3 ts agg xs k) n0:=by
  refine {env:=λt v hv=>?_,out:=λt ht=>?_,obs:=λi b hb=>?_,noO:=λi hi=>?_,noB:=λb _=>rfl,box:=λb m hb=>(by cases hb),mineO:=λi g hg=>?_,mineB:=λb m hb=>(by cases hb),apO:=λi j Zp g hg Zm=>?_,once:=λi=>?_,apB:=λb b' m m' hb=>(by cases hb),apOB:=λi b m hb=>(by cases hb),usedO:=λi b hb=>?_,usedB:=λb m hb=>(by cases hb),used:=λd hd=>hd,left:=.refl _ _ _,base:=⟨Vaf _,Zxh.1,Zxh.2.1,λg hg=>?_⟩}
  .simp only[Zu3]
   by_cases h0:t=0
   .subst h0
    rw[Zl];have:v=Zhm agg us:=by
     simp only[tmps] at hv;rw[Vbn (by simp)] at hv;simpa using hv.symm
    subst this;cases agg with
    | true=>
     simp only[argL,Zhm,if_true];refine .agg (by simp[Zfo,hl1]) (λx hx=>?_) (λj u x hu hx=>(Z8o j u x (by simpa using hu) hx).2);obtain⟨j,hj⟩:=Va2 hx;have Zs:=(ZZh.1 hj).1;rw[Zfo] at Zs;exact (Z8o j _ x (Vab (by omega)) hj).1
    | false=>
     simp only[argL,Zhm,ZZf,if_false];have hx1:xs.length=1:=by
      rcases Zu8 with h|h
      .cases h
      .exact h
     match us,hl1 with
     | [u],_=>
      have hil:(Zbp 0 xs).length=1:=by rw[Zfo];exact hx1
      match X5:Zbp 0 xs,hil with
      | [x],_=>exact (Z8o 0 u x rfl (by rw[X5];rfl)).2
     | [],hh=>simp at hh;omega
     | _::_::_,hh=>simp at hh;omega
   .rw[Zz h0]
    by_cases h1:t=1
    .subst h1
     rw[Zl];have:v=.int .i64 k:=by
      simp only[tmps] at hv;rw[Vbn (by simp)] at hv;simpa using hv.symm
     subst this;exact .lit rfl
    .rw[Zz h1];exact .und
  .simp only[Zu3]
   rw[Yx] at ht;rw[Zz (by omega),Zz (by omega)]
  .obtain⟨_,q2,q3⟩:=hin2 i b hb
   unfold ObR;rw[q2];exact q3
  .cases Yu:fps[i]? with
   | none=>simp only[n0,Va8,Yu,Vb7]
   | some f=>
    have:=K0 hA i f Yu (by rw[Vbk];exact hi);simp only[n0,Va8,Yu,Va0];exact this
  .obtain⟨f,h1,h2⟩:=hfm i g hg
   exact⟨.inl (J2 i g hg),hAlt hA f (Vag h1) g h2⟩
  .obtain⟨f,h1,h2⟩:=hfm i g hg
   obtain⟨f',h3,h4⟩:=hfm j g Zm;exact Yau fps Qd i j f f' h1 h3 Zp g h2 h4
  .cases Yu:fps[i]? with
   | none=>simp only[n0,Va8,Yu,Vb7];exact Vcq
   | some f=>simp only[n0,Va8,Yu,Va0];exact honce fps Qd i f Yu
  .have:=(hin2 i b hb).1
   simp only[n0,List.mem_singleton];omega
  .rcases hg with hg|hg
   .exact Zxh.2.2 g hg
   .exact Vcf Zxh.1 hg
 refine calls_of_wp Ku hc (Zaf (h ts w _ w {tmps:=tmps,defers:=[]} n0 _ hR ?_ (λex s2 a' w' Zfn hA'=>?_)))
 .refine Zmf ?_ c (hP.dst f fn c Ku hc)
  simp only[tmps,Vce,Vdd];simp;omega
 .obtain⟨rfl,Wm,Z8g⟩:=Zfn
  obtain⟨n',r1,r2,r3,r4⟩:=hA';refine⟨r4,.int .i64 k',?_,rfl,r2.left,?_⟩
  .have Zs:rt < a'.tmps.size:=by
    rcases Vbv rt a'.tmps.size with h|h
    .exact h
    .have:=r2.out rt h;rw[Wm] at this;cases this
   have hv:a'.tmps[rt]?=some a'.tmps[rt]:=Vah Zs;have h2:=r2.env rt _ hv;rw[Wm] at h2;have h3:=Zcw h2;have:=Zj5 (P:=P) (fn:=fn) (tmps:=a'.tmps) (w:=w') (us:=[.int .i64 k']) (by
    rw[hr];simp[Zlv,Zs,h3])
   exact this
  .refine Z93 hA Z8g (λi b hb=>r2.obs i b hb) (λj u hj=>?_) (λj f hj=>?_)
   .rw[r1.us (0+j) (by have:=(ZZh.1 hj).1;simp only[n0,List.mem_singleton];omega)];exact hu0 j u hj
   .rw[r1.fps (0+j) (by have:=(ZZh.1 hj).1;simp only[n0,List.mem_singleton];omega)];exact hf0 j f hj
end
def Zir:V->List V
 | .agg cs=>cs
 | x=>[x]
def Zl0:List V->List V
 | []=>[]
 | x::xs=>Zir x++Zl0 xs
def Zre (k:Nat):V->LV
 | .agg cs=>.agg (Zbp k cs)
 | .tr _=>.ob k
 | .lit v=>.lit v
 | _=>.und
def Zid:(p k:Nat)->List V->Nat->LV
 | _,_,[]=>λ_=>.und
 | p,k,x::xs=>upd (Zid (p+1) (k+(Zir x).length) xs) p (Zre k x)
def Zmk:Nat->List V->Nat->Option LO
 | _,[]=>λ_=>none
 | k,.tr r::xs=>upd (Zmk (k+1) xs) k (some ⟨false,0,0,r⟩)
 | k,_::xs=>Zmk (k+1) xs
def entF (xs:List V):LS:=⟨Zid 0 0 xs,Zmk 0 (Zl0 xs),λ_=>none,λ_=>[],[0]⟩
def Zji:V->Bool
 | .lit _|.tr _=>true
 | _=>false
def argT:V->Bool
 | .agg cs=>cs.all Zji
 | x=>Zji x
section
variable {P:Program} {M:Z7} {w0:World} {io:Nat->Prop} {w w':World} {a:Act} {tmps:Array Value} {s s':LS} {n n':Nm} {okv top:Nat->Prop}
theorem Zro {u:Value} {x:V} (h:∀ρ,En w okv ρ u x) (hx:Zji x=true):(∀r,x=.tr r->Rd w okv u x)/\∀(k:Nat) (n:Nm) (w':World),k / 1000∈n.U->n.us k=u->LvR w' n u (Zre k x)/\Jw (Zre k x)=true/\Zbp k [x]=[Zre k x]:=by
 have h0:=h (λ_=>none);cases x<;>simp[Zji] at hx
 case lit v=>cases h0 with|lit hs=>exact⟨λr hr=>(by cases hr),λk n w' _ _=>⟨.lit hs,rfl,rfl⟩⟩
 case tr rows=>
  cases h0 with
  | tr hr=>
   refine⟨λr _=>hr,λk n w' hU hu=>⟨?_,rfl,rfl⟩⟩;have:=LvR.ob (w:=w') (n:=n) (i:=k) hU (by rw[hu];exact hr.one);rw[hu] at this;exact this
theorem Z8c:∀{xs:List V} {k j:Nat} {x:V},xs[j]?=some x->Zji x=true->(Zbp k xs)[j]?=some (Zre (k+j) x):=by
 intro xs
 induction xs with
 | nil=>intro k j x h;simp at h
 | cons y ys ih=>
  intro k j x h hx;cases j with
  | zero=>
   have e:y=x:=by simpa using h
   subst e;cases y<;>simp[Zji] at hx<;>rfl
  | succ j=>
   have:=ih (k:=k+1) (by simpa using h) hx;rw[show k+1+j=k+(j+1) by omega] at this;cases y<;>simpa [Zbp] using this
theorem Z9v {u:Value} {x:V} (h:∀ρ,En w okv ρ u x) (hx:argT x=true):∃W:List Value,W.length=(Zir x).length/\(∀(j:Nat) (v:Value) (r:List (List V)),W[j]?=some v->(Zir x)[j]?=some (.tr r)->Rd w okv v (.tr r))/\
  ∀(k:Nat) (n:Nm) (w':World),0∈n.U->k+W.length<=1000->(∀j v,W[j]?=some v->n.us (k+j)=v)->LvR w' n u (Zre k x):=by
 by_cases Zao:∃cs,x=.agg cs
 .obtain⟨cs,rfl⟩:=Zao
  have Yh:∀ρ,∃vs:Array Value,u=.agg vs/\vs.size=cs.length/\∀(j:Nat) (v:Value) (y:V),vs[j]?=some v->cs[j]?=some y->En w okv ρ v y:=λρ=>by
   have:=h ρ;cases this with
   | @agg vs _ hl hc hr=>exact⟨vs,rfl,hl,hr⟩
  obtain⟨vs,rfl,hl,_⟩:=Yh (λ_=>none);have hr:∀(j:Nat) (v:Value) (y:V),vs[j]?=some v->cs[j]?=some y->∀ρ,En w okv ρ v y:=λj v y hv hy ρ=>by
   obtain⟨vs',e,_,h1⟩:=Yh ρ;injection e with e;subst e;exact h1 j v y hv hy
  have Ka:∀(j:Nat) (y:V),cs[j]?=some y->Zji y=true:=λj y hy=>ZZk.1 hx y (Vag hy);refine⟨vs.toList,by simpa [Zir] using hl,λj v r hv hy=>(Zro (hr j v _ (by simpa using hv) hy) rfl).1 r rfl,λk n w' hU hk Kz=>?_⟩;simp only[Zre];have hkey:∀(j:Nat) (v:Value) (y:LV),vs[j]?=some v->(Zbp k cs)[j]?=some y->LvR w' n v y/\Jw y=true:=λj v y hv hy=>by
   have Zs:=(ZZh.1 hy).1;rw[Zfo] at Zs;have hc:cs[j]?=some cs[j]:=Vab Zs;rw[Z8c hc (Ka j _ hc)] at hy;injection hy with hy;subst hy;have hk2:k+j < 1000:=by simp at hk;omega
   obtain⟨q1,q2,_⟩:=(Zro (hr j v _ hv hc) (Ka j _ hc)).2 (k+j) n w' (by rw[Nat.div_eq_of_lt hk2];exact hU) (Kz j v (by simpa using hv));exact⟨q1,q2⟩
  refine .agg (by rw[Zfo];exact hl) (λy hy=>?_) (λj v y hv hy=>(hkey j v y hv hy).1);obtain⟨j,hj⟩:=Va2 hy;have Zs:=(ZZh.1 hj).1;rw[Zfo] at Zs;exact (hkey j _ y (Vah (by omega)) hj).2
 .have hx':Zji x=true:=by
   cases x<;>first|exact hx|exact absurd ⟨_,rfl⟩ Zao
  have hcx:Zir x=[x]:=by
   cases x<;>first|rfl|exact absurd ⟨_,rfl⟩ Zao
  obtain⟨h1,h2⟩:=Zro h hx';refine⟨[u],by rw[hcx];rfl,λj v r hv hy=>?_,λk n w' hU hk Kz=>?_⟩
  .rw[hcx] at hy
   cases j with
   | zero=>
    have e1:u=v:=by simpa using hv
    have e2:x=.tr r:=by simpa using hy
    subst e1;subst e2;exact h1 r rfl
   | succ j=>simp at hv
  .exact (h2 k n w' (by rw[Nat.div_eq_of_lt (by simp at hk;omega)];exact hU) (Kz 0 u rfl)).1
theorem Z9c {ms:List Zx} {us:List Value} {xs:List V} {G:List Nat} (h:Zfh P w okv top ms us xs G):Zf4 ms=true->xs.all argT=true->G=[]/\us.length=xs.length/\∃W:List Value,W.length=(Zl0 xs).length/\(∀(j:Nat) (v:Value) (r:List (List V)),W[j]?=some v->(Zl0 xs)[j]?=some (.tr r)->Rd w okv v (.tr r))/\
  ∀(p k:Nat) (n:Nm) (w':World),0∈n.U->k+W.length<=1000->(∀j v,W[j]?=some v->n.us (k+j)=v)->∀(j:Nat) (u:Value),us[j]?=some u->LvR w' n u (Zid p k xs (p+j)):=by
 induction h with
 | nil=>exactλ_ _=>⟨rfl,rfl,[],rfl,λj v r hv=>by simp at hv,λp k n w' _ _ _ j u hu=>by simp at hu⟩
 | @cons ms u us x xs f1 f2 hx hxs ih=>
  intro hm ha;simp only[Vbc,ZZg] at ha;obtain⟨hm1,hm2⟩:=Znk hm;obtain⟨rfl,Z3,W2,b1,b2,b3⟩:=ih hm2 ha.2;rw[hm1] at hx;obtain⟨Yh,rfl⟩:=hx;obtain⟨W1,a1,a2,a3⟩:=Z9v Yh ha.1;refine⟨rfl,by simp[Z3],W1++W2,by simp[Zl0,a1,b1],λj v r hv hy=>?_,λp k n w' hU hk Kz j u' hu=>?_⟩
  .simp only[Zl0] at hy
   by_cases hj:j < W1.length
   .rw[Vam hj] at hv
    rw[Vam (by omega)] at hy;exact a2 j v r hv hy
   .rw[Vaj (by omega)] at hv
    rw[Vaj (by omega),<-a1] at hy;exact b2 _ v r hv hy
  .simp only[Vas] at hk
   cases j with
   | zero=>
    have e:u=u':=by simpa using hu
    subst e;simp only[Zid,Va5,Zl];exact a3 k n w' hU (by omega) (λj v hj=>Kz j v (by rw[Vam (ZZh.1 hj).1];exact hj))
   | succ j=>
    simp only[Zid];rw[Zz (show p+(j+1)≠p by omega),show p+(j+1)=p+1+j by omega];refine b3 (p+1) (k+(Zir x).length) n w' hU (by omega) (λi v hi=>?_) j u' (by simpa using hu);have:=Kz (W1.length+i) v (by rw[Vaj (by omega),Vbq];exact hi);rw[a1,<-Nat.add_assoc] at this;exact this
theorem Zsj:∀{xs:List V} {k i:Nat} {b:LO},Zmk k xs i=some b->∃j r,i=k+j/\j < xs.length/\xs[j]?=some (.tr r)/\b=⟨false,0,0,r⟩:=by
 intro xs
 induction xs with
 | nil=>intro k i b h;simp[Zmk] at h
 | cons x xs ih=>
  intro k i b h;have next:Zmk (k+1) xs i=some b->∃j r,i=k+j/\j < (x::xs).length/\(x::xs)[j]?=some (.tr r)/\b=⟨false,0,0,r⟩:=λh=>by
   obtain⟨j,r,h1,h2,h3,h4⟩:=ih h;exact⟨j+1,r,by omega,by simp;omega,by simpa using h3,h4⟩
  cases x<;>simp only[Zmk] at h<;>try exact next h
  rename_i r;by_cases e:i=k
  .subst e
   rw[Zl] at h;injection h with h;exact⟨0,r,rfl,by simp,rfl,h.symm⟩
  .rw[Zz e] at h
   exact next h
theorem Zsm:∀{xs:List V} {p k t:Nat},p+xs.length<=t->Zid p k xs t=.und:=by
 intro xs
 induction xs with
 | nil=>intro p k t _;rfl
 | cons x xs ih=>
  intro p k t h;simp only[Vad] at h;simp only[Zid];rw[Zz (by omega)];exact ih (by omega)
theorem Z54 {ms:List Zx} {us:List Value} {xs:List V}:Zf4 ms=true->us.length=xs.length->K4 P w okv top ms us xs (xs.map λ_=>.undef) []:=by
 induction xs generalizing ms us with
 | nil=>
  intro _ hl;have:us=[]:=Var (by simpa using hl);subst this;exact .nil
 | cons x xs ih=>
  intro hm hl;obtain⟨hm1,hm2⟩:=Znk hm
  match us,hl with
  | u::us,hl=>
   have:=K4.cons (P:=P) (w:=w) (ok:=okv) (top:=top) (ms:=ms) (u:=u) (x:=x) (o:=.undef) (f1:=[]) (by rw[hm1];rfl) (ih hm2 (by simpa using hl));exact this
theorem Z5l (hP:Z2 P) {f:FuncId} {fn:Func} {c:Code} {xs:List V} {rt:Nat} {b:Bool} (hm:Zf4 (M.modes f)=true) (Ku:P.funcs[f]?=some fn) (hc:fn.body=some c) (hr:fn.results=#[.tmp rt]) (ha:xs.all argT=true) (hx:(Zl0 xs).length<=1000)
  (h:Lx P c (entF xs) (λe s=>e=.ret/\s.env rt=.lit (.bool b))):Z5 P M (f,xs,.lit (.bool b),xs.map λ_=>.undef):=by
 refine⟨⟨fn,Ku,by rw[hc];rfl⟩,?_⟩;intro w us G T X ok hT Za6 hGn hG Zy hX;obtain⟨hG0,Z3,W,w1,w2,w3⟩:=Z9c Za6 hm ha;have hWl:W.length<=1000:=by rw[w1];exact hx
 have Zjy:us.size=xs.length:=by simpa using Z3
 let n0:Nm:=⟨λi=>W.getD i undef,λ_=>[],λ_=>0,[0]⟩
 have hu0:∀j v,W[j]?=some v->n0.us (0+j)=v:=λj v hj=>by simp only[n0,Vbk,Va8,hj,Va0]
 let tmps:=us++Array.replicate (fn.ntmps - us.size) undef
 have hR:Yp P w (λ_=>False) w tmps (entF xs) n0:=by
  refine {env:=λt v hv=>?_,out:=λt ht=>?_,obs:=λi b hb=>?_,noO:=λi hi=>rfl,noB:=λb _=>rfl,box:=λb m hb=>(by cases hb),mineO:=λi g hg=>(by cases hg),mineB:=λb m hb=>(by cases hb),apO:=λi j Zp g hg=>(by cases hg),once:=λi=>Vcq,apB:=λb b' m m' hb=>(by cases hb),apOB:=λi b m hb=>(by cases hb),usedO:=λi b hb=>?_,usedB:=λb m hb=>(by cases hb),used:=λd hd=>hd,left:=.refl _ _ _,base:=⟨Vaf _,hT.1,hT.2.1,λg hg=>?_⟩}
  .by_cases ht:t < us.size
   .simp only[tmps] at hv
    rw[Vbn ht] at hv;have:=w3 0 0 n0 w (by simp[n0]) (by rw[Vbk];exact hWl) hu0 t v (by simpa using hv);rw[Vbk] at this;exact this
   .rw[show (entF xs).env t=.und from Zsm (by omega)]
    exact .und
  .simp only[tmps,Vce] at ht
   exact Zsm (by omega)
  .obtain⟨j,r,h1,h2,h3,rfl⟩:=Zsj hb
   have hjl:j < W.length:=by rw[w1];exact h2
   have hj:W[j]?=some (W[j]'hjl):=Vab hjl;refine⟨rfl,?_⟩;have:=w2 j _ r hj h3;rw[h1,hu0 j _ hj];exact this.mono (λ_ _ _=>rfl) (λg hg=>⟨(Zy g hg).1,id⟩)
  .obtain⟨j,r,h1,h2,h3,rfl⟩:=Zsj hb
   simp only[n0,List.mem_singleton];omega
  .rcases hg with hg|hg
   .exact hg.elim
   .exact Vcf hT.1 hg
 refine calls_of_wp Ku hc (Zaf (h w _ w {tmps:=tmps,defers:=[]} n0 _ hR ?_ (λex s2 a' w' Zfn hA'=>?_)))
 .refine Zmf ?_ c (hP.dst f fn c Ku hc)
  simp only[tmps,Vce,Vdd];omega
 .obtain⟨rfl,Wm⟩:=Zfn
  obtain⟨n',r1,r2,r3,r4⟩:=hA';refine⟨r4,.bool b,?_,_,rfl,?_⟩
  .have Zs:rt < a'.tmps.size:=by
    rcases Vbv rt a'.tmps.size with h|h
    .exact h
    .have:=r2.out rt h;rw[Wm] at this;cases this
   have hv:a'.tmps[rt]?=some a'.tmps[rt]:=Vah Zs;have h2:=r2.env rt _ hv;rw[Wm] at h2;have h3:=Zcw h2;exact Zj5 (P:=P) (fn:=fn) (tmps:=a'.tmps) (w:=w') (us:=[.bool b]) (by
    rw[hr];simp[Zlv,Zs,h3])
  .refine⟨⟨r2.left.os,r2.left.tape,r2.left.output,r2.left.size,λk hk _=>r2.left.block k hk id⟩,λ_=>False,λ_=>False,[],[],.lit rfl,Z54 hm (by simpa using Z3),by simp,λg hg=>(by cases hg),λg hg=>hg.elim,λg hg=>hg.elim⟩
end
structure LLe (s s':LS):Prop where
 env:∀t,s.env t=.und\/s'.env t=s.env t
 ob:∀i,s.ob i=none\/s'.ob i=s.ob i
 bk:∀b,s.bk b=none\/s'.bk b=s.bk b
 bx:∀b,s.bx b=[]\/s'.bx b=s.bx b
section
variable {P:Program} {M:Z7} {w0:World} {io:Nat->Prop} {w w':World} {a a':Act} {tmps:Array Value} {s s' s0:LS} {n n':Nm} {o:Oper} {v:LV} {p:LPt} {ops:Array Oper}
theorem LLe.opL (h:LLe s s') {x:Operand} {v:LV} (hx:Ev.opL s x=v) (hv:v≠.und):Ev.opL s' x=v:=by
 cases x with
 | tmp t=>
  simp only[Ev.opL] at hx ⊢;rcases h.env t with e|e
  .exact absurd (hx.symm.trans e) hv
  .rw[e];exact hx
 | _=>exact hx
theorem LLe.ob1 (h:LLe s s') {i:Nat} {b:LO} (hb:s.ob i=some b):s'.ob i=some b:=by
 rcases h.ob i with e|e
 .rw[e] at hb;cases hb
 .rw[e];exact hb
theorem LLe.bk1 (h:LLe s s') {i:Nat} {b:Nat} (hb:s.bk i=some b):s'.bk i=some b:=by
 rcases h.bk i with e|e
 .rw[e] at hb;cases hb
 .rw[e];exact hb
theorem Ztp {f f':Operand->V} (h:∀x∈o.op.operands.toList,f x=f' x):Ye P f o=Ye P f' o:=by
 unfold Ye;cases hp:Zbg o.op with
 | false=>simp
 | true=>
  have h1:o.op.operands.toList.all (λx=>(Ys (f x)).isSome)=o.op.operands.toList.all (λx=>(Ys (f' x)).isSome):=by
   apply Bool.eq_iff_iff.2;rw[ZZk,ZZk];exact⟨λhh x hx=>by rw[<-h x hx];exact hh x hx,λhh x hx=>by rw[h x hx];exact hh x hx⟩
  rw[h1,Zgf hp (ρ:=λx=>(Ys (f x)).getD undef) (ρ':=λx=>(Ys (f' x)).getD undef) (λx hx=>by rw[h x hx])]
theorem Zcn.mono (hl:LLe s s') (h:Zcn P s o v) (hv:v≠.und):Zcn P s' o v:=by
 cases h with
 | move ho hx=>exact .move ho (hl.opL hx hv)
 | @pick c x y t _ ho hc hx=>
  refine .pick ho (hl.opL hc (by simp)) ?_;cases t
  .exact hl.opL hx hv
  .exact hl.opL hx hv
 | extract ho ht hx=>exact .extract ho (hl.opL ht (by simp)) hx
 | plain h=>
  refine .plain ?_;rw[<-h];refine (Ztp λx hx=>?_).symm;have Xp:(Ys (toV (Ev.opL s x))).isSome=true:=by
   unfold Ye at h;split at h
   .rename_i hc
    rw[ZZg] at hc;exact ZZk.1 hc.2 x hx
   .cases h
  cases hq:Ev.opL s x<;>rw[hq] at Xp<;>simp[toV,Ys] at Xp;rw[hl.opL hq (by simp)]
 | len ho ht hx hb=>exact .len ho ht (hl.opL hx (by simp)) (hl.ob1 hb)
 | fieldB ho hf hx=>exact .fieldB ho hf (hl.opL hx (by simp))
 | fieldO ho hf hx=>exact .fieldO ho hf (hl.opL hx (by simp))
 | @index t e x ix i m b row ho ht hz hn hx hb hr Ks Zo=>
  refine .index ho ht hz ?_ (hl.opL hx (by simp)) (hl.ob1 hb) hr Ks Zo;cases hq:Ev.opL s ix<;>rw[hq] at hn<;>simp[toV,Y3] at hn;rw[hl.opL hq (by simp)];simpa [toV,Y3] using hn
 | @loadB t x b m k _ ho hx hk Z3 Zp hv'=>
  have e:s'.bx b=s.bx b:=by
   rcases hl.bx b with e|e
   .exact absurd e Zp
   .exact e
  exact .loadB ho (hl.opL hx (by simp)) (hl.bk1 hk) (by rw[e];exact Z3) (by rw[e];exact Zp) (by rw[e];exact hv')
 | loadL ho hx hb Zo hz h1 ha hu hj hm=>exact .loadL ho (hl.opL hx (by simp)) (hl.ob1 hb) Zo hz h1 ha hu hj hm
 | loadN ho hx hb Zo hz h1 ha hu hj hm=>exact .loadN ho (hl.opL hx (by simp)) (hl.ob1 hb) Zo hz h1 ha hu hj hm
theorem LLe.rdC (h:LLe s s') {x:LV} {y:V} (hr:Ev.rdC s x=some y):Ev.rdC s' x=some y:=by
 unfold Ev.rdC at hr ⊢;split<;>simp_all;obtain⟨b,hb,rfl⟩:=hr;exact⟨b,h.ob1 hb,rfl⟩
theorem LLe.rdCs (h:LLe s s'):∀{xs:List LV} {ys:List V},Ev.rdCs s xs=some ys->Ev.rdCs s' xs=some ys:=by
 intro xs
 induction xs with
 | nil=>intro ys hr;exact hr
 | cons x xs ih=>
  intro ys hr;simp only[Ev.rdCs] at hr ⊢;obtain⟨y,h1,hr⟩:=ZZb.1 hr;obtain⟨zs,h2,rfl⟩:=ZZc.1 hr;rw[h.rdC h1,ZZa,ih h2];rfl
theorem LLe.rdA (h:LLe s s') {x:LV} {y:V} (hr:Ev.rdA s x=some y):Ev.rdA s' x=some y:=by
 unfold Ev.rdA at hr ⊢;split
 .simp only at hr
  obtain⟨zs,h2,rfl⟩:=ZZc.1 hr;rw[h.rdCs h2];rfl
 .rename_i hx
  split at hr
  .exact absurd rfl (hx _)
  .exact h.rdC hr
theorem LLe.rdAs (h:LLe s s'):∀{xs:List Operand} {ys:List V},Ev.rdAs s (xs.map (Ev.opL s))=some ys->Ev.rdAs s' (xs.map (Ev.opL s'))=some ys:=by
 intro xs
 induction xs with
 | nil=>intro ys hr;exact hr
 | cons x xs ih=>
  intro ys hr;simp only[Vau,Ev.rdAs] at hr ⊢;obtain⟨y,h1,hr⟩:=ZZb.1 hr;obtain⟨zs,h2,rfl⟩:=ZZc.1 hr;have Zp:Ev.opL s x≠.und:=λe=>by rw[e] at h1;simp[Ev.rdA,Ev.rdC] at h1
  rw[h.opL rfl Zp,h.rdA h1,ZZa,ih h2];rfl
theorem Zvp {x:LV} {cs:List LV} (h:Zip x=some cs):x≠.und:=λe=>by subst e;cases h
theorem LOp.mono1 (hl:LLe s s') (h:LOp P M s o v p) (hv:v≠.und\/∃t x y,o.op=.store t x y):LOp P M s' o v p:=by
 cases h with
 | look h=>
  rcases hv with hv|⟨t,x,y,hs⟩
  .exact .look (h.mono hl hv)
  .exfalso
   cases h with
   | plain h=>unfold Ye at h;simp[hs,Zbg] at h
   | move ho=>rcases ho with ho|ho<;>(rw[hs] at ho;cases ho)
   | pick ho=>rw[hs] at ho;cases ho
   | extract ho=>rw[hs] at ho;cases ho
   | len ho=>rw[hs] at ho;cases ho
   | fieldB ho=>rw[hs] at ho;cases ho
   | fieldO ho=>rw[hs] at ho;cases ho
   | index ho=>rw[hs] at ho;cases ho
   | loadB ho=>rw[hs] at ho;cases ho
   | loadL ho=>rw[hs] at ho;cases ho
   | loadN ho=>rw[hs] at ho;cases ho
 | alloc ho hz hd=>exact .alloc ho hz hd
 | box ho hc hd=>exact .box ho (by rw[hl.opL rfl (Zvp hc)];exact hc) hd
 | store ho hx hb hc hl' hz=>exact .store ho (hl.opL hx (by simp)) (hl.bk1 hb) (by rw[hl.opL rfl (Zvp hc)];exact hc) hl' hz
 | call ho hf ha hm hg hr hle hd=>exact .call ho (hl.opL hf (by simp)) (hl.rdAs ha) hm hg hr hle hd
structure DR where
 dst:Option Tmp
 v:LV
 p:LPt
def Zg8 (e:DR) (s:LS):LS:=(s.add e.p s.used).put e.dst e.v
def bld (es:Nat->DR) (L:Nat->Bool) (s0:LS):Nat->LS
 | 0=>s0
 | k+1=>if L k then Zg8 (es k) (bld es L s0 k) else bld es L s0 k
open Classical in
noncomputable def mg {α:Type} (D:Nat->Prop) (f:Nat->Nat->Option α) (base:Nat->α) (x:Nat):α:=if h:∃j,D j/\(f j x).isSome=true then (f (Classical.choose h) x).getD (base x) else base x
def Zob {α:Type} (f:Nat->Nat->Option α):Prop:=∀i j x,(f i x).isSome=true->(f j x).isSome=true->i=j
theorem Zp2 {α:Type} {D:Nat->Prop} {f:Nat->Nat->Option α} {base:Nat->α} {x j:Nat} {y:α} (hu:Zob f) (hj:D j) (hy:f j x=some y):mg D f base x=y:=by
 have h:∃j,D j/\(f j x).isSome=true:=⟨j,hj,by rw[hy];rfl⟩;unfold mg;rw[dif_pos h];have:=hu _ j x (Vb1 h).2 (by rw[hy];rfl);rw[this,hy];rfl
theorem Zhx {α:Type} {D:Nat->Prop} {f:Nat->Nat->Option α} {base:Nat->α} {x:Nat} (h:∀j,D j->f j x=none):mg D f base x=base x:=by
 unfold mg;rw[dif_neg];rintro⟨j,hj,h1⟩;rw[h j hj] at h1;cases h1
theorem Zrn {α:Type} {D:Nat->Prop} {f:Nat->Nat->Option α} {base:Nat->α} (hu:Zob f) (x:Nat):(∃j y,D j/\f j x=some y/\mg D f base x=y)\/((∀j,D j->f j x=none)/\mg D f base x=base x):=by
 by_cases h:∃j,D j/\(f j x).isSome=true
 .obtain⟨j,hj,h1⟩:=h
  obtain⟨y,hy⟩:=Vaq.1 h1;exact .inl ⟨j,y,hj,hy,Zp2 hu hj hy⟩
 .have:∀j,D j->f j x=none:=λj hj=>by
   cases hf:f j x with
   | none=>rfl
   | some y=>exact absurd ⟨j,hj,by rw[hf];rfl⟩ h
  exact .inr ⟨this,Zhx this⟩
theorem Zs8 {α:Type} {D D':Nat->Prop} {f:Nat->Nat->Option α} {base:Nat->α} {i:Nat} (hu:Zob f) (hD:∀j,D' j↔D j\/j=i) (x:Nat):mg D' f base x=(f i x).getD (mg D f base x):=by
 cases hi:f i x with
 | some y=>rw[Zp2 hu ((hD i).2 (.inr rfl)) hi];rfl
 | none=>
  rw[Vb7];rcases Zrn (D:=D) (base:=base) hu x with⟨j,y,h1,h2,h3⟩|⟨h1,h2⟩
  .rw[h3,Zp2 hu ((hD j).2 (.inl h1)) h2]
  .rw[h2,Zhx λj hj=>?_]
   rcases (hD j).1 hj with h|h
   .exact h1 j h
   .rw[h];exact hi
theorem Zw6 {α:Type} {D D':Nat->Prop} {f:Nat->Nat->Option α} {base:Nat->α} (hu:Zob f) (hD:∀j,D j->D' j) {bot:α} (hb:∀j x,(f j x).isSome=true->base x=bot) (x:Nat):mg D f base x=bot\/mg D' f base x=mg D f base x:=by
 rcases Zrn (D:=D) (base:=base) hu x with⟨j,y,h1,h2,h3⟩|⟨h1,h2⟩
 .right;rw[h3];exact Zp2 hu (hD j h1) h2
 .rcases Zrn (D:=D') (base:=base) hu x with⟨j,y,h3,h4,h5⟩|⟨h3,h4⟩
  .left;rw[h2];exact hb j x (by rw[h4];rfl)
  .right;rw[h2,h4]
def fE (es:Nat->DR) (j t:Nat):Option LV:=if (es j).dst=some t then some (es j).v else none
def fO (es:Nat->DR) (j i:Nat):Option (Option LO):=((es j).p.ob i).map some
def fK (es:Nat->DR) (j b:Nat):Option (Option Nat):=((es j).p.bk b).map some
def fX (es:Nat->DR) (j b:Nat):Option (List LV):=(es j).p.bx b
noncomputable def SD (es:Nat->DR) (s0:LS) (D:Nat->Prop):LS:=⟨mg D (fE es) s0.env,mg D (fO es) s0.ob,mg D (fK es) s0.bk,mg D (fX es) s0.bx,s0.used⟩
structure Apt (es:Nat->DR) (s0:LS):Prop where
 uE:Zob (fE es)
 uO:Zob (fO es)
 uK:Zob (fK es)
 uX:Zob (fX es)
 bE:∀j x,(fE es j x).isSome=true->s0.env x=.und
 bO:∀j x,(fO es j x).isSome=true->s0.ob x=none
 bK:∀j x,(fK es j x).isSome=true->s0.bk x=none
 bX:∀j x,(fX es j x).isSome=true->s0.bx x=[]
variable {es:Nat->DR} {D D':Nat->Prop}
theorem LS.ext' {x y:LS} (h1:∀t,x.env t=y.env t) (h2:∀i,x.ob i=y.ob i) (h3:∀b,x.bk b=y.bk b) (h4:∀b,x.bx b=y.bx b) (h5:x.used=y.used):x=y:=by
 obtain⟨a1,a2,a3,a4,a5⟩:=x;obtain⟨b1,b2,b3,b4,b5⟩:=y;simp only at h1 h2 h3 h4 h5;rw[funext h1,funext h2,funext h3,funext h4,h5]
theorem Z4y (h:Apt es s0) {i:Nat} (hD:∀j,D' j↔D j\/j=i):SD es s0 D'=Zg8 (es i) (SD es s0 D):=by
 have hput:∀(s:LS) (d:Option Tmp) (v:LV),(s.put d v).ob=s.ob/\(s.put d v).bk=s.bk/\(s.put d v).bx=s.bx/\(s.put d v).used=s.used/\∀t,(s.put d v).env t=if d=some t then v else s.env t:=λs d v=>by
  cases d with
  | none=>exact⟨rfl,rfl,rfl,rfl,λt=>by simp[LS.put]⟩
  | some d=>
   refine⟨rfl,rfl,rfl,rfl,λt=>?_⟩;simp only[LS.put,upd,ZZd];by_cases e:t=d
   .subst e;simp
   .rw[ZZi e,ZZi (λh=>e h.symm)]
 obtain⟨p1,p2,p3,p4,p5⟩:=hput ((SD es s0 D).add (es i).p (SD es s0 D).used) (es i).dst (es i).v;refine LS.ext' (λt=>?_) (λk=>?_) (λb=>?_) (λb=>?_) ?_
 .show mg D' (fE es) s0.env t=_
  rw[Zs8 h.uE hD];show _=(Zg8 (es i) (SD es s0 D)).env t;unfold Zg8;rw[p5];simp only[fE];split<;>rfl
 .show mg D' (fO es) s0.ob k=_
  rw[Zs8 h.uO hD];show _=(Zg8 (es i) (SD es s0 D)).ob k;unfold Zg8;rw[p1];simp only[fO,LS.add,SD];cases (es i).p.ob k<;>rfl
 .show mg D' (fK es) s0.bk b=_
  rw[Zs8 h.uK hD];show _=(Zg8 (es i) (SD es s0 D)).bk b;unfold Zg8;rw[p2];simp only[fK,LS.add,SD];cases (es i).p.bk b<;>rfl
 .show mg D' (fX es) s0.bx b=_
  rw[Zs8 h.uX hD];show _=(Zg8 (es i) (SD es s0 D)).bx b;unfold Zg8;rw[p3];rfl
 .show s0.used=(Zg8 (es i) (SD es s0 D)).used
  unfold Zg8;rw[p4];rfl
theorem SD_le (h:Apt es s0) (hD:∀j,D j->D' j):LLe (SD es s0 D) (SD es s0 D'):=
 ⟨λt=>Zw6 h.uE hD h.bE t,λi=>Zw6 h.uO hD h.bO i,λb=>Zw6 h.uK hD h.bK b,λb=>Zw6 h.uX hD h.bX b⟩
theorem Zzo (hD:∀j,¬D j):SD es s0 D=s0:=
 LS.ext' (λt=>Zhx λj hj=>absurd hj (hD j)) (λt=>Zhx λj hj=>absurd hj (hD j)) (λt=>Zhx λj hj=>absurd hj (hD j)) (λt=>Zhx λj hj=>absurd hj (hD j)) rfl
theorem Zrp (hD:∀j,D j↔D' j):SD es s0 D=SD es s0 D':=by
 have:D=D':=funext λj=>propext (hD j);rw[this]
theorem Z48 (h:Apt es s0) {L:Nat->Bool}:∀k,bld es L s0 k=SD es s0 (λj=>j < k/\L j=true):=by
 intro k
 induction k with
 | zero=>exact (Zzo (by rintro j ⟨h,_⟩;omega)).symm
 | succ k ih=>
  simp only[bld];cases hL:L k with
  | true=>
   simp only[if_true];rw[ih];refine (Z4y h (D:=λj=>j < k/\L j=true) (D':=λj=>j < k+1/\L j=true) (i:=k) λj=>⟨λ⟨h1,h2⟩=>?_,λhh=>?_⟩).symm
   .by_cases e:j=k
    .exact .inr e
    .exact .inl ⟨by omega,h2⟩
   .rcases hh with⟨h1,h2⟩|e
    .exact⟨by omega,h2⟩
    .exact⟨by omega,by rw[e];exact hL⟩
  | false=>
   simp only[ZZf,if_false];rw[ih];refine Zrp λj=>⟨λ⟨h1,h2⟩=>⟨by omega,h2⟩,λ⟨h1,h2⟩=>⟨?_,h2⟩⟩;by_cases e:j=k
   .rw[e,hL] at h2;cases h2
   .omega
structure Z37 (P:Program) (M:Z7) (s0:LS) (es:Nat->DR) (Pre:Nat->List Nat) (i:Nat) (o:Oper):Prop where
 guard:o.guard=none
 edge:∀e∈o.after,Region.binds .any e=true->e.on < i
 pre:∀j∈Pre i,∃e∈o.after,Region.binds .any e=true/\(j=e.on\/j∈Pre e.on)
 op:LOp P M (bld es (λj=>(Pre i).contains j) s0 i) o (es i).v (es i).p
 dst:(es i).dst=o.dst
 nu:(es i).v≠.und\/∃t x y,o.op=.store t x y
 mkr:Wb o=true->∀d,o.dst=some d->d∈s0.used
variable {Pre:Nat->List Nat}
theorem Z1l (hF:∀(i:Nat) (o:Oper),ops[i]?=some o->Z37 P M s0 es Pre i o) {L:Nat->Prop} (hL:∀(m:Nat) (o:Oper),L m->ops[m]?=some o->∀e∈o.after,Region.binds .any e=true->L e.on):
  ∀(m:Nat) (o:Oper),ops[m]?=some o->(∀e∈o.after,Region.binds .any e=true->L e.on)->∀j∈Pre m,L j:=by
 intro m
 induction m using Nat.strongRecOn with
 | _ m ih=>
  intro o ho hp j hj;obtain⟨e,he,hb,hj⟩:=(hF m o ho).pre j hj;have Zs:=(hF m o ho).edge e he hb;have hLe:=hp e he hb;rcases hj with rfl|hj
  .exact hLe
  .have hm:m < ops.size:=(Van.1 ho).1
   have Xy:ops[e.on]?=some (ops[e.on]'(by omega)):=Vah (by omega);exact ih e.on Zs _ Xy (hL e.on _ hLe Xy) j hj
theorem Z5q (hP:Z2 P) {Q:Exit->Act->World->Prop} {U0:List Nat} (hF:∀(i:Nat) (o:Oper),ops[i]?=some o->Z37 P M s0 es Pre i o) (hA:Apt es s0) (hU:∀(i:Nat) (o:Oper) (d:Nat),ops[i]?=some o->Wb o=true->o.dst=some d->d ∉ U0):
  ∀(fuel:Nat) (listed:Array Bool) {a:Act} {w:World} {n:Nm},listed.size=ops.size->((List.range ops.size).filter λj=>!listed.getD j true).length<=fuel->
   (∀(m:Nat) (o:Oper),listed.getD m false=true->ops[m]?=some o->∀e∈o.after,Region.binds .any e=true->listed.getD e.on false=true)->
   Yp P w0 io w a.tmps (SD es s0 (λj=>listed.getD j false=true)) n->(∀d∈n.U,d∈U0\/∃j o,listed.getD j false=true/\ops[j]?=some o/\o.dst=some d)->Zdq a.tmps.size ops.toList=true->
   (∀a' w',Zdp P w0 io a n (SD es s0 (λj=>j < ops.size)) a' w'->Q .normal a' w')->wpAny P .any ops Q fuel listed a w:=by
 have same:∀(listed:Array Bool) (j:Nat),listed.size=ops.size->j < ops.size->listed.getD j false=listed.getD j true:=λlisted j hs hj=>by
  simp[show j < listed.size by omega]
 have done:∀(listed:Array Bool) {a:Act} {w:World} {n:Nm},listed.size=ops.size->(∀(m:Nat) (o:Oper),listed.getD m false=true->ops[m]?=some o->∀e∈o.after,Region.binds .any e=true->listed.getD e.on false=true)->Region.ready .any ops listed=[]->
   Yp P w0 io w a.tmps (SD es s0 (λj=>listed.getD j false=true)) n->(∀a' w',Zdp P w0 io a n (SD es s0 (λj=>j < ops.size)) a' w'->Q .normal a' w')->Q .normal a w:=by
  intro listed a w n hs Y4 hr h hQ;have Xp:∀j,j < ops.size->listed.getD j false=true:=by
   intro j
   induction j using Nat.strongRecOn with
   | _ j ih=>
    intro hj;have hjo:ops[j]?=some (ops[j]'hj):=Vah hj;cases hl:listed.getD j false with
    | true=>rfl
    | false=>
     exfalso;have:j∈Region.ready .any ops listed:=mem_ready.2 ⟨by rw[<-same listed j hs hj];exact hl,_,hjo,λe he hb=>ih e.on ((hF j _ hjo).edge e he hb) (by have:=(hF j _ hjo).edge e he hb;omega)⟩;rw[hr] at this;cases this
  have:SD es s0 (λj=>listed.getD j false=true)=SD es s0 (λj=>j < ops.size):=Zrp λj=>⟨λhj=>by
   rcases Vbv j ops.size with h|h
   .exact h
   .simp[show ¬j < listed.size by omega] at hj,λhj=>Xp j hj⟩
  rw[this] at h;exact hQ _ _ (.refl h)
 intro fuel
 induction fuel with
 | zero=>
  intro listed a w n hs hf Y4 h hn hd hQ;have hr:Region.ready .any ops listed=[]:=by
   have Zha:=Var (Nat.le_zero.1 hf);unfold Region.ready;rw[Vd3];intro i hi hh;simp only[ZZg] at hh;have hm:i∈(List.range ops.size).filter λj=>!listed.getD j true:=Vcc.2 ⟨hi,hh.1⟩;rw[Zha] at hm;cases hm
  exact⟨hr,done listed hs Y4 hr h hQ⟩
 | succ fuel ih=>
  intro listed a w n hs hf Y4 h hn hd hQ;refine⟨λhr=>done listed hs Y4 hr h hQ,λi hi=>?_⟩;obtain⟨Wn,o,ho,Zps⟩:=mem_ready.1 hi;have hin:i < ops.size:=(Van.1 ho).1;have hLi:listed.getD i false=false:=by rw[same listed i hs hin];exact Wn
  have hFi:=hF i o ho;have Zkw:∀j,(listed.setIfInBounds i true).getD j false=(listed.getD j false||j == i):=λj=>by
   by_cases e:i=j
   .subst e;simp[show i < listed.size by omega]
   .have hji:(j == i)=false:=by simpa using (λh=>e h.symm)
    rw[getD_set_ne false e,hji,Vdp]
  have hd':∀d,o.dst=some d->d < a.tmps.size:=Zhn hd (by simpa using ho);have Zee:∀j∈Pre i,listed.getD j false=true:=Z1l hF (L:=λj=>listed.getD j false=true) Y4 i o ho Zps;have hop:LOp P M (SD es s0 (λj=>listed.getD j false=true)) o (es i).v (es i).p:=by
   have h1:=hFi.op;rw[Z48 hA] at h1;exact h1.mono1 (SD_le hA λj hj=>Zee j (by simpa using hj.2)) hFi.nu
  have hfr:Wb o=true->∀d,o.dst=some d->d ∉ n.U:=λhm d hdd hdU=>by
   rcases hn d hdU with h1|⟨j,oj,h1,h2,h3⟩
   .exact hU i o d ho hm hdd h1
   .have:i=j:=hA.uE i j d (by simp[fE,hFi.dst,hdd]) (by simp[fE,(hF j oj h2).dst,h3])
    subst this;rw[hLi] at h1;cases h1
  have Zfj:=Z4y hA (D:=λj=>listed.getD j false=true) (D':=λj=>(listed.setIfInBounds i true).getD j false=true) (i:=i) (λj=>by rw[Zkw];simp);have hW:=hop.ok hP h hfr;unfold wpOp;rw[ho];simp only;have hwant:Region.wanted o (yielded ops a.tmps)=true:=by
   unfold Region.wanted;rw[hFi.guard]
  rw[hwant];simp only[if_true];refine .inl (hW _ _ λval w' ⟨n',q1,q2,q3,q4⟩=>?_);have hused:∀d∈n'.U,d∈s0.used:=λd hdU=>by
   rcases q2 d hdU with h1|⟨h1,h2⟩
   .exact h.used d h1
   .exact hFi.mkr h2 d h1
  have hR:=(q4 s0.used hused).put (a:={a with}) hd' q3;have hst:(((SD es s0 (λj=>listed.getD j false=true)).add (es i).p s0.used).put o.dst (es i).v)=SD es s0 (λj=>(listed.setIfInBounds i true).getD j false=true):=by
   rw[Zfj,<-hFi.dst];rfl
  rw[hst] at hR;refine ih (listed.setIfInBounds i true) (by simpa using hs) (by have:=Zqy hin Wn;omega) (λm o' hm hmo e he hb=>?_) hR (λd hdU=>?_) (by rw[Zft];exact hd) (λa2 w2 hA2=>hQ _ _ (.trans q1 (Zft _ _ _) (Zep _ _ _) hA2))
  .rw[Zkw] at hm ⊢
   simp only[Vb3,beq_iff_eq] at hm ⊢;rcases hm with hm|rfl
   .exact .inl (Y4 m o' hm hmo e he hb)
   .rw[ho] at hmo;injection hmo with hmo;subst hmo
    exact .inl (Zps e he hb)
  .rcases q2 d hdU with h1|⟨h1,h2⟩
   .rcases hn d h1 with h3|⟨j,oj,h3,h4,h5⟩
    .exact .inl h3
    .exact .inr ⟨j,oj,by rw[Zkw,h3];rfl,h4,h5⟩
   .exact .inr ⟨i,o,by rw[Zkw];simp,ho,h1⟩
end
end Go.Proofs.YthdljdelfgofdaaGreatDoor.Ev
namespace Go.Proofs.YthdljdelfgofdaaGreatDoor.Ev
open Go Go.RowKit
open KM
variable [Anchor]
inductive PT where
 | no
 | alloc (d n:Nat)
 | box (d:Nat) (cs:List LV)
 | store (b:Nat) (cs:List LV)
 | obs (d:Nat) (l:List LO)
def PT.pt:PT->LPt
 | .no=>.no
 | .alloc d n=>⟨at1 d n,no1,no1⟩
 | .box d cs=>⟨at1 d cs.length,at1 d cs,no1⟩
 | .store b cs=>⟨no1,at1 b cs,no1⟩
 | .obs d l=>⟨no1,no1,Zb4 d l⟩
def plK (P:Program) (f:Operand->V) (o:Oper):KM V:=
 match o.op with
 | .binOp op t x y _=>match f x,f y with
  | .lit (.int k1 a),.lit (.int k2 b)=>Zw7 op k1 k2 a b
  | .lit (.string a),.lit (.string b)=>Zxa op a b
  | .lit (.bool a),.lit (.bool b)=>match op,P.underlying t with
   | .eql,some .bool=>ret (.lit (.bool (a == b)))
   | .neq,some .bool=>ret (.lit (.bool (a != b)))
   | _,_=>fail
  | _,_=>fail
 | _=>opt (Ye P f o)
def lopK (P:Program) (M:Z7) (s:LS) (o:Oper):KM (LV×PT):=
 match o.op with
 | .move x=>match opL s x with
  | .und=>fail
  | v=>ret (v,.no)
 | .assign x=>match opL s x with
  | .und=>fail
  | v=>ret (v,.no)
 | .pick c x y=>match opL s c with
  | .lit (.bool t)=>bnd (Zmx t) λe=>if e then ret (opL s x,.no) else ret (opL s y,.no)
  | _=>fail
 | .extract t i=>match opL s t with
  | .tup vs=>bnd (opt vs[i]?) λv=>ret (v,.no)
  | _=>fail
 | .alloc t=>match o.dst with
  | some d=>bnd (opt (Kq P t)) λz=>ret (.bp d 0,.alloc d z.length)
  | none=>fail
 | .box t x=>match o.dst with
  | some d=>bnd (opt (Zip (opL s x))) λcs=>ret (.bp d 0,.box d cs)
  | none=>fail
 | .fieldAddr t x f=>bnd (opt (Zgu P t f)) λoff=>match opL s x with
  | .bp b m=>ret (.bp b (m+off),.no)
  | .op i j m sz=>ret (.op i j (m+off) sz,.no)
  | _=>fail
 | .indexAddr t x ix=>bnd (opt (Xe P t)) λe=>if Zi P e=0 then fail else bnd hear λq=>match q with
  | .row m r=>if r.length=Zi P e then bnd (obl (Y3 (toV (opL s ix))=some m)) λ_=>match opL s x with
   | .ob i=>match s.ob i with
    | some b=>if b.own=true then bnd (obl (b.rows[m]?=some r)) λ_=>ret (.op i m 0 (Zi P e),.no) else fail
    | none=>fail
   | _=>fail
   else fail
  | _=>fail
 | .load t x=>match opL s x with
  | .bp b m=>match s.bk b with
   | some _=>match s.bx b with
    | []=>fail
    | y::ys=>if m+Zi P t<=(y::ys).length then bnd (opt (Zr0 P t (((y::ys).drop m).take (Zi P t)))) λv=>ret (v,.no) else fail
   | none=>fail
  | .op i j m sz=>match s.ob i with
   | some b=>bnd hear λq=>match q with
    | .cell row=>if b.own=true/\row.length=sz/\Zi P t=1/\Jd P t=false/\(P.underlying t).isSome=true then bnd (obl (b.rows[j]?=some row)) λ_=>match row[m]? with
     | some (.lit v)=>ret (.lit v,.no)
     | some (.tr _)=>ret (.nc i j m sz,.no)
     | _=>fail
     else fail
    | _=>fail
   | none=>fail
  | _=>fail
 | .store t x y=>match opL s x with
  | .bp b 0=>match s.bk b with
   | some n=>bnd (opt (Zip (opL s y))) λcs=>if cs.length=n/\cs.length=Zi P t/\Zi P t≠0 then ret (.und,.store b cs) else fail
   | none=>fail
  | _=>fail
 | .call c=>match c.callee with
  | .builtin .len=>match c.args.toList,c.argTypes.toList with
   | [x],[t]=>match opL s x with
    | .ob i=>match s.ob i with
     | some b=>if (Xe P t).isSome=true then ret (.lit (.int .i64 b.rows.length),.no) else fail
     | none=>fail
    | .lit _=>bnd (plK P (λx=>toV (opL s x)) o) λv=>match v with
     | .lit v=>ret (.lit v,.no)
     | _=>fail
    | _=>fail
   | _,_=>fail
  | .value f=>match opL s f with
   | .fn g=>match o.dst with
    | some d=>if Zf4 (M.modes g)=true then bnd (opt (rdAs s (c.args.toList.map (opL s)))) λxs=>bnd hear λq=>match q with
     | .res r os=>bnd (obl (Z5 P M (g,xs,r,os))) λ_=>bnd (opt (tkR P d r)) λy=>if y.2.length<=1000 then ret (y.1,.obs d y.2) else fail
     | _=>fail
     else fail
    | none=>fail
   | _=>fail
  | _=>fail
 | _=>bnd (plK P (λx=>toV (opL s x)) o) λv=>match v with
  | .lit v=>ret (.lit v,.no)
  | _=>fail
def lmK (P:Program) (M:Z7) (s:LS) (o:Oper):KM (LV×LS):=
 match o.op with
 | .store t x y=>match opL s x with
  | .op i j m sz=>match s.ob i with
   | some b=>match opL s y with
    | .lit u=>bnd hear λq=>match q with
     | .put row R=>if b.own=true/\row.length=sz/\Zi P t=1 then bnd (obl (b.rows[j]?=some row)) λ_=>match row[m]? with
      | some (.lit _)=>bnd (obl (b.rows.set j (row.set m (.lit u))=R)) λ_=>ret (.und,⟨λt=>Ze5 (s.env t),upd s.ob i (some ⟨true,b.sz,b.el,R⟩),s.bk,s.bx,s.used⟩)
      | _=>fail
      else fail
     | _=>fail
    | _=>fail
   | none=>fail
  | _=>fail
 | .call c=>match c.callee with
  | .value f=>match opL s f,c.args.toList with
   | .fn g,[x,y]=>match opL s y with
    | .lit (.int .i64 k)=>match opL s x with
     | .nc i j m sz=>match s.ob i with
      | some b=>bnd hear λq=>match q with
       | .put row R=>if b.own=true/\row.length=sz then bnd (obl (b.rows[j]?=some row)) λ_=>match row[m]? with
        | some (.tr r)=>bnd hear λq=>match q with
         | .res (.lit (.int .i64 k')) [.tr r']=>bnd (obl (Zb8 P g false [.tr r] [.tr r'] k k')) λ_=>bnd (obl (b.rows.set j (row.set m (.tr r'))=R)) λ_=>
           ret (.lit (.int .i64 k'),⟨λt=>Ze5 (s.env t),upd s.ob i (some ⟨true,b.sz,b.el,R⟩),s.bk,s.bx,s.used⟩)
         | _=>fail
        | _=>fail
        else fail
       | _=>fail
      | none=>fail
     | _=>bnd (opt (Zh5 (opL s x))) λac=>bnd (opt (mkX s ac.2)) λxs=>if (Qr ac.2).Nodup then bnd hear λq=>match q with
      | .res (.lit (.int .i64 k')) xs'=>if Zkx xs xs'=true then bnd (obl (Zb8 P g ac.1 xs xs' k k')) λ_=>ret (.lit (.int .i64 k'),⟨λt=>Ze5 (s.env t),Zdj s.ob ac.2 xs',s.bk,s.bx,s.used⟩) else fail
      | _=>fail
      else fail
    | _=>fail
   | _,_=>fail
  | _=>fail
 | _=>fail
def isWr (M:Z7) (s:LS) (o:Oper):Bool:=
 match o.op with
 | .store _ x _=>match opL s x with|.op ..=>true|_=>false
 | .call c=>match c.callee with
  | .value f=>match opL s f with|.fn g=>!Zf4 (M.modes g)|_=>false
  | _=>false
 | _=>false
def Zyu (o:Oper) (used:List Nat):Bool:=!Wb o||(match o.dst with|some d=>!used.contains d|none=>true)
def Zp6 (P:Program) (M:Z7) (ops:Array Oper):List Oper->LS->KM LS
 | [],s=>ret s
 | o::l,s=>bnd (opt (Zhv s ops o)) λg0=>bnd (if o.guard.isSome then Zmx g0 else ret g0) λg=>
  if g then
   if isWr M s o then bnd (lmK P M s o) λy=>Zp6 P M ops l (y.2.put o.dst y.1)
   else if Zyu o s.used then bnd (lopK P M s o) λy=>Zp6 P M ops l ((s.add y.2.pt (Zzc o s.used)).put o.dst y.1) else fail
  else Zp6 P M ops l (s.put o.dst (.tup []))
section
variable {P:Program} {M:Z7} {s s':LS} {o:Oper} {ops:Array Oper} {f:Operand->V}
theorem Z6o:KS (plK P f o) (Ye P f o):=by
 obtain⟨d,op,ty,p,af,g⟩:=o;unfold plK;split
 .rename_i b t x y yt hb
  simp only at hb;subst hb;rw[Zzi];split
  .rename_i h1 h2;rw[h1,h2,Zyi];exact Zzm
  .rename_i h1 h2;rw[h1,h2,Zx5];exact Zyq
  .rename_i h1 h2
   rw[h1,h2];split
   .rename_i ht;rw[Zxq ht];exact Xf
   .rename_i ht;rw[Zxw ht];exact Xf
   .exact Zb
  .exact Zb
 .exact Zev
theorem Z2j:KP (lopK P M s o) (λy=>LOp P M s o y.1 y.2.pt):=by
 unfold lopK;split
 .rename_i x ho
  split
  .exact Zb
  .exact Zk (.look (.move (.inl ho) rfl))
 .rename_i x ho
  split
  .exact Zb
  .exact Zk (.look (.move (.inr ho) rfl))
 .rename_i c x y ho
  split
  .rename_i t hc
   refine Zc Zh9 (λe he=>?_);subst he;refine Z9 (λh=>Zk (.look (.pick ho hc (ZZj h)))) (λh=>Zk (.look (.pick ho hc (ZZi h))))
  .exact Zb
 .rename_i t i ho
  split
  .rename_i vs ht
   exact Zc Xm (λv hv=>Zk (.look (.extract ho ht hv)))
  .exact Zb
 .rename_i t ho
  split
  .rename_i d hd
   exact Zc Xm (λz hz=>Zk (.alloc ho hz hd))
  .exact Zb
 .rename_i t x ho
  split
  .rename_i d hd
   exact Zc Xm (λcs hc=>Zk (.box ho hc hd))
  .exact Zb
 .rename_i t x fl ho
  refine Zc Xm (λoff Zpl=>?_);split
  .rename_i b m hx;exact Zk (.look (.fieldB ho Zpl hx))
  .rename_i i j m sz hx;exact Zk (.look (.fieldO ho Zpl hx))
  .exact Zb
 .rename_i t x ix ho
  refine Zc Xm (λe he=>Z9 (λ_=>Zb) (λhz=>Zc Y5 (λq _=>?_)));split
  .rename_i m r
   refine Z9 (λhr=>Zc Zr (λ_ hn=>?_)) (λ_=>Zb);split
   .rename_i i hx
    split
    .rename_i b hb
     exact Z9 (λZo=>Zc Zr (λ_ Z6=>Zk (.look (.index ho he hz hn hx hb Z6 hr Zo)))) (λ_=>Zb)
    .exact Zb
   .exact Zb
  .exact Zb
 .rename_i t x ho
  split
  .rename_i b m hx
   split
   .rename_i n hk
    split
    .exact Zb
    .rename_i y ys hbx
     refine Z9 (λhl=>Zc Xm (λv hv=>Zk (.look (.loadB ho hx hk (by rw[hbx];exact hl) (by rw[hbx];simp) (by rw[hbx];exact hv))))) (λ_=>Zb)
   .exact Zb
  .rename_i i j m sz hx
   split
   .rename_i b hb
    refine Zc Y5 (λq _=>?_);split
    .rename_i row
     refine Z9 (λhc=>Zc Zr (λ_ hj=>?_)) (λ_=>Zb);obtain⟨h1,h2,h3,h4,h5⟩:=hc;split
     .rename_i v hm;exact Zk (.look (.loadL ho hx hb h1 h2 h3 h4 h5 hj hm))
     .rename_i r hm;exact Zk (.look (.loadN ho hx hb h1 h2 h3 h4 h5 hj hm))
     .exact Zb
    .exact Zb
   .exact Zb
  .exact Zb
 .rename_i t x y ho
  split
  .rename_i b hx
   split
   .rename_i n hk
    refine Zc Xm (λcs hc=>Z9 (λhh=>?_) (λ_=>Zb));obtain⟨h1,h2,h3⟩:=hh;exact Zk (.store ho hx (by rw[hk,h1]) hc h2 h3)
   .exact Zb
  .exact Zb
 .rename_i c ho
  obtain⟨callee,ars,ts⟩:=c;simp only;split
  .split
   .rename_i x t ha ht
    have:=Zdb ha;subst this;have:=Zdb ht;subst this;split
    .rename_i i hx
     split
     .rename_i b hb
      exact Z9 (λht=>Zk (.look (.len ho ht hx hb))) (λ_=>Zb)
     .exact Zb
    .refine Zc Z6o (λv hv=>?_)
     split
     .exact Zk (.look (.plain hv))
     .exact Zb
    .exact Zb
   .exact Zb
  .rename_i f
   split
   .rename_i g hf
    split
    .rename_i d hd
     refine Z9 (λhm=>Zc Xm (λxs hxs=>Zc Y5 (λq _=>?_))) (λ_=>Zb);split
     .refine Zc Zr (λ_ hg=>Zc Xm (λy hy=>Z9 (λhl=>?_) (λ_=>Zb)))
      exact Zk (.call ho hf hxs hm hg hy hl hd)
     .exact Zb
    .exact Zb
   .exact Zb
  .exact Zb
 .refine Zc Z6o (λv hv=>?_)
  split
  .exact Zk (.look (.plain hv))
  .exact Zb
theorem lmK_ok:KP (lmK P M s o) (λy=>Zrj P s o y.1 y.2):=by
 unfold lmK;split
 .rename_i t x y ho
  split
  .rename_i i j m sz hx
   split
   .rename_i b hb
    split
    .rename_i u hy
     refine Zc Y5 (λq _=>?_);split
     .rename_i row R
      refine Z9 (λhc=>Zc Zr (λ_ hj=>?_)) (λ_=>Zb);obtain⟨h1,h2,h3⟩:=hc;subst h2;split
      .rename_i u0 hm
       exact Zc Zr (λ_ hR=>Zk (.store ho hx hb h1 hj hm hy h3 hR))
      .exact Zb
     .exact Zb
    .exact Zb
   .exact Zb
  .exact Zb
 .rename_i c ho
  obtain⟨callee,ars,ts⟩:=c;simp only;split
  .rename_i f
   split
   .rename_i g x y hf ha
    have:=Zl1 ha;subst this;split
    .rename_i k hy
     split
     .rename_i i j m sz hx
      split
      .rename_i b hb
       refine Zc Y5 (λq _=>?_);split
       .rename_i row R
        refine Z9 (λhc=>Zc Zr (λ_ hj=>?_)) (λ_=>Zb);obtain⟨h1,h2⟩:=hc;subst h2;split
        .rename_i r hm
         refine Zc Y5 (λq _=>?_);split
         .exact Zc Zr (λ_ hM=>Zc Zr (λ_ hR=>Zk (.markN ho hf hx hb h1 hj hm hy hM hR)))
         .exact Zb
        .exact Zb
       .exact Zb
      .exact Zb
     .refine Zc Xm (λac hac=>Zc Xm (λxs hxs=>Z9 (λhn=>Zc Y5 (λq _=>?_)) (λ_=>Zb)))
      split
      .exact Z9 (λhs=>Zc Zr (λ_ hM=>Zk (.mark ho hf hac hxs hn hs hy hM))) (λ_=>Zb)
      .exact Zb
    .exact Zb
   .exact Zb
  .exact Zb
 .exact Zb
theorem Z40 {used:List Nat} (h:Zyu o used=true):Wb o=true->∀d,o.dst=some d->d ∉ used:=λhm d hd=>by
 unfold Zyu at h;rw[hm,hd] at h;simpa using h
theorem Z72:∀{l:List Oper} {s:LS},KP (Zp6 P M ops l s) (λs'=>Zn8 P M ops s l s'):=by
 intro l
 induction l with
 | nil=>intro s;exact Zk .nil
 | cons o l ih=>
  intro s;simp only[Zp6];refine Zc Xm (λg0 hg=>Zc (Q:=λg=>g0=g) (Z9 (λ_=>Zh9) (λ_=>Zk rfl)) (λg hgg=>?_));subst hgg;refine Z9 (λhgt=>?_) (λhgf=>?_)
  .rw[hgt] at hg
   refine Z9 (λ_=>Zc lmK_ok (λy hy=>ih.mono λs' hs'=>.yes hg (.wr hy) hs')) (λ_=>Z9 (λhf=>Zc Z2j (λy hy=>ih.mono λs' hs'=>.yes hg (.add hy (Z40 hf)) hs')) (λ_=>Zb))
  .have:g0=false:=by simpa using hgf
   rw[this] at hg;exact ih.mono λs' hs'=>.no hg hs'
end
abbrev DRs:=List (List Nat×DR×List Nat)
def Kx (rs:DRs) (j:Nat):DR:=((rs[j]?).map (·.2.1)).getD ⟨none,.und,.no⟩
def Zo7 (rs:DRs) (j:Nat):List Nat:=((rs[j]?).map (·.1)).getD []
def Zj7 (rs:DRs) (o:Oper):List Nat:=((o.after.toList.filter (Region.binds .any ·)).flatMap λe=>e.on::Zo7 rs e.on).eraseDups
def Zsd:PT->List Nat
 | .box d _=>[d]
 | .store b _=>[b]
 | _=>[]
def Z3e (v:LV) (o:Oper):Bool:=
 match v with
 | .und=>match o.op with|.store ..=>true|_=>false
 | _=>true
def ldrK (P:Program) (M:Z7) (s0:LS):List Oper->Nat->DRs->KM DRs
 | [],_,rs=>ret rs
 | o::l,k,rs=>if o.guard.isNone=true/\(o.after.toList.all λe=>!Region.binds .any e||decide (e.on < k))=true then
   bnd (lopK P M (bld (Kx rs) (λj=>(Zj7 rs o).contains j) s0 k) o) λy=>if Z3e y.1 o=true then ldrK P M s0 l (k+1) (rs++[(Zj7 rs o,⟨o.dst,y.1,y.2.pt⟩,Zsd y.2)]) else fail
  else fail
def dsOf (ops:Array Oper):List Nat:=ops.toList.filterMap (·.dst)
def Zp0 (ops:Array Oper):List Nat:=ops.toList.filterMap λo=>if Wb o then o.dst else none
def Zgd (ops:Array Oper) (s:LS):LS:=⟨λt=>if (dsOf ops).contains t then .und else s.env t,s.ob,s.bk,s.bx,Zp0 ops++s.used⟩
def Z3z (P:Program) (M:Z7) (ops:Array Oper) (s:LS):KM LS:=
 if (dsOf ops).Nodup/\((Zp0 ops).all λd=>!s.used.contains d)=true then
  bnd (ldrK P M (Zgd ops s) ops.toList 0 []) λrs=>if (rs.flatMap (·.2.2)).Nodup/\((rs.flatMap (·.2.2)).all λd=>(Zp0 ops).contains d)=true then ret (bld (Kx rs) (λ_=>true) (Zgd ops s) rs.length) else fail
 else fail
section
variable {P:Program} {M:Z7} {w0:World} {io:Nat->Prop} {w w':World} {a a':Act} {tmps:Array Value} {s s' s0 S:LS} {n n':Nm} {o:Oper} {v:LV} {p:LPt} {ops:Array Oper} {rs:DRs} {R:Ex->LS->Prop}
structure RFact (P:Program) (M:Z7) (s0:LS) (rs:DRs) (i:Nat) (o:Oper):Prop where
 guard:o.guard=none
 edge:∀e∈o.after,Region.binds .any e=true->e.on < i
 ex:∃y:LV×PT,rs[i]?=some (Zj7 (rs.take i) o,⟨o.dst,y.1,y.2.pt⟩,Zsd y.2)/\LOp P M (bld (Kx (rs.take i)) (λj=>(Zj7 (rs.take i) o).contains j) s0 i) o y.1 y.2.pt/\Z3e y.1 o=true
theorem Z88:∀{l:List Oper} {k:Nat} {rs:DRs},rs.length=k->KP (ldrK P M s0 l k rs) (λrs'=>rs'.length=k+l.length/\rs'.take k=rs/\∀(i:Nat) (o:Oper),l[i]?=some o->RFact P M s0 rs' (k+i) o):=by
 intro l
 induction l with
 | nil=>intro k rs hl;exact Zk ⟨by simpa using hl,by rw[<-hl];simp,λi o hi=>by simp at hi⟩
 | cons o l ih=>
  intro k rs hl;simp only[ldrK];refine Z9 (λhc=>Zc Z2j (λy hy=>Z9 (λhu=>?_) (λ_=>Zb))) (λ_=>Zb);refine (ih (k:=k+1) (rs:=rs++[(Zj7 rs o,⟨o.dst,y.1,y.2.pt⟩,Zsd y.2)]) (by simp[hl])).mono λrs' ⟨h1,h2,h3⟩=>?_;have ht:rs'.take k=rs:=by
   have:=congrArg (List.take k) h2;rw[List.take_take,Nat.min_eq_left (by omega)] at this;rw[this,<-hl];simp
  refine⟨by simp[h1];omega,ht,λi o' hi=>?_⟩;cases i with
  | zero=>
   have e:o=o':=by simpa using hi
   subst e;refine⟨by simpa using hc.1,λe he hb=>?_,y,?_,?_,hu⟩
   .have:=ZZk.1 hc.2 e (by simpa using he)
    rw[hb] at this;simpa using this
   .rw[Va5,ht]
    have:(rs'.take (k+1))[k]?=some (Zj7 rs o,⟨o.dst,y.1,y.2.pt⟩,Zsd y.2):=by
     rw[h2,Vaj (by omega),hl,Nat.sub_self];rfl
    rw[Val,ZZj (by omega)] at this;exact this
   .rw[Va5,ht];exact hy
  | succ i=>
   have:=h3 i o' (by simpa using hi)
   rwa [show k+1+i=k+(i+1) by omega] at this
theorem Z6i {es es':Nat->DR} {L:Nat->Bool}:∀{k:Nat},(∀j,j < k->es j=es' j)->bld es L s0 k=bld es' L s0 k:=by
 intro k
 induction k with
 | zero=>intro _;rfl
 | succ k ih=>intro h;simp only[bld];rw[h k (by omega),ih λj hj=>h j (by omega)]
theorem Zut {α:Type} {f:α->Option Nat}:∀{l:List α},(l.filterMap f).Nodup->∀(i j:Nat) (a b:α) (x:Nat),l[i]?=some a->l[j]?=some b->f a=some x->f b=some x->i=j:=by
 intro l
 induction l with
 | nil=>intro _ i j a b x h1;simp at h1
 | cons c l ih=>
  intro hn i j a b x h1 h2 h3 h4;have mem:∀(k:Nat) (y:α),l[k]?=some y->f y=some x->x∈l.filterMap f:=λk y hk hy=>Vcl.2 ⟨y,Vag hk,hy⟩;cases hc:f c with
  | none=>
   rw[List.filterMap_cons_none hc] at hn;cases i with
   | zero=>
        have e:c=a:=by simpa using h1
        subst e;rw[hc] at h3;cases h3
   | succ i=>
    cases j with
    | zero=>
         have e:c=b:=by simpa using h2
         subst e;rw[hc] at h4;cases h4
    | succ j=>rw[ih hn i j a b x (by simpa using h1) (by simpa using h2) h3 h4]
  | some z=>
   rw[List.filterMap_cons_some hc] at hn;obtain⟨n1,n2⟩:=Vaz.1 hn;cases i with
   | zero=>
    have e:c=a:=by simpa using h1
    subst e;rw[hc] at h3;injection h3 with h3;subst h3;cases j with
    | zero=>rfl
    | succ j=>exact absurd (mem j b (by simpa using h2) h4) n1
   | succ i=>
    cases j with
    | zero=>
     have e:c=b:=by simpa using h2
     subst e;rw[hc] at h4;injection h4 with h4;subst h4;exact absurd (mem i a (by simpa using h1) h3) n1
    | succ j=>rw[ih n2 i j a b x (by simpa using h1) (by simpa using h2) h3 h4]
theorem Zxk {α:Type} {f:α->List Nat}:∀{l:List α},(l.flatMap f).Nodup->∀(i j:Nat) (a b:α) (x:Nat),l[i]?=some a->l[j]?=some b->x∈f a->x∈f b->i=j:=by
 intro l
 induction l with
 | nil=>intro _ i j a b x h1;simp at h1
 | cons c l ih=>
  intro hn i j a b x h1 h2 h3 h4;simp only[Vbh] at hn;obtain⟨n1,n2,n3⟩:=Vat.1 hn;have mem:∀(k:Nat) (y:α),l[k]?=some y->x∈f y->x∈l.flatMap f:=λk y hk hy=>Vcu.2 ⟨y,Vag hk,hy⟩;cases i with
  | zero=>
   have e:c=a:=by simpa using h1
   subst e;cases j with
   | zero=>rfl
   | succ j=>exact absurd rfl (n3 x h3 x (mem j b (by simpa using h2) h4))
  | succ i=>
   cases j with
   | zero=>
    have e:c=b:=by simpa using h2
    subst e;exact absurd rfl (n3 x h4 x (mem i a (by simpa using h1) h3))
   | succ j=>rw[ih n2 i j a b x (by simpa using h1) (by simpa using h2) h3 h4]
theorem LOp.obD (h:LOp P M s o v p) {k:Nat} (hk:(p.ob k).isSome=true):o.dst=some (k / 1000)/\Wb o=true:=by
 cases h with
 | call ho _ _ _ _ _ _ hd=>
  obtain⟨b,hb⟩:=Vaq.1 hk;rw[(Zmt hb).1];exact⟨hd,by simp[Wb,ho]⟩
 | _=>cases hk
theorem LOp.bkD (h:LOp P M s o v p) {b:Nat} (hk:(p.bk b).isSome=true):o.dst=some b/\Wb o=true:=by
 have at1s:∀{α:Type} {d:Nat} {x:α},(at1 d x b).isSome=true->b=d:=λ{α d x} h=>by
  unfold at1 at h;split at h
  .assumption
  .cases h
 cases h with
 | alloc ho _ hd=>rw[at1s hk];exact⟨hd,by simp[Wb,ho]⟩
 | box ho _ hd=>rw[at1s hk];exact⟨hd,by simp[Wb,ho]⟩
 | _=>cases hk
theorem bxD {t:PT} {b:Nat} (hk:(t.pt.bx b).isSome=true):b∈Zsd t:=by
 have at1s:∀{α:Type} {d:Nat} {x:α},(at1 d x b).isSome=true->b=d:=λ{α d x} h=>by
  unfold at1 at h;split at h
  .assumption
  .cases h
 cases t with
 | box d cs=>rw[at1s hk];exact List.mem_singleton.2 rfl
 | store d cs=>rw[at1s hk];exact List.mem_singleton.2 rfl
 | _=>cases hk
theorem Z7d (hP:Z2 P) {i:Nat}:KP (Z3z P M ops S) (λS'=>∀R:Ex->LS->Prop,R .normal S'->Lx P (.region i ops true) S R):=by
 unfold Z3z;refine Z9 (λhc=>Zc (Z88 (k:=0) (rs:=[]) rfl) (λrs hrs=>Z9 (λhk=>Zk ?_) (λ_=>Zb))) (λ_=>Zb);obtain⟨Z3,_,hF⟩:=hrs;have Z3:rs.length=ops.size:=by simpa using Z3
 obtain⟨hds,hmk⟩:=hc;obtain⟨hkx,hkm⟩:=hk;intro R hR w0 io w a n Q Zhb hd hQ;refine wp_region_any hP.mixed ?_;have hRel1:=Zhb.grow (w':={w with drawn:=w.drawn+1}) ⟨rfl,rfl,rfl,Vaf _,λ_ _ _=>rfl⟩;have hRel2:Yp P w0 io {w with drawn:=w.drawn+1} a.tmps (Zgd ops S) n:=hRel1.less (λt=>by split;exact .inl rfl;exact .inr rfl) (λd hd=>Vao _ hd);have hF':∀(j:Nat) (o:Oper),ops[j]?=some o->RFact P M (Zgd ops S) rs j o:=λj o ho=>by
  have:=hF j o (by simpa using ho)
  rwa [Vbk] at this
 have hes:∀j o,ops[j]?=some o->(Kx rs j).dst=o.dst/\∃s',LOp P M s' o (Kx rs j).v (Kx rs j).p:=λj o ho=>by
  obtain⟨y,h1,h2,_⟩:=(hF' j o ho).ex;have e:Kx rs j=⟨o.dst,y.1,y.2.pt⟩:=by unfold Kx;rw[h1];rfl
  rw[e];exact⟨rfl,_,h2⟩
 have Z4t:∀j,ops[j]?=none->Kx rs j=⟨none,.und,.no⟩:=λj hj=>by
  have:rs[j]?=none:=by
   rw[Vcz,Z3];exact Array.getElem?_eq_none_iff.1 hj
  unfold Kx;rw[this];rfl
 have hE:∀j t,(fE (Kx rs) j t).isSome=true->∃o,ops[j]?=some o/\o.dst=some t:=λj t h=>by
  cases ho:ops[j]? with
  | none=>rw[fE,Z4t j ho] at h;simp at h
  | some o=>
   refine⟨o,rfl,?_⟩;unfold fE at h;split at h
   .rename_i hh;rw[<-(hes j o ho).1];exact hh
   .cases h
 have hO:∀j k,(fO (Kx rs) j k).isSome=true->∃o,ops[j]?=some o/\o.dst=some (k / 1000)/\Wb o=true:=λj k h=>by
  cases ho:ops[j]? with
  | none=>rw[fO,Z4t j ho] at h;simp[LPt.no,no1] at h
  | some o=>
   obtain⟨_,s',h2⟩:=hes j o ho;obtain⟨q1,q2⟩:=h2.obD (k:=k) (by simpa [fO] using h);exact⟨o,rfl,q1,q2⟩
 have hK:∀j b,(fK (Kx rs) j b).isSome=true->∃o,ops[j]?=some o/\o.dst=some b/\Wb o=true:=λj b h=>by
  cases ho:ops[j]? with
  | none=>rw[fK,Z4t j ho] at h;simp[LPt.no,no1] at h
  | some o=>
   obtain⟨_,s',h2⟩:=hes j o ho;obtain⟨q1,q2⟩:=h2.bkD (b:=b) (by simpa [fK] using h);exact⟨o,rfl,q1,q2⟩
 have hX:∀j b,(fX (Kx rs) j b).isSome=true->∃x,rs[j]?=some x/\b∈x.2.2:=λj b h=>by
  cases ho:ops[j]? with
  | none=>rw[fX,Z4t j ho] at h;cases h
  | some o=>
   obtain⟨y,h1,h2,_⟩:=(hF' j o ho).ex;have e:Kx rs j=⟨o.dst,y.1,y.2.pt⟩:=by unfold Kx;rw[h1];rfl
   rw[fX,e] at h;exact⟨_,h1,bxD h⟩
 have Z8p:∀(j j':Nat) (o o':Oper) (t:Nat),ops[j]?=some o->ops[j']?=some o'->o.dst=some t->o'.dst=some t->j=j':=λj j' o o' t h1 h2 h3 h4=>Zut (f:=λo:Oper=>o.dst) hds j j' o o' t (by simpa using h1) (by simpa using h2) h3 h4;have Za5:∀(j:Nat) (o:Oper) (d:Nat),ops[j]?=some o->o.dst=some d->Wb o=true->d∈Zp0 ops:=λj o d h1 h2 h3=>Vcl.2 ⟨o,Vag (i:=j) (by simpa using h1),by rw[ZZj h3];exact h2⟩;have Zt9:∀d∈Zp0 ops,d ∉ n.U:=λd hd hU=>by
  have:=ZZk.1 hmk d hd;have h2:=Zhb.used d hU;simp at this;exact this h2
 have hA:Apt (Kx rs) (Zgd ops S):=by
  refine⟨λi j x h1 h2=>?_,λi j x h1 h2=>?_,λi j x h1 h2=>?_,λi j x h1 h2=>?_,λj x h=>?_,λj x h=>?_,λj x h=>?_,λj x h=>?_⟩
  .obtain⟨o,a1,a2⟩:=hE i x h1
   obtain⟨o',b1,b2⟩:=hE j x h2;exact Z8p i j o o' x a1 b1 a2 b2
  .obtain⟨o,a1,a2,_⟩:=hO i x h1
   obtain⟨o',b1,b2,_⟩:=hO j x h2;exact Z8p i j o o' _ a1 b1 a2 b2
  .obtain⟨o,a1,a2,_⟩:=hK i x h1
   obtain⟨o',b1,b2,_⟩:=hK j x h2;exact Z8p i j o o' _ a1 b1 a2 b2
  .obtain⟨y,a1,a2⟩:=hX i x h1
   obtain⟨z,b1,b2⟩:=hX j x h2;exact Zxk hkx i j y z x a1 b1 a2 b2
  .obtain⟨o,a1,a2⟩:=hE j x h
   show (if (dsOf ops).contains x then LV.und else S.env x)=.und;rw[ZZj];simp only[Vd4];exact Vcl.2 ⟨o,Vag (i:=j) (by simpa using a1),a2⟩
  .obtain⟨o,a1,a2,a3⟩:=hO j x h
   show S.ob x=none;cases hb:S.ob x with
   | none=>rfl
   | some b=>exact absurd (Zhb.usedO x b hb) (Zt9 _ (Za5 j o _ a1 a2 a3))
  .obtain⟨o,a1,a2,a3⟩:=hK j x h
   show S.bk x=none;cases hb:S.bk x with
   | none=>rfl
   | some b=>exact absurd (Zhb.usedB x b hb) (Zt9 _ (Za5 j o _ a1 a2 a3))
  .obtain⟨y,a1,a2⟩:=hX j x h
   show S.bx x=[];refine Zhb.noB x ?_;have hx:x∈Zp0 ops:=by
    have:=ZZk.1 hkm x (Vcu.2 ⟨y,Vag a1,a2⟩);simpa using this
   cases hb:S.bk x with
   | none=>rfl
   | some b=>exact absurd (Zhb.usedB x b hb) (Zt9 x hx)
 have hDF:∀(j:Nat) (o:Oper),ops[j]?=some o->Z37 P M (Zgd ops S) (Kx rs) (Zo7 rs) j o:=λj o ho=>by
  obtain⟨f1,f2,y,f3,f4,f5⟩:=hF' j o ho;have Zee:Zo7 rs j=Zj7 (rs.take j) o:=by unfold Zo7;rw[f3];rfl
  have e:Kx rs j=⟨o.dst,y.1,y.2.pt⟩:=by unfold Kx;rw[f3];rfl
  have htk:∀k,k < j->(rs.take j)[k]?=rs[k]?:=λk hk=>by rw[Val,ZZj hk]
  refine⟨f1,f2,λk hk=>?_,?_,by rw[e],?_,λhm d hd=>Vae _ (Za5 j o d ho hd hm)⟩
  .rw[Zee] at hk
   unfold Zj7 at hk;rw[List.mem_eraseDups] at hk;obtain⟨ed,he,hk⟩:=Vcu.1 hk;rw[Vcc] at he;have hem:ed∈o.after:=by simpa using he.1
   refine⟨ed,hem,he.2,?_⟩;rcases Vap.1 hk with rfl|hk
   .exact .inl rfl
   .right
    unfold Zo7 at hk ⊢;rw[htk _ (f2 ed hem he.2)] at hk;exact hk
  .rw[Zee,e]
   have:bld (Kx rs) (λk=>(Zj7 (rs.take j) o).contains k) (Zgd ops S) j=bld (Kx (rs.take j)) (λk=>(Zj7 (rs.take j) o).contains k) (Zgd ops S) j:=Z6i λk hk=>by
    unfold Kx;rw[htk k hk]
   rw[this];exact f4
  .rw[e]
   unfold Z3e at f5;split at f5
   .split at f5
    .rename_i hst;exact .inr ⟨_,_,_,hst⟩
    .cases f5
   .rename_i hv;exact .inl hv
 have Zz9:∀j,(Array.replicate ops.size false).getD j false=false:=λj=>by
  by_cases h:j < ops.size<;>simp[h]
 have Z4q:bld (Kx rs) (λ_=>true) (Zgd ops S) rs.length=SD (Kx rs) (Zgd ops S) (λj=>j < ops.size):=by
  rw[Z48 hA,Z3];exact Zrp λj=>by simp
 rw[Z4q] at hR;refine Z5q hP (U0:=n.U) hDF hA (λj o d ho hm hdd=>Zt9 d (Za5 j o d ho hdd hm)) ops.size _ (by simp) (by
  have:=Vda (λj=>!(Array.replicate ops.size false).getD j true) (List.range ops.size);simpa using this) (λm o hm=>by rw[Zz9] at hm;cases hm) ?_ (λd hd=>.inl hd) hd (λa' w' hA=>hQ _ _ _ _ hR hA)
 rw[Zzo (λj hj=>by rw[Zz9] at hj;cases hj)];exact hRel2
def lcK (P:Program) (M:Z7):Nat->Code->LS->KM (Ex×LS)
 | 0,_,_=>fail
 | m+1,c,s=>match c with
  | .skip=>ret (.normal,s)
  | .ret=>ret (.ret,s)
  | .exit i=>ret (.exit i,s)
  | .region _ ops d=>if d then bnd (Z3z P M ops s) λs=>ret (.normal,s) else bnd (Zp6 P M ops ops.toList s) λs=>ret (.normal,s)
  | .seq x y=>bnd (lcK P M m x s) λr=>match r.1 with
   | .normal=>lcK P M m y r.2
   | e=>ret (e,r.2)
  | .cond c x y=>match opL s c with
   | .lit (.bool t)=>bnd (Zmx t) λe=>if e then lcK P M m x s else lcK P M m y s
   | _=>fail
  | .block i c=>bnd (lcK P M m c s) λr=>if r.1=.exit i then ret (.normal,r.2) else ret r
  | _=>fail
theorem lcK_ok (hP:Z2 P):∀{m:Nat} {c:Code} {s:LS},KP (lcK P M m c s) (λr=>∀R:Ex->LS->Prop,R r.1 r.2->Lx P c s R):=by
 intro m
 induction m with
 | zero=>intro c s;exact Zb
 | succ m ih=>
  intro c s;unfold lcK;split
  .exact Zk λR h=>Yab h
  .exact Zk λR h=>Lx_ret h
  .exact Zk λR h=>Z96 h
  .rename_i d
   cases d with
   | true=>
    simp only[if_true];exact Zc (Z7d hP) (λs' hs'=>Zk λR h=>hs' R h)
   | false=>
    simp only[ZZf,if_false];exact Zc Z72 (λs' hs'=>Zk λR h=>Lx_ops hP hs' h)
  .rename_i x y
   refine Zc ih (λr hr=>?_);obtain⟨e,s1⟩:=r;simp only at hr ⊢;cases e with
   | normal=>exact ih.mono λr2 Xq R h=>Zk6 (hr _ (Xq R h))
   | ret=>exact Zk λR h=>Zk6 (hr _ h)
   | exit i=>exact Zk λR h=>Zk6 (hr _ h)
  .rename_i c x y
   split
   .rename_i t hc
    refine Zc Zh9 (λe he=>?_);subst he;refine Z9 (λht=>ih.mono λr hr R h=>Z12 hc (by rw[ht];exact hr R h)) (λht=>ih.mono λr hr R h=>Z12 hc (by rw[ZZi ht];exact hr R h))
   .exact Zb
  .rename_i i c
   refine Zc ih (λr hr=>?_);obtain⟨e,s1⟩:=r;simp only at hr ⊢;refine Z9 (λhe=>Zk λR h=>Zrs (hr _ ?_)) (λhe=>Zk λR h=>Zrs (hr _ ?_))
   .subst he
    show (if i=i then R .normal s1 else R (.exit i) s1);rw[ZZj rfl];exact h
   .cases e with
    | exit j=>
     show (if j=i then R .normal s1 else R (.exit j) s1);rw[ZZi (λe=>he (by rw[e]))];exact h
    | normal=>exact h
    | ret=>exact h
  .exact Zb
end
def look (ts ks:List Nat):Option ((Ex×LS)×List Prop×List O)->Option (Prop×Ex×List LV×List (Option LO))
 | some ((e,s),obs,[])=>some (All obs,e,ts.map s.env,ks.map s.ob)
 | _=>none
section
variable {P:Program} {M:Z7} {s:LS} {c:Code} {R:Ex->LS->Prop}
theorem Ze4 (hP:Z2 P) {ts ks:List Nat} {p:Prop} {e:Ex} {vs:List LV} {bs:List (Option LO)} (fuel:Nat) (q:List O) (hp:p) (h:look ts ks (lcK P M fuel c s q)=some (p,e,vs,bs)) (hR:∀s':LS,ts.map s'.env=vs->ks.map s'.ob=bs->R e s'):Lx P c s R:=by
 unfold look at h;split at h
 .rename_i e' s' obs W5
  simp only[ZZd,ZZe] at h;obtain⟨h1,h2,h3,h4⟩:=h;subst h1;subst h2;exact lcK_ok hP q _ _ _ W5 hp R (hR s' h3 h4)
 .cases h
def Zqa:List (Nat×LV)->Nat->LV
 | []=>λ_=>.und
 | (t,v)::l=>upd (Zqa l) t v
def Hs (ti:Nat) (ob:Nat->Option LO) (bk:Nat->Option Nat) (bx:Nat->List LV) (used:List Nat) (b:LO) (k:Int) (i:Nat):LS:=
 ⟨Zqa [(0,.ob 0),(1,.lit (.int .i64 k)),(ti,.lit (.int .i64 i))],upd ob 0 (some b),bk,bx,used⟩
structure Zkf (ti:Nat) (s:LS) (b:LO) (k:Int) (i:Nat):Prop where
 e0:s.env 0=.ob 0
 e1:s.env 1=.lit (.int .i64 k)
 ei:s.env ti=.lit (.int .i64 i)
 ob:s.ob 0=some b
theorem Zkf.of {ti:Nat} {b:LO} {k:Int} {i:Nat} (h1:[0,1,ti].map s.env=[.ob 0,.lit (.int .i64 k),.lit (.int .i64 i)]) (h2:[0].map s.ob=[some b]):Zkf ti s b k i:=by
 simp only[Vau,Vbw,Vcd,and_true] at h1 h2;exact⟨h1.1,h1.2.1,h1.2.2,h2⟩
theorem Zuv {ti:Nat} {b:LO} {k:Int} {i:Nat} (hs:Zkf ti s b k i) (h:Lx P c (Hs ti s.ob s.bk s.bx s.used b k i) R):Lx P c s R:=by
 have e:upd s.ob 0 (some b)=s.ob:=by
  funext j
  by_cases hj:j=0
  .subst hj;rw[Zl,hs.ob]
  .rw[Zz hj]
 unfold Hs at h;rw[e] at h;refine Z2l h (λt=>?_) (λd hd=>hd);by_cases h0:t=0
 .subst h0;right;rw[hs.e0];rfl
 .by_cases h1:t=1
  .subst h1;right;rw[hs.e1];rfl
  .by_cases hi:t=ti
   .subst hi;right;rw[hs.ei];simp[Zqa,upd,h0,h1]
   .left;simp[Zqa,upd,h0,h1,hi]
def Hs0 (ob:Nat->Option LO) (bk:Nat->Option Nat) (bx:Nat->List LV) (used:List Nat) (b:LO) (k:Int):LS:=
 ⟨Zqa [(0,.ob 0),(1,.lit (.int .i64 k))],upd ob 0 (some b),bk,bx,used⟩
structure Zw5 (s:LS) (b:LO) (k:Int):Prop where
 e0:s.env 0=.ob 0
 e1:s.env 1=.lit (.int .i64 k)
 ob:s.ob 0=some b
theorem Zw5.of {b:LO} {k:Int} (h1:[0,1].map s.env=[.ob 0,.lit (.int .i64 k)]) (h2:[0].map s.ob=[some b]):Zw5 s b k:=by
 simp only[Vau,Vbw,Vcd,and_true] at h1 h2;exact⟨h1.1,h1.2,h2⟩
theorem Z7x {b:LO} {k:Int} (hs:Zw5 s b k) (h:Lx P c (Hs0 s.ob s.bk s.bx s.used b k) R):Lx P c s R:=by
 have e:upd s.ob 0 (some b)=s.ob:=by
  funext j
  by_cases hj:j=0
  .subst hj;rw[Zl,hs.ob]
  .rw[Zz hj]
 unfold Hs0 at h;rw[e] at h;refine Z2l h (λt=>?_) (λd hd=>hd);by_cases h0:t=0
 .subst h0;right;rw[hs.e0];rfl
 .by_cases h1:t=1
  .subst h1;right;rw[hs.e1];rfl
  .left;simp[Zqa,upd,h0,h1]
theorem Z45 {ti:Nat} {B:Nat->LO} {K:Nat->Int} {len x:Nat} (step:∀i,i < len->∀ob bk bx used,Lx P c (Hs ti ob bk bx used (B i) (K i) i) (λe s=>e=.normal/\Zkf ti s (B (i+1)) (K (i+1)) (i+1)))
  (fin:∀ob bk bx used,Lx P c (Hs ti ob bk bx used (B len) (K len) len) (λe s=>e=.exit x/\Zkf ti s (B len) (K len) len)):
  ∀(m i:Nat),i+m=len->∀ob bk bx used,Lx P (.loop c) (Hs ti ob bk bx used (B i) (K i) i) (λe s=>e=.exit x/\Zkf ti s (B len) (K len) len):=by
 intro m
 induction m with
 | zero=>
  intro i hi ob bk bx used;have:i=len:=by omega
  subst this;refine Z14 (Zht (fin ob bk bx used) ?_);rintro e s ⟨rfl,h⟩;exact⟨rfl,h⟩
 | succ m ih=>
  intro i hi ob bk bx used;refine Z14 (Zht (step i (by omega) ob bk bx used) ?_);rintro e s ⟨rfl,h⟩;exact Zuv h (ih (i+1) (by omega) _ _ _ _)
def mkL {α:Type} (f:α->Int->α×Int):List α->Int->List α×Int
 | [],k=>([],k)
 | x::l,k=>let y:=f x k;let z:=mkL f l y.2;(y.1::z.1,z.2)
def mkN {α:Type} (f:α->Int->α×Int):Nat->List α->Int->List α×Int
 | 0,l,k=>(l,k)
 | _+1,[],k=>([],k)
 | i+1,x::l,k=>let y:=f x k;let z:=mkN f i l y.2;(y.1::z.1,z.2)
variable {α:Type} {f:α->Int->α×Int}
omit [Anchor] in
theorem Z18:∀{i:Nat} {l:List α} {k:Int},(mkN f i l k).1.length=l.length:=by
 intro i
 induction i with
 | zero=>intro l k;rfl
 | succ i ih=>intro l k;cases l with
  | nil=>rfl
  | cons x l=>simp[mkN,ih]
omit [Anchor] in
theorem Zp9:∀{l:List α} {k:Int},mkN f l.length l k=mkL f l k:=by
 intro l
 induction l with
 | nil=>intro k;rfl
 | cons x l ih=>intro k;simp only[Vad,mkN,mkL,ih]
omit [Anchor] in
theorem Z6w:∀{i:Nat} {l:List α} {k:Int} {x:α},l[i]?=some x->(mkN f i l k).1[i]?=some x/\mkN f (i+1) l k=((mkN f i l k).1.set i (f x (mkN f i l k).2).1,(f x (mkN f i l k).2).2):=by
 intro i
 induction i with
 | zero=>
  intro l k x h;cases l with
  | nil=>simp at h
  | cons y l=>
   have e:y=x:=by simpa using h
   subst e;exact⟨rfl,rfl⟩
 | succ i ih=>
  intro l k x h;cases l with
  | nil=>simp at h
  | cons y l=>
   obtain⟨h1,h2⟩:=ih (l:=l) (k:=(f y k).2) (x:=x) (by simpa using h);refine⟨by simpa [mkN] using h1,?_⟩;rw[show mkN f (i+1+1) (y::l) k=((f y k).1::(mkN f (i+1) l (f y k).2).1,(mkN f (i+1) l (f y k).2).2) from rfl,h2];rfl
omit [Anchor] in
theorem Z1z {α β:Type} {g:α->β}:∀{l:List α} {i:Nat} {x:α},(l.set i x).map g=(l.map g).set i (g x):=by
 intro l
 induction l with
 | nil=>intro i x;rfl
 | cons y l ih=>intro i x;cases i<;>simp[ih]
omit [Anchor] in
theorem set_at {α:Type} {l:List α} {i:Nat} {x y:α} (h:l[i]?=some x):(l.set i y)[i]?=some y:=by
 rw[List.getElem?_set_self (ZZh.1 h).1]
omit [Anchor] in
theorem Zc7 {i:Nat}:Y3 (toV (.lit (.int .i64 (i:Int))))=some i:=by
 simp[toV,Y3]
theorem Z9o (hP:Z2 P) {f0:FuncId} {fn:Func} {r0 r1 body post:Code} {x ti rt:Nat} {enc:α->List V} (Ku:P.funcs[f0]?=some fn) (hc:fn.body=some (.seq r0 (.seq (.seq r1 (.block x (.loop body))) post))) (hr:fn.results=#[.tmp rt]) (l:List α) (k:Int) {Qp:α->Prop} (hq:∀x∈l,Qp x)
  (Ya:∀ts,Lx P r0 (Zu3 ts false [.tr (l.map enc)] k) (λe s=>e=.normal/\Zw5 s ⟨true,(ts 0).1,(ts 0).2,l.map enc⟩ k))
  (X6:∀(l:List α) (k:Int) (z e:Nat) ob bk bx used,Lx P r1 (Hs0 ob bk bx used ⟨true,z,e,l.map enc⟩ k) (λex s=>ex=.normal/\Zkf ti s ⟨true,z,e,l.map enc⟩ k 0))
  (step:∀(l:List α) (i:Nat) (a:α) (k:Int) (z e:Nat) ob bk bx used,l[i]?=some a->i < 1152921504606846976->Qp a->Lx P body (Hs ti ob bk bx used ⟨true,z,e,l.map enc⟩ k i) (λex s=>ex=.normal/\Zkf ti s ⟨true,z,e,(l.set i (f a k).1).map enc⟩ (f a k).2 (i+1)))
  (fin:∀(l:List α) (k:Int) (z e:Nat) ob bk bx used,Lx P body (Hs ti ob bk bx used ⟨true,z,e,l.map enc⟩ k l.length) (λex s=>ex=.exit x/\Zkf ti s ⟨true,z,e,l.map enc⟩ k l.length))
  (Zxg:∀(l:List α) (k:Int) (z e:Nat) (i:Nat) ob bk bx used,Lx P post (Hs ti ob bk bx used ⟨true,z,e,l.map enc⟩ k i) (λex s=>ex=.ret/\s.env rt=.lit (.int .i64 k)/\s.ob 0=some ⟨true,z,e,l.map enc⟩)) (hl:l.length<=1152921504606846976):
  Zb8 P f0 false [.tr (l.map enc)] [.tr ((mkL f l k).1.map enc)] k (mkL f l k).2:=by
 refine mk_ok hP Ku hc hr (by simp) (.inr rfl) λts=>Zk6 (Zht (Ya ts) ?_);rintro e s ⟨rfl,hs⟩;refine Zk6 (Zk6 (Z7x hs (Zht (X6 l k _ _ _ _ _ _) ?_)));rintro e s ⟨rfl,hs⟩;refine Zuv hs (Zrs ?_);have hloop:=Z45 (P:=P) (c:=body) (ti:=ti) (B:=λi=>⟨true,(ts 0).1,(ts 0).2,(mkN f i l k).1.map enc⟩) (K:=λi=>(mkN f i l k).2) (len:=l.length) (x:=x)
  (λi hi ob bk bx used=>by
   have hx:l[i]?=some l[i]:=Vab hi;obtain⟨h1,h2⟩:=Z6w (f:=f) (k:=k) hx;have:=step (mkN f i l k).1 i _ (mkN f i l k).2 (ts 0).1 (ts 0).2 ob bk bx used h1 (by omega) (hq _ (Vag hx));rw[h2];exact this)
  (λob bk bx used=>by
   have:=fin (mkN f l.length l k).1 (mkN f l.length l k).2 (ts 0).1 (ts 0).2 ob bk bx used;rw[Z18] at this;exact this) l.length 0 (by omega) s.ob s.bk s.bx s.used
 refine Zht hloop ?_;rintro e s2 ⟨rfl,hs2⟩;show (if x=x then Z3l _ _ .normal s2 else _);rw[ZZj rfl];refine Zuv hs2 (Zht (Zxg _ _ _ _ _ _ _ _ _) ?_);rintro e s3 ⟨rfl,h1,h2⟩;simp only[Zp9] at h1 h2;exact⟨rfl,h1,h2,trivial⟩
theorem Zxi (hP:Z2 P) {f0:FuncId} {fn:Func} {r0 r1 body post:Code} {enc:α->List V} (Ku:P.funcs[f0]?=some fn) (hc:fn.body=some (.seq r0 (.seq (.seq r1 (.block 0 (.loop body))) post))) (hr:fn.results=#[.tmp 4]) (l:List α) (k:Int) {Qp:α->Prop} (hq:∀x∈l,Qp x) (hl:l.length<=1152921504606846976)
  (e0:∀ts,look [0,1] [0] (lcK P M 100 r0 (Zu3 ts false [.tr (l.map enc)] k) [])=some (True,.normal,[.ob 0,.lit (.int .i64 k)],[some ⟨true,(ts 0).1,(ts 0).2,l.map enc⟩]))
  (e1:∀(l:List α) (k:Int) (z e:Nat) ob bk bx used,look [0,1,5] [0] (lcK P M 100 r1 (Hs0 ob bk bx used ⟨true,z,e,l.map enc⟩ k) [])=some (True,.normal,[.ob 0,.lit (.int .i64 k),.lit (.int .i64 0)],[some ⟨true,z,e,l.map enc⟩]))
  (e3:∀(l:List α) (k:Int) (z e:Nat) ob bk bx used,look [0,1,5] [0] (lcK P M 100 body (Hs 5 ob bk bx used ⟨true,z,e,l.map enc⟩ k l.length) [.t false])=some (decide ((l.length:Int) < ((l.map enc).length:Int))=false/\True,.exit 0,[.ob 0,.lit (.int .i64 k),.lit (.int .i64 (l.length:Int))],[some ⟨true,z,e,l.map enc⟩]))
  (e4:∀(l:List α) (k:Int) (z e:Nat) (i:Nat) ob bk bx used,look [4] [0] (lcK P M 100 post (Hs 5 ob bk bx used ⟨true,z,e,l.map enc⟩ k i) [])=some (True,.ret,[.lit (.int .i64 k)],[some ⟨true,z,e,l.map enc⟩]))
  (step:∀(l:List α) (i:Nat) (a:α) (k:Int) (z e:Nat) ob bk bx used,l[i]?=some a->i < 1152921504606846976->Qp a->Lx P body (Hs 5 ob bk bx used ⟨true,z,e,l.map enc⟩ k i) (λex s=>ex=.normal/\Zkf 5 s ⟨true,z,e,(l.set i (f a k).1).map enc⟩ (f a k).2 (i+1))):
  Zb8 P f0 false [.tr (l.map enc)] [.tr ((mkL f l k).1.map enc)] k (mkL f l k).2:=
 Z9o hP Ku hc hr l k hq (λts=>Ze4 (M:=M) hP 100 [] trivial (e0 ts) (λs h1 h2=>⟨rfl,.of h1 h2⟩)) (λl k z e ob bk bx used=>Ze4 (M:=M) hP 100 [] trivial (e1 l k z e ob bk bx used) (λs h1 h2=>⟨rfl,.of h1 h2⟩)) step
  (λl k z e ob bk bx used=>Ze4 (M:=M) hP 100 [.t false] ⟨by simp,trivial⟩ (e3 l k z e ob bk bx used) (λs h1 h2=>⟨rfl,.of h1 h2⟩)) (λl k z e i ob bk bx used=>Ze4 (M:=M) hP 100 [] trivial (e4 l k z e i ob bk bx used) (λs h1 h2=>⟨rfl,by simpa using h1,by simpa using h2⟩)) hl
end
end Go.Proofs.YthdljdelfgofdaaGreatDoor.Ev
