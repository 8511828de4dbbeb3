/- A part of the proof of FnDeskWorks: see the text YthdljdelfgofdaaGreatDoorLawFnDeskWorks for what is proved and its conditions. Conditions here: those in each line. -/
import Derived.Test.YthdljdelfgofdaaGreatDoorA2
import Derived.KernelRfl
import Derived.Lib.AtoiAll
import Derived.Lib.ItoaNum
import Derived.Lib.Join
import Derived.Lib.Split
import Derived.Lib.Strings
import GoSem.ClaimData
set_option linter.unusedSimpArgs false
set_option linter.unusedVariables false
set_option linter.unusedSectionVars false
namespace Go.Proofs.YthdljdelfgofdaaGreatDoor.Ev
open Go Go.RowKit
variable [Anchor]
inductive O where
 | t (b:Bool)
 | k
 | row (n:Nat) (r:List V)
 | cell (r:List V)
 | put (r:List V) (R:List (List V))
 | num (l h n:Nat) (R:List (List V))
 | app (m:List (List V)) (lb:Bool) (R:List (List V)) (n:Nat)
 | mk (n:Nat) (R:List (List V))
 | res (r:V) (os:List V)
 | val (v:V)
 | stop
 | enter
 | B8
def Oh:List Prop->Prop
 | []=>True
 | p::ps=>p/\Oh ps
theorem Oh.app {a b:List Prop} (h:Oh (a++b)):Oh a/\Oh b:=by
 induction a with
 | nil=>exact⟨trivial,h⟩
 | cons p a ih=>exact⟨⟨h.1,(ih h.2).1⟩,(ih h.2).2⟩
abbrev KM (α:Type):=List O->Option (α×List Prop×List O)
namespace KM
def ret {α:Type} (a:α):KM α:=λq=>some (a,[],q)
def AA {α β:Type} (x:KM α) (f:α->KM β):KM β:=λq=>match x q with
 | some (a,o1,q1)=>match f a q1 with
  | some (b,o2,q2)=>some (b,o1++o2,q2)
  | none=>none
 | none=>none
def opt {α:Type} (x:Option α):KM α:=λq=>match x with|some a=>some (a,[],q)|none=>none
def B8 (p:Prop):KM Unit:=λq=>some ((),[p],q)
def BS:KM O:=λq=>match q with|o::q=>some (o,[],q)|[]=>none
def fail {α:Type}:KM α:=λ_=>none
end KM
def KS {α:Type} (x:KM α) (y:Option α):Prop:=∀q a E5 q',x q=some (a,E5,q')->Oh E5->y=some a
def KP {α:Type} (x:KM α) (Q:α->Prop):Prop:=∀q a E5 q',x q=some (a,E5,q')->Oh E5->Q a
section
variable {α β:Type}
theorem KS.kp {x:KM α} {y:Option α} (h:KS x y):KP x (λa=>y=some a):=h
theorem KP.mono {x:KM α} {Q Q':α->Prop} (h:KP x Q) (hq:∀a,Q a->Q' a):KP x Q':=λq a E5 q' e ho=>hq a (h q a E5 q' e ho)
theorem Yb {a:α} {Q:α->Prop} (h:Q a):KP (KM.ret a) Q:=λq b E5 q' e ho=>by
 simp only[KM.ret,AB,A6] at e;obtain⟨rfl,_⟩:=e;exact h
theorem Zu {Q:α->Prop}:KP (KM.fail:KM α) Q:=λq b E5 q' e ho=>by cases e
theorem Zr {x:KM α} {f:α->KM β} {Q:α->Prop} {R:β->Prop} (h:KP x Q) (hf:∀a,Q a->KP (f a) R):KP (KM.AA x f) R:=λq b E5 q' e ho=>by
 simp only[KM.AA] at e;split at e
 .rename_i a o1 q1 h1
  split at e
  .rename_i b' o2 q2 h2
   simp only[AB,A6] at e;obtain⟨rfl,rfl,rfl⟩:=e;obtain⟨a1,a2⟩:=ho.app;exact hf a (h q a o1 q1 h1 a1) q1 b' o2 q2 h2 a2
  .cases e
 .cases e
theorem Fv {x:Option α}:KP (KM.opt x) (λa=>x=some a):=λq b E5 q' e ho=>by
 simp only[KM.opt] at e;split at e
 .simp only[AB,A6] at e
  obtain⟨rfl,_⟩:=e;rfl
 .cases e
theorem Yq {p:Prop}:KP (KM.B8 p) (λ_=>p):=λq b E5 q' e ho=>by
 simp only[KM.B8,AB,A6] at e;obtain⟨_,rfl,_⟩:=e;exact ho.1
theorem Ks:KP KM.BS (λ_=>True):=λ_ _ _ _ _ _=>trivial
theorem Qe {c:Prop} [Decidable c] {x y:KM α} {Q:α->Prop} (h1:c->KP x Q) (h2:¬c->KP y Q):KP (if c then x else y) Q:=by
 by_cases hc:c
 .rw[Aj hc];exact h1 hc
 .rw[Ak hc];exact h2 hc
theorem Kd {a:α}:KS (KM.ret a) (some a):=Yb rfl
theorem GI {x:KM α} {y:Option α} {f:α->KM β} {g:α->Option β} (h:KS x y) (hf:∀a,KS (f a) (g a)):KS (KM.AA x f) (y.bind g):=
 Zr h (λa e q b E5 q' e2 ho=>by rw[e];exact hf a q b E5 q' e2 ho)
theorem Ql {x:KM α} {y:Option α} {f:α->β} (h:KS x y):KS (KM.AA x λa=>KM.ret (f a)) (y.map f):=
 Zr h (λa e=>by rw[e];exact Yb rfl)
theorem Oi {x:Option α}:KS (KM.opt x) x:=Fv
end
open KM
def IX:Nat->Nat->Nat
 | 0,n=>n
 | m+1,n=>m+1+n
theorem Y0r (m n:Nat):IX m n=m+n:=by cases m<;>simp[IX]
def jS (rows:List (List V)) (off len:Nat):KM (List (List V)):=AA BS λo=>match o with
 | .k=>match off with
  | 0=>AA (B8 (len=rows.length)) λ_=>ret rows
  | _=>fail
 | .mk _ R=>AA (B8 (off+len<=rows.length)) λ_=>AA (B8 ((rows.drop off).take len=R)) λ_=>ret R
 | _=>fail
theorem Yvn {rows:List (List V)} {off len:Nat}:KP (jS rows off len) (λr=>off+len<=rows.length/\r=(rows.drop off).take len):=by
 unfold jS;refine Zr Ks (λo _=>?_);split
 .split
  .refine Zr Yq (λ_ h=>Yb ⟨by omega,?_⟩)
   rw[h];simp
  .exact Zu
 .exact Zr Yq (λ_ h1=>Zr Yq (λ_ h2=>Yb ⟨h1,h2.symm⟩))
 .exact Zu
def IY (s:St):V->KM (List (List V))
 | .sl id off len=>match s.heap id with
  | some b=>if b.box=false then jS b.rows off len else fail
  | none=>fail
 | .tr rows|.vw rows=>ret rows
 | .lit (.slice none 0 0)=>ret []
 | _=>fail
theorem Lo {s:St} {x:V}:KS (IY s x) (s.rowsOf x):=by
 unfold IY;split
 .rename_i id off len
  simp only[St.rowsOf];split
  .rename_i b hb
   refine Qe (λhx=>?_) (λ_=>Zu);rw[hb,Ag];refine Yvn.mono λr hr=>?_;rw[Aj ⟨hx,hr.1⟩,hr.2]
  .exact Zu
 .exact Kd
 .exact Kd
 .exact Kd
 .exact Zu
def T2 (s:St) (id:Id) (off len:Nat):KM (TypeId×List (List V)):=
 match s.heap id with
 | some b=>if b.box=false/\b.own=true/\b.cl=true then AA (jS b.rows off len) λr=>ret (b.el,r) else fail
 | none=>fail
theorem jT {s:St} {id:Id} {off len:Nat}:KS (T2 s id off len) (s.whole id off len):=by
 unfold T2 St.whole;split
 .rename_i b hb
  refine Qe (λhx=>?_) (λ_=>Zu);rw[hb,Ag];refine Zr Yvn (λr hr=>Yb ?_);rw[Aj ⟨hx.1,hx.2.1,hx.2.2,hr.1⟩,hr.2]
 .exact Zu
def jU (s:St):V->KM V
 | .lit (.slice none 0 0)=>ret (.tr [])
 | .lit v=>ret (.lit v)
 | .tr rows=>ret (.tr rows)
 | .vw rows=>ret (.tr rows)
 | .sl id off len=>AA (IY s (.sl id off len)) λr=>ret (.tr r)
 | .rp _ row off=>ret (.rp true row off)
 | _=>fail
theorem Yml {s:St} {x:V}:KS (jU s x) (s.BA x):=by
 unfold jU;split
 .exact Kd
 .rename_i v hv
  have:s.BA (.lit v)=some (.lit v):=by
   unfold St.BA;split<;>simp_all
  rw[this];exact Kd
 .exact Kd
 .exact Kd
 .exact Ql Lo
 .exact Kd
 .exact Zu
def YO (s:St):List V->KM (List V)
 | []=>ret []
 | x::r=>AA (jU s x) λy=>AA (YO s r) λz=>ret (y::z)
theorem yF {s:St}:∀{xs:List V},KS (YO s xs) (s.B0 xs):=by
 intro xs
 induction xs with
 | nil=>exact Kd
 | cons x xs ih=>exact GI Yml λy=>Ql ih
def jV (s:St):V->KM V
 | .ptr id i off=>match s.heap id with
  | some b=>if b.own=true then (match b.box,b.rows,i with
   | true,[row],0=>AA (YO s row) λcs=>ret (.rp true cs off)
   | _,_,_=>AA BS λo=>match o with
    | .cell row=>AA (B8 (b.rows[i]?=some row)) λ_=>AA (YO s row) λcs=>ret (.rp true cs off)
    | _=>fail) else fail
  | none=>fail
 | x=>jU s x
theorem Ygu {s:St} {x:V}:KS (jV s x) (s.Br x):=by
 unfold jV;split
 .rename_i id i off
  simp only[St.Br];split
  .rename_i b hb
   refine Qe (λhx=>?_) (λ_=>Zu);rw[hb,Ag,Aj hx];split
   .rename_i row h1 h2
    rw[h2];exact Ql yF
   .refine Zr Ks (λo _=>?_)
    split
    .refine Zr Yq (λ_ h=>?_)
     rw[h];exact Ql yF
    .exact Zu
  .exact Zu
 .rename_i _ hx
  have:s.Br x=s.BA x:=by
   unfold St.Br;split<;>simp_all
  rw[this];exact Yml
def yG (s:St):List V->KM (List V)
 | []=>ret []
 | x::r=>AA (jV s x) λy=>AA (yG s r) λz=>ret (y::z)
theorem Yt1 {s:St}:∀{xs:List V},KS (yG s xs) (s.By xs):=by
 intro xs
 induction xs with
 | nil=>exact Kd
 | cons x xs ih=>exact GI Ygu λy=>Ql ih
def yH (s:St):V->KM V
 | .agg cs=>AA (YO s cs) λy=>ret (.agg y)
 | .fn f Bu=>AA (yG s Bu) λy=>ret (.fn f y)
 | x=>jV s x
theorem Y5i {s:St} {x:V}:KS (yH s x) (s.C1 x):=by
 unfold yH;split
 .exact Ql yF
 .exact Ql Yt1
 .rename_i _ h1 h2
  have:s.C1 x=s.Br x:=by
   unfold St.C1;split<;>simp_all
  rw[this];exact Ygu
def jW (s:St):List Yu->List V->KM (List V)
 | _,[]=>ret []
 | ms,x::r=>AA (match ms.headD .rd with|.rd=>yH s x|_=>ret x) λy=>AA (jW s ms.tail r) λz=>ret (y::z)
theorem Y60 {s:St}:∀{xs:List V} {ms:List Yu},KS (jW s ms xs) (s.BL ms xs):=by
 intro xs
 induction xs with
 | nil=>intro ms;exact Kd
 | cons x xs ih=>
  intro ms;simp only[jW,St.BL];refine GI ?_ λy=>Ql ih;unfold St.Cn;cases ms.headD .rd<;>simp only<;>first|exact Y5i|exact Kd
def T3 (s:St) (t:Option TypeId):V->KM (V×St)
 | .lit (.slice none 0 0)=>AA (opt t) λe=>ret (.own e [],s)
 | .lit v=>ret (.lit v,s)
 | .tr rows=>ret (.tr rows,s)
 | .vw rows=>ret (.tr rows,s)
 | .sl id off len=>AA (T2 s id off len) λer=>ret (.own er.1 er.2,s.kill id)
 | _=>fail
theorem jX {s:St} {t:Option TypeId} {x:V}:KS (T3 s t x) (s.A9 t x):=by
 unfold T3;split
 .exact Ql Oi
 .rename_i v hv
  have:s.A9 t (.lit v)=some (.lit v,s):=by
   unfold St.A9;split<;>simp_all
  rw[this];exact Kd
 .exact Kd
 .exact Kd
 .exact Ql jT
 .exact Zu
def YP:List (Option TypeId)->List V->(s:St)->KM (List V×St)
 | _,[],s=>ret ([],s)
 | ts,x::r,s=>AA (T3 s (ts.headD none) x) λy=>AA (YP ts.tail r y.2) λz=>ret (y.1::z.1,z.2)
theorem yI:∀{xs:List V} {s:St} {ts:List (Option TypeId)},KS (YP ts xs s) (s.AK ts xs):=by
 intro xs
 induction xs with
 | nil=>intro s ts;exact Kd
 | cons x xs ih=>intro s ts;exact GI jX λy=>Ql ih
def jY (s:St) (ts:List (Option TypeId)):V->KM (V×St)
 | .agg cs=>AA (YP ts cs s) λy=>ret (.agg y.1,y.2)
 | x=>T3 s (ts.headD none) x
theorem Yhk {s:St} {ts:List (Option TypeId)} {x:V}:KS (jY s ts x) (s.Ba ts x):=by
 unfold jY;split
 .exact Ql yI
 .rename_i _ h1
  have:s.Ba ts x=s.A9 (ts.headD none) x:=by
   unfold St.Ba;split<;>simp_all
  rw[this];exact jX
def jZ (s:St) (ts:List (Option TypeId)) (id:Id):KM (List V×St):=
 match s.heap id with
 | some b=>if b.box=true/\b.own=true then (match b.rows with
  | [row]=>YP ts row (s.kill id)
  | _=>fail) else fail
 | none=>fail
theorem Yhj {s:St} {ts:List (Option TypeId)} {id:Id}:KS (jZ s ts id) (s.Bv ts id):=by
 unfold jZ St.Bv;split
 .rename_i b hb
  refine Qe (λhx=>?_) (λ_=>Zu);rw[hb,Ag,Aj hx];split
  .rename_i row Xg
   rw[Xg];exact yI
  .exact Zu
 .exact Zu
def yJ (s:St) (t:Option TypeId) (x:V):KM (V×St):=match x with
 | .ptr id 0 0=>AA (jZ s [] id) λy=>ret (.CL y.1,y.2)
 | x=>T3 s t x
theorem Yqg {s:St} {t:Option TypeId} {x:V}:KS (yJ s t x) (s.Bh t x):=by
 unfold yJ;split
 .exact Ql Yhj
 .rename_i Yg
  have e:s.Bh t x=s.A9 t x:=by
   unfold St.Bh;split
   .exact absurd rfl (Yg _)
   .rfl
  rw[e];exact jX
def yK:List (Option TypeId)->List V->(s:St)->KM (List V×St)
 | _,[],s=>ret ([],s)
 | ts,x::r,s=>AA (yJ s (ts.headD none) x) λy=>AA (yK ts.tail r y.2) λz=>ret (y.1::z.1,z.2)
theorem Ym1:∀{xs:List V} {s:St} {ts:List (Option TypeId)},KS (yK ts xs s) (s.AQ ts xs):=by
 intro xs
 induction xs with
 | nil=>intro s ts;exact Kd
 | cons x xs ih=>intro s ts;exact GI Yqg λy=>Ql ih
def j6 (s:St) (ts:List (Option TypeId)) (id:Id):KM (List V×St):=
 match s.heap id with
 | some b=>if b.box=true/\b.own=true then (match b.rows with
  | [row]=>yK ts row (s.kill id)
  | _=>fail) else fail
 | none=>fail
theorem Ycy {s:St} {ts:List (Option TypeId)} {id:Id}:KS (j6 s ts id) (s.Bd ts id):=by
 unfold j6 St.Bd;split
 .rename_i b hb
  refine Qe (λhx=>?_) (λ_=>Zu);rw[hb,Ag,Aj hx];split
  .rename_i row Xg
   rw[Xg];exact Ym1
  .exact Zu
 .exact Zu
def yL:V->KM V
 | .sl id off len=>AA BS λo=>match o with
  | .t true=>AA (B8 (len=0)) λ_=>ret (.tr [])
  | .t false=>AA (B8 (len≠0)) λ_=>ret (.sl id off len)
  | _=>fail
 | x=>ret x
theorem Ypd {x:V}:KP (yL x) (λy=>BV x=y):=by
 cases x with
 | sl id off len=>
  refine Zr Ks (λo _=>?_);cases o with
  | t b=>cases b with
   | true=>exact Zr Yq (λ_ h=>Yb (by subst h;rfl))
   | false=>exact Zr Yq (λ_ h=>Yb (by cases len with|zero=>exact absurd rfl h|succ n=>rfl))
  | _=>exact Zu
 | _=>exact Yb rfl
def yM:List V->KM (List V)
 | []=>ret []
 | x::xs=>AA (yL x) λy=>AA (yM xs) λys=>ret (y::ys)
theorem Y69:∀{xs:List V},KP (yM xs) (λys=>xs.map BV=ys):=by
 intro xs
 induction xs with
 | nil=>exact Yb rfl
 | cons x xs ih=>exact Zr Ypd (λy hy=>Zr ih (λys QW=>Yb (by rw[<-hy,<-QW];rfl)))
def j7:V->KM V
 | .agg cs=>AA (yM cs) λys=>ret (.agg ys)
 | x=>yL x
theorem Ytb {x:V}:KP (j7 x) (λy=>thin x=y):=by
 cases x with
 | agg cs=>exact Zr Y69 (λys h=>Yb (by rw[<-h];rfl))
 | _=>simp only[j7,thin];exact Ypd
def yN (ts:List (Option TypeId)) (m:Yu) (x:V) (s:St):KM (V×St):=
 match m with
 | .rd=>ret (x,s)
 | .io=>match x with
  | .ptr id 0 0=>AA (j6 s ts id) λy=>ret (.agg y.1,y.2)
  | _=>fail
 | .mv=>jY s ts x
 | .Ey=>AA (j7 x) λy=>jY s ts y
theorem Y8g {s:St} {ts:List (Option TypeId)} {m:Yu} {x:V}:KS (yN ts m x s) (s.Dd ts m x):=by
 unfold yN St.Dd;cases m
 .exact Kd
 .simp only
  split
  .exact Ql Ycy
  .exact Zu
 .exact Yhk
 .refine Zr Ytb (λy hy=>?_)
  rw[<-hy];exact Yhk
def yO (s:St) (m:Yu) (e k:Nat) (x o:V):KM St:=match m with
 | .Ey=>AA (j7 x) λy=>opt (match y,o with
  | .agg cs,.agg ns=>s.AO cs ns
  | x,o=>s.AO [x] [o])
 | .rd=>ret s
 | .mv=>ret s
 | .io=>opt (s.back .io e k x o)
theorem Y7t {s:St} {m:Yu} {e k:Nat} {x o:V}:KS (yO s m e k x o) (s.back m e k x o):=by
 cases m
 .exact Kd
 .exact Oi
 .exact Kd
 .simp only[yO,St.back]
  refine Zr Ytb (λy hy=>?_);rw[hy];exact Oi
def yP (e:Nat):List Yu->(k:Nat)->List V->List V->(s:St)->KM St
 | _,_,[],_,s=>ret s
 | ms,k,x::xs,o::os,s=>AA (yO s (ms.headD .rd) e k x o) λs=>yP e ms.tail (k+1) xs os s
 | _,_,_::_,[],_=>fail
theorem Y6m {e:Nat}:∀{xs:List V} {s:St} {ms:List Yu} {k:Nat} {os:List V},KS (yP e ms k xs os s) (s.BE e ms k xs os):=by
 intro xs
 induction xs with
 | nil=>intro s ms k os;exact Kd
 | cons x xs ih=>
  intro s ms k os;cases os with
  | nil=>exact Zu
  | cons o os=>exact GI Y7t λs=>ih
def yQ (P:Program):List TypeId->List Yu->List V->(s:St)->KM (List V×St)
 | _,_,[],s=>ret ([],s)
 | ts,ms,x::r,s=>AA (yN (Ti P (ts.headD 0)) (ms.headD .rd) x s) λy=>AA (yQ P ts.tail ms.tail r y.2) λz=>ret (y.1::z.1,z.2)
theorem Y6o {P:Program}:∀{xs:List V} {s:St} {ts:List TypeId} {ms:List Yu},KS (yQ P ts ms xs s) (s.Bs P ts ms xs):=by
 intro xs
 induction xs with
 | nil=>intro s ts ms;exact Kd
 | cons x xs ih=>intro s ts ms;exact GI Y8g λy=>Ql ih
def M9:List V->(s:St)->KM (List V×Bool×St)
 | [],s=>ret ([],true,s)
 | x::r,s=>
  match x with
  | .lit (.slice none 0 0)=>AA (M9 r s) λy=>ret (.tr []::y.1,y.2)
  | .lit v=>AA (M9 r s) λy=>ret (.lit v::y.1,y.2)
  | .tr rows|.vw rows=>AA (M9 r s) λy=>ret (.tr rows::y.1,false,y.2.2)
  | .sl id off len=>match s.heap id with
   | some b=>if b.own=true/\b.box=false/\b.cl=true then AA (T2 s id off len) λer=>AA (M9 r (s.kill id)) λy=>ret (.tr er.2::y.1,y.2)
    else if b.own=false then AA (IY s (.sl id off len)) λrows=>AA (M9 r s) λy=>ret (.tr rows::y.1,false,y.2.2) else fail
   | none=>fail
  | _=>fail
def yR:List (List V)->(s:St)->KM (List (List V)×Bool×St)
 | [],s=>ret ([],true,s)
 | row::r,s=>AA (M9 row s) λy=>AA (yR r y.2.2) λz=>ret (y.1::z.1,y.2.1&&z.2.1,z.2.2)
theorem Yuz:∀{xs:List V} {s:St},KS (M9 xs s) (s.sink xs):=by
 intro xs
 induction xs with
 | nil=>intro s;exact Kd
 | cons x xs ih=>
  intro s;unfold M9;split
  .exact Ql ih
  .rename_i v hv
   have:s.sink (.lit v::xs)=(s.sink xs).map λy=>(.lit v::y.1,y.2):=by
    conv=>lhs;unfold St.sink
    split<;>simp_all
   rw[this];exact Ql ih
  .exact Ql ih
  .exact Ql ih
  .rename_i id off len
   simp only[St.sink];split
   .rename_i b hb
    refine Qe (λhx=>?_) (λhn=>Qe (λho=>?_) (λ_=>Zu))
    .refine Zr jT (λer he=>?_)
     rw[he];exact Ql ih
    .refine Zr Lo (λrows hr=>?_)
     have hw:s.whole id off len=none:=by
      unfold St.whole;rw[hb,Ag,Ak (λh=>by rw[ho] at h;cases h.2.1)]
     simp only[hw,hb,ho,if_true];rw[hr,Ag];exact Ql ih
   .exact Zu
  .exact Zu
theorem Yto:∀{xs:List (List V)} {s:St},KS (yR xs s) (s.Bp xs):=by
 intro xs
 induction xs with
 | nil=>intro s;exact Kd
 | cons x xs ih=>intro s;exact GI Yuz λy=>Ql ih
end Go.Proofs.YthdljdelfgofdaaGreatDoor.Ev
namespace Go.Proofs.YthdljdelfgofdaaGreatDoor.Ev
open Go Go.RowKit KM
variable [Anchor]
section
variable {P:Program} {M:X6}
def yS (ts:List (Option TypeId)) (x:V) (s:St):KM (V×St):=
 match x with
 | .agg cs=>AA (YP ts cs s) λy=>ret (.agg y.1,y.2)
 | .ptr id 0 0=>AA (jZ s ts id) λy=>ret (.CL y.1,y.2)
 | x=>T3 s (ts.headD none) x
theorem Yx7 {s:St} {ts:List (Option TypeId)} {x:V}:KS (yS ts x s) (s.BD ts x):=by
 unfold yS;split
 .exact Ql yI
 .exact Ql Yhj
 .rename_i _ h1 h2
  have:s.BD ts x=s.A9 (ts.headD none) x:=by
   unfold St.BD;split<;>simp_all
  rw[this];exact jX
def yT (P:Program):List TypeId->List V->(s:St)->KM (List V×St)
 | _,[],s=>ret ([],s)
 | ts,x::r,s=>AA (yS (Ti P (ts.headD 0)) x s) λy=>AA (yT P ts.tail r y.2) λz=>ret (y.1::z.1,z.2)
theorem Yxp:∀{xs:List V} {s:St} {ts:List TypeId},KS (yT P ts xs s) (s.liftAll P ts xs):=by
 intro xs
 induction xs with
 | nil=>intro s ts;exact Kd
 | cons x xs ih=>intro s ts;exact GI Yx7 λy=>Ql ih
def QX (p:Nat):(k:Nat)->List V->(s:St)->KM (List V×St)
 | _,[],s=>ret ([],s)
 | k,x::r,s=>match x with
  | .own e rows=>AA (T2 s (0,64*p+k) 0 rows.length) λer=>if er.1=e then AA (QX p (k+1) r (s.kill (0,64*p+k))) λz=>ret (.own er.1 er.2::z.1,z.2) else fail
  | _=>AA (QX p (k+1) r s) λz=>ret (.undef::z.1,z.2)
theorem Yc0 {p:Nat}:∀{xs:List V} {k:Nat} {s:St},KS (QX p k xs s) (s.AY p k xs):=by
 intro xs
 induction xs with
 | nil=>intro k s;exact Kd
 | cons x xs ih=>
  intro k s;cases x with
  | own e rows=>
   simp only[QX,St.AY];refine Zr jT (λer he=>?_);rw[he,Ag];refine Qe (λhx=>?_) (λ_=>Zu);rw[Aj hx];exact Ql ih
  | _=>
   simp only[QX,St.AY];exact Ql ih
def MA (p:Nat) (ts:List (Option TypeId)) (m:Yu) (x:V) (s:St):KM (V×St):=
 match m with
 | .rd|.mv=>ret (.undef,s)
 | .io=>match x with
  | .agg cs=>AA (j6 s ts (0,64*p+63)) λy=>if y.1.length=cs.length then ret (.agg y.1,y.2) else fail
  | _=>fail
 | .Ey=>match x with
  | .agg cs=>AA (QX p 0 cs s) λy=>ret (.agg y.1,y.2)
  | x=>AA (QX p 0 [x] s) λy=>AA (opt y.1.head?) λv=>ret (v,y.2)
theorem Xa1 {s:St} {p:Nat} {ts:List (Option TypeId)} {m:Yu} {x:V}:KS (MA p ts m x s) (s.out p ts m x):=by
 cases m
 .exact Kd
 .cases x with
  | agg cs=>
   simp only[MA,St.out];refine Zr Ycy (λy hy=>?_);rw[hy];simp only[Ag];refine Qe (λhx=>?_) (λ_=>Zu);rw[Aj hx];exact Yb rfl
  | _=>exact Zu
 .exact Kd
 .cases x with
  | agg cs=>exact Ql Yc0
  | _=>simp only[MA,St.out];exact GI Yc0 λy=>Ql Oi
def yU (P:Program):(p:Nat)->List TypeId->List Yu->List V->(s:St)->KM (List V)
 | _,_,_,[],s=>ret []
 | p,ts,ms,x::r,s=>AA (MA p (Ti P (ts.headD 0)) (ms.headD .rd) x s) λy=>AA (yU P (p+1) ts.tail ms.tail r y.2) λz=>ret (y.1::z)
theorem Y86:∀{xs:List V} {s:St} {p:Nat} {ts:List TypeId} {ms:List Yu},KS (yU P p ts ms xs s) (s.outs P p ts ms xs):=by
 intro xs
 induction xs with
 | nil=>intro s p ts ms;exact Kd
 | cons x xs ih=>intro s p ts ms;exact GI Xa1 λy=>Ql ih
def QY (P:Program) (M:X6) (f:FuncId) (fn:Func) (xs:List V) (s:St):KM (V×List V):=
 AA (opt (G3 P s fn.results.toList)) λvs=>AA (yT P fn.resultTypes.toList vs s) λz=>AA (yU P 0 fn.params.toList (M.AV f) xs z.2) λos=>ret (V1 z.1,os)
theorem Yz9 {f:FuncId} {fn:Func} {xs:List V} {s:St}:KS (QY P M f fn xs s) ((G3 P s fn.results.toList).bind λvs=>(s.liftAll P fn.resultTypes.toList vs).bind λz=>(z.2.outs P 0 fn.params.toList (M.AV f) xs).map λos=>(V1 z.1,os)):=
 GI Oi λvs=>GI Yxp λz=>Ql Y86
def yV (P:Program) (M:X6) (s:St) (k:Nat) (g:FuncId) (args:List V):KM (V×St):=
 if args.length<=8 then AA (yQ P (((P.funcs[g]?).map (·.params.toList)).getD []) (M.AV g) args s) λy=>AA (jW y.2 (M.AV g) y.1) λxs=>AA BS λo=>match o with
  | .res r os=>AA (B8 (Zq P M (g,xs,r,os))) λ_=>if ((Pt r||os.any HI)&&!Iv (M.AV g) args)=true then fail else
   AA (yP s.ep (M.AV g) (16*k+8) args os y.2) λs'=>opt (s'.BB s.ep (16*k) r)
  | _=>fail
 else fail
theorem Y9d (hP:Wb P) {s:St} {k:Nat} {g:FuncId} {args:List V}:KP (yV P M s k g args) (λy=>∃C,HP P M C/\KR P M C s k g args=some y):=by
 unfold yV;refine Qe (λh8=>?_) (λ_=>Zu);refine Zr Y6o (λy hy=>Zr Y60 (λxs hx=>Zr Ks (λo _=>?_)));split
 .rename_i r os
  refine Zr Yq (λ_ hf=>Qe (λ_=>Zu) (λht=>Zr Y6m (λs' hs=>Fv.mono λz hz=>⟨one (g,xs,r,os),QO hP hf,?_⟩)));unfold KR;rw[Aj h8,hy,Ag,hx,Ag];have h1:one (g,xs,r,os) g xs=some (r,os):=by unfold one;rw[Aj ⟨rfl,rfl⟩]
  rw[h1,Ag];simp only;rw[Ak ht,hs,Ag,hz]
 .exact Zu
def yW (s:St) (all:Bool) (x:V) (m:List (List V)) (lb:Bool):KM St:=
 match x with
 | .sl id off len=>if id.1=s.ep\/all=true then (if lb=true then AA (T2 s id off len) λer=>AA (B8 (er.2=m)) λ_=>ret (s.kill id) else match s.heap id with
   | some b=>if b.cl=false then AA (IY s (.sl id off len)) λrows=>AA (B8 (rows=m)) λ_=>AA (B8 (Fe m=lb)) λ_=>ret s else fail
   | none=>fail)
  else AA (IY s x) λrows=>AA (B8 (rows=m)) λ_=>AA (B8 (Fe m=lb)) λ_=>ret s
 | x=>AA (IY s x) λrows=>AA (B8 (rows=m)) λ_=>AA (B8 (Fe m=lb)) λ_=>ret s
theorem Y4r {s:St} {all:Bool} {x:V} {m:List (List V)} {lb:Bool}:KP (yW s all x m lb) (λs1=>s.Cq all x=some (m,lb,s1)):=by
 unfold yW;split
 .rename_i id off len
  simp only[St.Cq];refine Qe (λhx=>Qe (λhl=>?_) (λ_=>?_)) (λhn=>?_)
  .refine Zr jT (λer he=>Zr Yq (λ_ hm=>Yb ?_))
   rw[Aj hx,he,hl];simp only[hm]
  .split
   .rename_i b hb
    refine Qe (λhc=>?_) (λ_=>Zu);refine Zr Lo (λrows hr=>Zr Yq (λ_ hm=>Zr Yq (λ_ hl=>Yb ?_)));have hw:s.whole id off len=none:=by
     unfold St.whole;rw[hb,Ag,Ak (λh=>by rw[hc] at h;cases h.2.2.1)]
    rw[Aj hx,hw,hr];simp only[D8,hm,hl]
   .exact Zu
  .refine Zr Lo (λrows hr=>Zr Yq (λ_ hm=>Zr Yq (λ_ hl=>Yb ?_)))
   rw[Ak hn,hr];simp only[D8,hm,hl]
 .rename_i _ Yg
  refine Zr Lo (λrows hr=>Zr Yq (λ_ hm=>Zr Yq (λ_ hl=>Yb ?_)));have:s.Cq all x=(s.rowsOf x).map λrows=>(rows,Fe rows,s):=by
   unfold St.Cq;split<;>simp_all
  rw[this,hr];simp only[D8,hm,hl]
def QZ (P:Program) (all:Bool) (s:St) (id:Id) (t:TypeId) (b x:V):KM (V×St):=
 AA (opt (Qu P t)) λe=>AA BS λo=>match o with
 | .app m lb R n=>AA (yW s all x m lb) λs1=>if Z4 P e≠0/\Mb P e=true then AA (B8 (Hh (Z4 P e) m=true)) λ_=>
  match b with
  | .lit (.slice none 0 0)=>AA (B8 (m.length*P.bytesOf e<=140737488355328/\m.length<=9223372036854775807)) λ_=>AA (B8 (m=R)) λ_=>AA (B8 (n=R.length)) λ_=>ret (.sl id 0 n,s1.A5 id ⟨false,true,lb,e,R⟩)
  | .sl i 0 len=>match s1.heap i with
   | some k=>if k.box=false/\k.own=true/\k.el=e then AA (B8 (len=k.rows.length)) λ_=>AA (B8 ((len+m.length)*P.bytesOf e<=140737488355328/\len+m.length<=9223372036854775807)) λ_=>
     AA (B8 (k.rows++m=R)) λ_=>AA (B8 (n=R.length)) λ_=>ret (.sl id 0 n,(s1.kill i).A5 id ⟨false,true,k.cl&&lb,e,R⟩) else fail
   | none=>fail
  | _=>fail
  else fail
 | _=>fail
theorem Xbo {all:Bool} {s:St} {id:Id} {t:TypeId} {b x:V}:KS (QZ P all s id t b x) (NA P all s id t b x):=by
 unfold QZ NA;refine GI Oi λe=>Zr Ks (λo _=>?_);split
 .rename_i m lb R n
  refine Zr Y4r (λs1 hm=>Qe (λhz=>Zr Yq (λ_ ha=>?_)) (λ_=>Zu));rw[hm,Ag,Aj ⟨ha,hz.1,hz.2⟩];split
  .refine Zr Yq (λ_ h1=>Zr Yq (λ_ h2=>Zr Yq (λ_ h3=>Yb ?_)))
   rw[Aj h1,h3,h2];rfl
  .rename_i i len
   simp only;split
   .rename_i k hk
    refine Qe (λhx=>?_) (λ_=>Zu);refine Zr Yq (λ_ h0=>Zr Yq (λ_ h1=>Zr Yq (λ_ h2=>Zr Yq (λ_ h3=>Yb ?_))));rw[hk,Ag,Aj ⟨hx.1,hx.2.1,by omega,hx.2.2,h1⟩,h3,<-h2,LV,Cy,h0]
   .exact Zu
  .exact Zu
 .exact Zu
def j8 (c:Bool):KM Bool:=AA BS λo=>match o with
 | .t e=>AA (B8 (c=e)) λ_=>ret e
 | .k=>ret c
 | _=>fail
theorem Yr8 {c:Bool}:KP (j8 c) (λe=>c=e):=by
 unfold j8;refine Zr Ks (λo _=>?_);split
 .exact Zr Yq (λ_ h=>Yb h)
 .exact Yb rfl
 .exact Zu
def Ra (p:Prop) [Decidable p]:KM Unit:=AA BS λo=>match o with
 | .k=>if p then ret () else fail
 | .B8=>B8 p
 | _=>fail
theorem YQ {p:Prop} [Decidable p]:KP (Ra p) (λ_=>p):=by
 unfold Ra;refine Zr Ks (λo _=>?_);split
 .exact Qe (λh=>Yb h) (λ_=>Zu)
 .exact Yq
 .exact Zu
def yX (op:BinOp) (k k':IntKind) (a b:Int):KM V:=
 match op with
 | .shl=>AA (Ra (0<=b)) λ_=>ret (.lit (.int k (k.wrap (a*2^min b.toNat k.bits))))
 | .shr=>AA (Ra (0<=b)) λ_=>ret (.lit (.int k (a.fdiv (2^min b.toNat k.bits))))
 | .quo=>if k=k' then AA (Ra (b≠0)) λ_=>ret (.lit (.int k (k.wrap (a.tdiv b)))) else fail
 | .rem=>if k=k' then AA (Ra (b≠0)) λ_=>ret (.lit (.int k (a.tmod b))) else fail
 | op=>opt (My op k k' a b)
theorem Y9j {op:BinOp} {k k':IntKind} {a b:Int}:KS (yX op k k' a b) (My op k k' a b):=by
 unfold yX;split
 .refine Zr YQ (λ_ h=>Yb ?_)
  simp only[My];rw[Ak (by omega)]
 .refine Zr YQ (λ_ h=>Yb ?_)
  simp only[My];rw[Ak (by omega)]
 .refine Qe (λhk=>Zr YQ (λ_ h=>Yb ?_)) (λ_=>Zu)
  simp only[My];rw[Aj hk,Ak h]
 .refine Qe (λhk=>Zr YQ (λ_ h=>Yb ?_)) (λ_=>Zu)
  simp only[My];rw[Aj hk,Ak h]
 .exact Oi
def yY (op:BinOp) (a b:ByteArray):KM V:=
 match op with
 | .add=>AA (Ra (¬((a.size+b.size:Nat):Int) > IntKind.i64.max)) λ_=>ret (.lit (.string (a++b)))
 | op=>opt (IN op a b)
theorem Y8w {op:BinOp} {a b:ByteArray}:KS (yY op a b) (IN op a b):=by
 unfold yY;split
 .refine Zr YQ (λ_ h=>Yb ?_)
  simp only[IN];rw[Ak h]
 .exact Oi
def Dk (P:Program) (M:X6) (f:Operand->V) (s:St) (k:Nat) (o:Oper):KM (V×St):=
 match o.op with
 | .binOp op t x y yt=>match f x,f y with
  | .lit (.int k1 a),.lit (.int k2 b)=>AA (yX op k1 k2 a b) λv=>ret (v,s)
  | .lit (.string a),.lit (.string b)=>AA (yY op a b) λv=>ret (v,s)
  | .lit (.bool a),.lit (.bool b)=>match op,P.underlying t with
   | .eql,some .bool=>ret (.lit (.bool (a == b)),s)
   | .neq,some .bool=>ret (.lit (.bool (a != b)),s)
   | _,_=>fail
  | .agg xs,.agg ys=>if (EG xs).isSome=true/\(EG ys).isSome=true/\QV P t xs=true then AA (opt (FK xs ys)) λb=>match op with
   | .eql=>ret (.lit (.bool b),s)
   | .neq=>ret (.lit (.bool (!b)),s)
   | _=>fail
   else fail
  | a,.lit (.slice none 0 0)=>match a with
   | .sl ..|.tr _|.vw _=>if (Qu P t).isSome=true then AA (IY s a) λrows=>AA (B8 (rows≠[])) λ_=>match op with
    | .eql=>ret (.lit (.bool false),s)
    | .neq=>ret (.lit (.bool true),s)
    | _=>fail
    else fail
   | _=>opt (Xj P M X0 f s k o)
  | _,_=>opt (Xj P M X0 f s k o)
 | .buildSlice t n parts=>AA (opt (Qu P t)) λe=>AA (opt (if n*Z4 P e=0 then some [] else Fc P e)) λz=>
  if Z4 P e=0\/n*Z4 P e > 1048576\/Mb P e=false then fail else
  AA (opt (Ir P (λi=>some (i*Z4 P e,Z4 P e)) (List.replicate n z).flatten (parts.toList.map λp=>(p.1,f p.2)))) λcs=>
   AA (yR (Is (Z4 P e) n cs) s) λy=>ret (.sl (s.ep,1024*k) 0 n,y.2.2.A5 (s.ep,1024*k) ⟨false,true,y.2.1,e,y.1⟩)
 | .pick c a b=>match f c with
  | .lit (.bool t)=>AA (j8 t) λe=>if e then ret (f a,s) else ret (f b,s)
  | _=>fail
 | .indexAddr t x ix=>AA (opt (Qu P t)) λe=>if Z4 P e=0 then fail else AA BS λq=>match q with
  | .row n r=>if r.length=Z4 P e then AA (B8 (Wz (f ix)=some n)) λ_=>match f x with
   | .sl i off len=>AA (B8 (n < len)) λ_=>match s.heap i with
    | some b=>AA (B8 (b.rows[IX off n]?=some r)) λ_=>ret (.ptr i (IX off n) 0,s)
    | none=>fail
   | .tr rows=>AA (B8 (rows[n]?=some r)) λ_=>ret (.rp true r 0,s)
   | .vw rows=>AA (B8 (rows[n]?=some r)) λ_=>ret (.rp false r 0,s)
   | _=>fail
   else fail
  | _=>fail
 | .load t a=>match f a with
  | .ptr i j n=>match s.heap i with
   | some b=>match b.box with
    | true=>opt (Xj P M X0 f s k o)
    | false=>AA BS λq=>match q with
     | .cell row=>AA (B8 (b.rows[j]?=some row)) λ_=>if n+Z4 P t<=row.length then AA (opt (KO P t ((row.drop n).take (Z4 P t)))) λv=>ret (v,s) else fail
     | _=>fail
   | none=>fail
  | _=>opt (Xj P M X0 f s k o)
 | .store t a x=>match f a with
  | .ptr i j n=>match s.heap i with
   | some b=>match b.box with
    | true=>opt (Xj P M X0 f s k o)
    | false=>AA BS λq=>match q with
     | .put row R=>AA (B8 (b.rows[j]?=some row)) λ_=>AA (opt (LZ (f x))) λcs=>if b.own=true/\cs.length=Z4 P t/\n+Z4 P t<=row.length/\Z4 P t≠0 then
       AA (M9 cs s) λy=>match y.2.2.heap i with
        | some b=>AA (B8 (b.rows.set j (Dh row n y.1)=R)) λ_=>ret (.undef,y.2.2.A5 i ⟨b.box,b.own,b.cl&&y.2.1,b.el,R⟩)
        | none=>fail
       else fail
     | _=>fail
   | none=>fail
  | _=>fail
 | .slice t x lo hi none=>match f x with
  | .sl id off len=>AA BS λq=>match q with
   | .num l h n R=>AA (opt (Qu P t)) λe=>AA (IY s (f x)) λrows=>AA (B8 (match lo with|some z=>Wz (f z)=some l|none=>l=0)) λ_=>AA (B8 (match hi with|some z=>Wz (f z)=some h|none=>rows.length=h)) λ_=>
    AA (B8 (l<=h/\h<=rows.length)) λ_=>AA (B8 (Hh (Z4 P e) rows=true)) λ_=>AA (B8 (n=h - l)) λ_=>if Z4 P e≠0 then ret (.sl id (IX off l) n,s) else fail
   | _=>fail
  | .tr _|.vw _=>AA BS λq=>match q with
   | .num l h n R=>AA (opt (Qu P t)) λe=>AA (IY s (f x)) λrows=>AA (B8 (match lo with|some z=>Wz (f z)=some l|none=>l=0)) λ_=>AA (B8 (match hi with|some z=>Wz (f z)=some h|none=>rows.length=h)) λ_=>
    AA (B8 (l<=h/\h<=rows.length)) λ_=>AA (B8 (Hh (Z4 P e) rows=true)) λ_=>AA (B8 ((rows.drop l).take (h - l)=R)) λ_=>if Z4 P e≠0 then ret ((match f x with|.tr _=>.tr R|_=>.vw R),s) else fail
   | _=>fail
  | .lit (.string b)=>match P.underlying t with
   | some .string=>AA BS λq=>match q with
    | .val (.lit (.string c))=>AA (B8 (QK b (lo.map f) (hi.map f)=some c)) λ_=>ret (.lit (.string c),s)
    | _=>fail
   | _=>fail
  | _=>opt (Xj P M X0 f s k o)
 | .index t x ix=>match f x with
  | .lit (.string b)=>match P.underlying t with
   | some .string=>AA BS λq=>match q with
    | .val (.lit (.int _ m))=>AA (B8 (IP b (f ix)=some m)) λ_=>ret (.lit (.int .u8 m),s)
    | _=>fail
   | _=>fail
  | _=>opt (Xj P M X0 f s k o)
 | .convert src dst x=>match f x with
  | .sl ..|.tr _|.vw _=>match P.underlying src,P.underlying dst with
   | some (.slice e),some .string=>match P.underlying e with
    | some (.int .u8)=>AA (IY s (f x)) λrows=>AA BS λq=>match q with
     | .val (.lit (.string c))=>AA (B8 (Mz rows=some c)) λ_=>ret (.lit (.string c),s)
     | _=>fail
    | _=>fail
   | _,_=>fail
  | _=>opt (Xj P M X0 f s k o)
 | .makeSlice t l c=>AA BS λq=>match q with
  | .mk n R=>AA (opt (Qu P t)) λe=>AA (opt (Fc P e)) λz=>AA (B8 (Wz (f l)=some n)) λ_=>AA (B8 (Wz (f c)=some n)) λ_=>AA (B8 (n*P.bytesOf e<=70368744177664/\n<=9223372036854775807)) λ_=>
   AA (B8 (List.replicate n (z.map EH)=R)) λ_=>if z.length=Z4 P e/\Z4 P e≠0 then ret (.sl (s.ep,1024*k) 0 R.length,s.A5 (s.ep,1024*k) ⟨false,true,true,e,R⟩) else fail
  | _=>fail
 | .call c=>match c.callee with
  | .value g=>match f g with
   | .fn g Bu=>yV P M s k g (c.args.toList.map f++Bu)
   | _=>fail
  | .builtin .append=>match c.args.toList,c.argTypes.toList with
   | [b,x],[t,t']=>if t=t' then QZ P (M.mv o.pos) s (s.ep,1024*k) t (f b) (f x) else fail
   | _,_=>fail
  | .builtin .len=>match c.args.toList,c.argTypes.toList with
   | [x],[t]=>match f x with
    | .sl _ _ n=>AA BS λq=>match q with
     | .num m _ _ _=>AA (B8 (n=m)) λ_=>if (Qu P t).isSome=true then ret (.lit (.int .i64 m),s) else fail
     | _=>fail
    | .tr rows|.vw rows=>AA BS λq=>match q with
     | .num m _ _ _=>AA (B8 (rows.length=m)) λ_=>if (Qu P t).isSome=true then ret (.lit (.int .i64 m),s) else fail
     | _=>fail
    | _=>opt (Xj P M X0 f s k o)
   | _,_=>fail
  | .builtin .clear=>match c.args.toList,c.argTypes.toList with
   | [x],[t]=>AA (opt (Qu P t)) λe=>AA (opt (Fc P e)) λz=>match f x with
    | .sl i off n=>match s.heap i with
     | some b=>AA BS λq=>match q with
      | .app R _ _ _=>if b.own=true/\b.box=false/\b.el=e/\z.length=Z4 P e/\Z4 P e≠0 then AA (B8 (off+n<=b.rows.length)) λ_=>
        AA (B8 (b.rows.take off++List.replicate n (z.map EH)++b.rows.drop (off+n)=R)) λ_=>ret (.AZ [],s.A5 i ⟨b.box,b.own,b.cl,b.el,R⟩) else fail
      | _=>fail
     | none=>fail
    | _=>fail
   | _,_=>fail
  | _=>opt (Xj P M X0 f s k o)
 | _=>opt (Xj P M X0 f s k o)
end
section
variable {P:Program} {M:X6}
def Hq (P:Program) (M:X6) (f:Operand->V) (s:St) (k:Nat) (o:Oper) (y:V×St):Prop:=∃C,HP P M C/\Xj P M C f s k o=some y
theorem HS (hP:Wb P) {f:Operand->V} {s:St} {k:Nat} {o:Oper}:KP (opt (Xj P M X0 f s k o)) (Hq P M f s k o):=Fv.mono λy h=>⟨X0,Wl hP,h⟩
theorem Y6r (hP:Wb P) {f:Operand->V} {s:St} {k:Nat} {d:Option Tmp} {ty t yt:TypeId} {pos:String} {af:Array Edge} {g:Option (Nat×Bool)} {op:BinOp} {x y:Operand}:KP (Dk P M f s k ⟨d,.binOp op t x y yt,ty,pos,af,g⟩) (Hq P M f s k ⟨d,.binOp op t x y yt,ty,pos,af,g⟩):=by
 have base:∀{v:V},EN P op t x y (f x) (f y)=some v->(∃a b,f x=.lit a/\f y=.lit b)->Xj P M X0 f s k ⟨d,.binOp op t x y yt,ty,pos,af,g⟩=some (v,s):=λ{v} h ⟨a,b,h1,h2⟩=>by
  have e:Qc P f ⟨d,.binOp op t x y yt,ty,pos,af,g⟩=some v:=by rw[Y6i];exact h
  simp only[Xj,h1,h2,e,D8]
 have Oj:∀{v:V},EN P op t x y (f x) (f y)=some v->(∃a b,f x=.agg a/\f y=.agg b)->Xj P M X0 f s k ⟨d,.binOp op t x y yt,ty,pos,af,g⟩=some (v,s):=λ{v} h ⟨a,b,h1,h2⟩=>by
  have e:Qc P f ⟨d,.binOp op t x y yt,ty,pos,af,g⟩=some v:=by rw[Y6i];exact h
  simp only[Xj,h1,h2,e,D8]
 simp only[Dk];split
 .rename_i k1 a k2 b h1 h2
  refine Zr Y9j (λv hv=>Yb ⟨X0,Wl hP,base ?_ ⟨_,_,h1,h2⟩⟩);rw[h1,h2,Y7k];exact hv
 .rename_i a b h1 h2
  refine Zr Y8w (λv hv=>Yb ⟨X0,Wl hP,base ?_ ⟨_,_,h1,h2⟩⟩);rw[h1,h2,Y7w];exact hv
 .rename_i a b h1 h2
  split
  .rename_i h3
   refine Yb ⟨X0,Wl hP,base ?_ ⟨_,_,h1,h2⟩⟩;rw[h1,h2,Y9a h3]
  .rename_i h3
   refine Yb ⟨X0,Wl hP,base ?_ ⟨_,_,h1,h2⟩⟩;rw[h1,h2,Y75 h3]
  .exact Zu
 .rename_i xs ys h1 h2
  refine Qe (λhc=>Zr Fv (λb hb=>?_)) (λ_=>Zu);split
  .exact Yb ⟨X0,Wl hP,Oj (by rw[h1,h2,Y4z hc.1 hc.2.1 hc.2.2 hb]) ⟨_,_,h1,h2⟩⟩
  .exact Yb ⟨X0,Wl hP,Oj (by rw[h1,h2,Y4v hc.1 hc.2.1 hc.2.2 hb]) ⟨_,_,h1,h2⟩⟩
  .exact Zu
 .rename_i hy
  split
  all_goals first
   | exact HS hP
   | (
     rename_i hx;refine Qe (λhe=>Zr Lo (λrows hr=>Zr Yq (λ_ hn=>?_))) (λ_=>Zu);obtain⟨r,l,rfl⟩:=List.exists_cons_of_ne_nil hn;have hf:¬(Qu P t).isSome=false:=by rw[he];decide
     split
     .exact Yb ⟨X0,Wl hP,by simp only[Xj,hx,hy];rw[Ak hf];rw[hx] at hr;rw[hr]⟩
     .exact Yb ⟨X0,Wl hP,by simp only[Xj,hx,hy];rw[Ak hf];rw[hx] at hr;rw[hr]⟩
     .exact Zu)
 .exact HS hP
theorem Ym5 (hP:Wb P) {f:Operand->V} {s:St} {k:Nat} {d:Option Tmp} {ty t:TypeId} {pos:String} {af:Array Edge} {g:Option (Nat×Bool)} {n:Nat} {parts:Array (Nat×Operand)}:KP (Dk P M f s k ⟨d,.buildSlice t n parts,ty,pos,af,g⟩) (Hq P M f s k ⟨d,.buildSlice t n parts,ty,pos,af,g⟩):=by
 simp only[Dk];refine Zr Fv (λe he=>Zr Fv (λz hz=>Qe (λ_=>Zu) (λhc=>Zr Fv (λcs BO=>Zr Yto (λy hy=>Yb ⟨X0,Wl hP,?_⟩)))));simp only[Xj,he,Ag,hz];rw[Ak hc,BO,Ag,hy];rfl
theorem Y8o (hP:Wb P) {f:Operand->V} {s:St} {k:Nat} {d:Option Tmp} {ty:TypeId} {pos:String} {af:Array Edge} {g:Option (Nat×Bool)} {c a b:Operand}:KP (Dk P M f s k ⟨d,.pick c a b,ty,pos,af,g⟩) (Hq P M f s k ⟨d,.pick c a b,ty,pos,af,g⟩):=by
 simp only[Dk];split
 .rename_i t hc
  refine Zr Yr8 (λe he=>?_);subst he;cases t with
  | true=>exact Yb ⟨X0,Wl hP,by simp only[Xj,hc,if_true]⟩
  | false=>exact Yb ⟨X0,Wl hP,by simp only[Xj,hc,Bn,if_false]⟩
 .exact Zu
theorem Yqi (hP:Wb P) {f:Operand->V} {s:St} {k:Nat} {d:Option Tmp} {ty t:TypeId} {pos:String} {af:Array Edge} {g:Option (Nat×Bool)} {x ix:Operand}:KP (Dk P M f s k ⟨d,.indexAddr t x ix,ty,pos,af,g⟩) (Hq P M f s k ⟨d,.indexAddr t x ix,ty,pos,af,g⟩):=by
 simp only[Dk];refine Zr Fv (λe he=>Qe (λ_=>Zu) (λhz=>Zr Ks (λo _=>?_)));split
 .rename_i n r
  refine Qe (λhr=>Zr Yq (λ_ hn=>?_)) (λ_=>Zu);split
  .rename_i i off len hx
   refine Zr Yq (λ_ Z7=>?_);split
   .rename_i b hb
    refine Zr Yq (λ_ Xg=>Yb ⟨X0,Wl hP,?_⟩);rw[Y0r] at Xg ⊢;simp only[Xj,he,Ag,hz,if_false,hn,hx,Z7,if_true,hb,Xg,hr]
   .exact Zu
  .rename_i rows hx
   refine Zr Yq (λ_ Xg=>Yb ⟨X0,Wl hP,?_⟩);simp only[Xj,he,Ag,hz,if_false,hn,hx,if_true,Xg,hr]
  .rename_i rows hx
   refine Zr Yq (λ_ Xg=>Yb ⟨X0,Wl hP,?_⟩);simp only[Xj,he,Ag,hz,if_false,hn,hx,if_true,Xg,hr]
  .exact Zu
 .exact Zu
theorem Y9c (hP:Wb P) {f:Operand->V} {s:St} {k:Nat} {d:Option Tmp} {ty t:TypeId} {pos:String} {af:Array Edge} {g:Option (Nat×Bool)} {a:Operand}:KP (Dk P M f s k ⟨d,.load t a,ty,pos,af,g⟩) (Hq P M f s k ⟨d,.load t a,ty,pos,af,g⟩):=by
 simp only[Dk];split
 .rename_i i j n ha
  split
  .rename_i b hb
   split
   .exact HS hP
   .refine Zr Ks (λo _=>?_)
    split
    .rename_i row
     refine Zr Yq (λ_ Xg=>Qe (λhl=>Zr Fv (λv hv=>Yb ⟨X0,Wl hP,?_⟩)) (λ_=>Zu));simp only[Xj,ha,hb,Ag,Xg,hl,if_true,hv,D8]
    .exact Zu
  .exact Zu
 .exact HS hP
theorem Y42 (hP:Wb P) {f:Operand->V} {s:St} {k:Nat} {d:Option Tmp} {ty t:TypeId} {pos:String} {af:Array Edge} {g:Option (Nat×Bool)} {a x:Operand}:KP (Dk P M f s k ⟨d,.store t a x,ty,pos,af,g⟩) (Hq P M f s k ⟨d,.store t a x,ty,pos,af,g⟩):=by
 simp only[Dk];split
 .rename_i i j n ha
  split
  .rename_i b hb
   split
   .exact HS hP
   .rename_i FJ
    refine Zr Ks (λo _=>?_);split
    .rename_i row R
     refine Zr Yq (λ_ Xg=>Zr Fv (λcs BO=>Qe (λhc=>Zr Yuz (λy hy=>?_)) (λ_=>Zu)));split
     .rename_i b2 E1
      refine Zr Yq (λ_ hR=>Yb ⟨X0,Wl hP,?_⟩);have gY:b.own=true/\cs.length=Z4 P t/\n+Z4 P t<=row.length/\Z4 P t≠0:=hc;simp only[Xj,ha,hb,Ag,Xg,BO];rw[Aj gY,FJ];simp only[Bn,if_false,hy,Ag,E1,hR]
     .exact Zu
    .exact Zu
  .exact Zu
 .exact Zu
def yZ (x:V) (l h:Nat):Option V:=match x with
 | .sl id off _=>some (.sl id (off+l) (h - l))
 | .tr rows=>some (.tr ((rows.drop l).take (h - l)))
 | .vw rows=>some (.vw ((rows.drop l).take (h - l)))
 | _=>none
theorem y4 {s:St} {t e:TypeId} {x:V} {rows:List (List V)} {lo hi:Option Operand} {f:Operand->V} {l h:Nat} (he:Qu P t=some e) (hr:s.rowsOf x=some rows) (hl:match lo with|some z=>Wz (f z)=some l|none=>l=0) (hh:match hi with|some z=>Wz (f z)=some h|none=>rows.length=h)
  (h1:l<=h/\h<=rows.length) (h2:Hh (Z4 P e) rows=true) (h3:Z4 P e≠0):NB P s t x (lo.map f) (hi.map f)=yZ x l h:=by
 have key:∀(a b:Option Nat),a=some l->b=some h->(a.bind λl=>b.bind λh=>if l<=h/\h<=rows.length/\Hh (Z4 P e) rows=true/\Z4 P e≠0 then yZ x l h else none)=yZ x l h:=by
  rintro _ _ rfl rfl;simp only[Ag];rw[Aj ⟨h1.1,h1.2,h2,h3⟩]
 unfold NB;rw[he,Ag,hr,Ag];refine key _ _ ?_ ?_
 .cases lo with
  | none=>simp only at hl;rw[hl];rfl
  | some z=>exact hl
 .cases hi with
  | none=>simp only at hh;rw[<-hh];rfl
  | some z=>exact hh
theorem Y43 (hP:Wb P) {f:Operand->V} {s:St} {k:Nat} {d:Option Tmp} {ty t:TypeId} {pos:String} {af:Array Edge} {g:Option (Nat×Bool)} {x:Operand} {lo hi mx:Option Operand}:KP (Dk P M f s k ⟨d,.slice t x lo hi mx,ty,pos,af,g⟩) (Hq P M f s k ⟨d,.slice t x lo hi mx,ty,pos,af,g⟩):=by
 cases mx with
 | some m=>exact HS hP
 | none=>
  simp only[Dk];split
  .rename_i id off len hx
   refine Zr Ks (λo _=>?_);split
   .rename_i l h n R
    refine Zr Fv (λe he=>Zr Lo (λrows hr=>Zr Yq (λ_ hl=>Zr Yq (λ_ hh=>Zr Yq (λ_ h1=>Zr Yq (λ_ h2=>Zr Yq (λ_ h4=>Qe (λh3=>Yb ⟨X0,Wl hP,?_⟩) (λ_=>Zu))))))));simp only[Xj,y4 he hr hl hh h1 h2 h3];rw[hx,h4,Y0r];rfl
   .exact Zu
  .rename_i rws hx
   refine Zr Ks (λo _=>?_);split
   .rename_i l h n R
    refine Zr Fv (λe he=>Zr Lo (λrows hr=>Zr Yq (λ_ hl=>Zr Yq (λ_ hh=>Zr Yq (λ_ h1=>Zr Yq (λ_ h2=>Zr Yq (λ_ h4=>Qe (λh3=>Yb ⟨X0,Wl hP,?_⟩) (λ_=>Zu))))))));simp only[Xj,y4 he hr hl hh h1 h2 h3];rw[hx] at hr ⊢;have:rws=rows:=by simpa [St.rowsOf] using hr
    rw[<-h4,<-this];rfl
   .exact Zu
  .rename_i rws hx
   refine Zr Ks (λo _=>?_);split
   .rename_i l h n R
    refine Zr Fv (λe he=>Zr Lo (λrows hr=>Zr Yq (λ_ hl=>Zr Yq (λ_ hh=>Zr Yq (λ_ h1=>Zr Yq (λ_ h2=>Zr Yq (λ_ h4=>Qe (λh3=>Yb ⟨X0,Wl hP,?_⟩) (λ_=>Zu))))))));simp only[Xj,y4 he hr hl hh h1 h2 h3];rw[hx] at hr ⊢;have:rws=rows:=by simpa [St.rowsOf] using hr
    rw[<-h4,<-this];rfl
   .exact Zu
  .rename_i b hx
   split
   .rename_i ht
    refine Zr Ks (λq _=>?_);split
    .rename_i c
     refine Zr Yq (λ_ hc=>Yb ⟨X0,Wl hP,?_⟩);simp only[Xj,hx,Y46 ht hx hc,D8]
    .exact Zu
   .exact Zu
  .exact HS hP
theorem Y52 (hP:Wb P) {f:Operand->V} {s:St} {k:Nat} {d:Option Tmp} {ty t:TypeId} {pos:String} {af:Array Edge} {g:Option (Nat×Bool)} {x ix:Operand}:KP (Dk P M f s k ⟨d,.index t x ix,ty,pos,af,g⟩) (Hq P M f s k ⟨d,.index t x ix,ty,pos,af,g⟩):=by
 simp only[Dk];split
 .rename_i b hx
  split
  .rename_i ht
   refine Zr Ks (λq _=>?_);split
   .rename_i k' m
    refine Zr Yq (λ_ hm=>Yb ⟨X0,Wl hP,?_⟩);simp only[Xj,Y9h ht hx hm,D8]
   .exact Zu
  .exact Zu
 .exact HS hP
theorem Yy2 (hP:Wb P) {f:Operand->V} {s:St} {k:Nat} {d:Option Tmp} {ty src dst:TypeId} {pos:String} {af:Array Edge} {g:Option (Nat×Bool)} {x:Operand}:KP (Dk P M f s k ⟨d,.convert src dst x,ty,pos,af,g⟩) (Hq P M f s k ⟨d,.convert src dst x,ty,pos,af,g⟩):=by
 simp only[Dk];split
 all_goals first
  | exact HS hP
  | (
    rename_i hx;split
    .rename_i e h1 h2
     split
     .rename_i h3
      refine Zr Lo (λrows hr=>Zr Ks (λq _=>?_));split
      .rename_i c
       refine Zr Yq (λ_ hc=>Yb ⟨X0,Wl hP,?_⟩);unfold Mz at hc;obtain⟨bs,hb,hc⟩:=AL.1 hc;rw[hx] at hr;simp only[Xj,hx,h1,h2,h3,hr,hb,Ag,D8,hc]
      .exact Zu
     .exact Zu
    .exact Zu)
theorem Yrf (hP:Wb P) {f:Operand->V} {s:St} {k:Nat} {d:Option Tmp} {ty t:TypeId} {pos:String} {af:Array Edge} {g:Option (Nat×Bool)} {l c:Operand}:KP (Dk P M f s k ⟨d,.makeSlice t l c,ty,pos,af,g⟩) (Hq P M f s k ⟨d,.makeSlice t l c,ty,pos,af,g⟩):=by
 simp only[Dk];refine Zr Ks (λo _=>?_);split
 .rename_i n R
  refine Zr Fv (λe he=>Zr Fv (λz hz=>Zr Yq (λ_ hl=>Zr Yq (λ_ hc=>Zr Yq (λ_ h1=>Zr Yq (λ_ hR=>Qe (λh2=>Yb ⟨X0,Wl hP,?_⟩) (λ_=>Zu)))))));simp only[Xj,he,hz,Ag,hl,hc];rw[Aj ⟨by trivial,h1.1,h1.2,h2.1,h2.2⟩,hR,<-hR,gI]
 .exact Zu
theorem Y9e (hP:Wb P) {f:Operand->V} {s:St} {k:Nat} {d:Option Tmp} {ty:TypeId} {pos:String} {af:Array Edge} {g:Option (Nat×Bool)} {c:Call}:KP (Dk P M f s k ⟨d,.call c,ty,pos,af,g⟩) (Hq P M f s k ⟨d,.call c,ty,pos,af,g⟩):=by
 simp only[Dk];split
 .rename_i x hc
  split
  .rename_i h Bu hx
   refine (Y9d hP).mono λy ⟨C,h1,h2⟩=>⟨C,h1,?_⟩;simp only[Xj,hc,hx,h2]
  .exact Zu
 .rename_i hc
  split
  .rename_i b x t t' ha ht
   refine Qe (λhe=>Xbo.kp.mono λy hy=>⟨X0,Wl hP,?_⟩) (λ_=>Zu);simp only[Xj,hc,ha,ht,he,if_true];rw[<-he];exact hy
  .exact Zu
 .rename_i hc
  split
  .rename_i x t ha ht
   split
   .rename_i i off n hx
    refine Zr Ks (λo _=>?_);split
    .refine Zr Yq (λ_ hn=>Qe (λhe=>Yb ⟨X0,Wl hP,?_⟩) (λ_=>Zu))
     simp only[Xj,hc,ha,ht,hx,he,if_true,hn]
    .exact Zu
   .rename_i rows hx
    refine Zr Ks (λo _=>?_);split
    .refine Zr Yq (λ_ hn=>Qe (λhe=>Yb ⟨X0,Wl hP,?_⟩) (λ_=>Zu))
     simp only[Xj,hc,ha,ht,hx,he,if_true,hn]
    .exact Zu
   .rename_i rows hx
    refine Zr Ks (λo _=>?_);split
    .refine Zr Yq (λ_ hn=>Qe (λhe=>Yb ⟨X0,Wl hP,?_⟩) (λ_=>Zu))
     simp only[Xj,hc,ha,ht,hx,he,if_true,hn]
    .exact Zu
   .exact HS hP
  .exact Zu
 .rename_i hc
  split
  .rename_i x t ha ht
   refine Zr Fv (λe he=>Zr Fv (λz hz=>?_));split
   .rename_i i off n hx
    split
    .rename_i b hb
     refine Zr Ks (λo _=>?_);split
     .refine Qe (λh=>Zr Yq (λ_ h1=>Zr Yq (λ_ h2=>Yb ⟨X0,Wl hP,?_⟩))) (λ_=>Zu)
      simp only[Xj,hc,ha,ht,hx,he,hz,hb,Ag];rw[Aj ⟨h.1,h.2.1,h1,h.2.2.1,h.2.2.2.1,h.2.2.2.2⟩,h2]
     .exact Zu
    .exact Zu
   .exact Zu
  .exact Zu
 .exact HS hP
theorem Y4n (hP:Wb P) {f:Operand->V} {s:St} {k:Nat} {o:Oper}:KP (Dk P M f s k o) (Hq P M f s k o):=by
 obtain⟨d,op,ty,pos,af,g⟩:=o;cases op with
 | binOp op t x y yt=>exact Y6r hP
 | pick c a b=>exact Y8o hP
 | buildSlice t n parts=>exact Ym5 hP
 | indexAddr t x ix=>exact Yqi hP
 | load t a=>exact Y9c hP
 | store t a x=>exact Y42 hP
 | slice t x lo hi mx=>exact Y43 hP
 | makeSlice t l c=>exact Yrf hP
 | index t x ix=>exact Y52 hP
 | convert src dst x=>exact Yy2 hP
 | call c=>exact Y9e hP
 | _=>simp only[Dk];exact HS hP
def j9 (s:St) (ops:Array Oper) (o:Oper):KM (Bool×St):=
 match o.guard with
 | none=>ret (true,s)
 | some (j,b)=>match (ops[j]?).bind (·.dst) with
  | some d=>match s.env d with
   | .lit (.bool c)=>AA BS λo=>match o with
    | .t e=>AA (B8 (c=e)) λ_=>ret (e == b,⟨Bi s.env d (.lit (.bool e)),s.heap,s.ep⟩)
    | .k=>ret (c == b,s)
    | _=>fail
   | .AZ []=>ret (false,s)
   | _=>fail
  | none=>fail
theorem Yo4 {s:St} {ops:Array Oper} {o:Oper}:KP (j9 s ops o) (λy=>wanted s ops o=some y.1/\y.2=s):=by
 unfold j9 wanted;cases o.guard with
 | none=>exact Yb ⟨rfl,rfl⟩
 | some p=>
  obtain⟨j,b⟩:=p;simp only;cases hd:(ops[j]?).bind (·.dst) with
  | none=>exact Zu
  | some d=>
   simp only[D8];cases he:s.env d with
   | lit v=>cases v with
    | bool c=>
     refine Zr Ks (λq _=>?_);cases q with
     | t e=>
      refine Zr Yq (λ_ hc=>Yb ⟨by subst hc;rfl,?_⟩);have:Bi s.env d (.lit (.bool e))=s.env:=by
       funext t
       unfold Bi;split
       .rename_i h;rw[h,he,hc]
       .rfl
      rw[this]
     | k=>exact Yb ⟨rfl,rfl⟩
     | _=>exact Zu
    | _=>exact Zu
   | AZ l=>cases l with
    | nil=>exact Yb ⟨rfl,rfl⟩
    | cons x l=>exact Zu
   | _=>exact Zu
def IZ (P:Program) (M:X6) (ops:Array Oper):(k:Nat)->List Oper->(s:St)->KM St
 | _,[],s=>ret s
 | k,o::rest,s=>AA (j9 s ops o) λg=>if g.1 then AA (Dk P M g.2.AP g.2 k o) λy=>IZ P M ops (k+1) rest (y.2.put o.dst y.1) else IZ P M ops (k+1) rest (g.2.put o.dst (.AZ []))
theorem Yyc {C C':Nat->Ki} {ops:Array Oper}:∀(l:List Oper) {k:Nat} {s:St},(∀j,k<=j->C j=C' j)->FG P M C ops s k l=FG P M C' ops s k l:=by
 intro l
 induction l with
 | nil=>intros;rfl
 | cons o l ih=>
  intro k s h;simp only[FG,h k (B2 _)];simp only[λs=>ih (k:=k+1) (s:=s) (λj hj=>h j (by omega))]
theorem Ys9 {C C':Nat->Ki} {ops:Array Oper}:∀(l:List Oper) {k:Nat} {s:St} {recs:List Rec},(∀j,k<=j->C j=C' j)->Ff P M C ops s recs k l=Ff P M C' ops s recs k l:=by
 intro l
 induction l with
 | nil=>intros;rfl
 | cons o l ih=>
  intro k s recs h;simp only[Ff,h k (B2 _)];simp only[λs recs=>ih (k:=k+1) (s:=s) (recs:=recs) (λj hj=>h j (by omega))]
def Ok (C:Nat->Ki) (k:Nat) (D:Ki):Nat->Ki:=λj=>if j=k then D else C j
theorem Xaj (hP:Wb P) {ops:Array Oper}:∀(l:List Oper) {k:Nat} {s:St},KP (IZ P M ops k l s) (λs'=>∃C:Nat->Ki,(∀j,HP P M (C j))/\FG P M C ops s k l=some s'):=by
 intro l
 induction l with
 | nil=>intro k s;exact Yb ⟨λ_=>X0,λ_=>Wl hP,rfl⟩
 | cons o l ih=>
  intro k s;simp only[IZ,FG];refine Zr Yo4 (λg hg=>?_);obtain⟨g,s0⟩:=g;obtain⟨hg,BT⟩:=hg;simp only at hg BT;subst BT;cases g with
  | true=>
   simp only[if_true];refine Zr (Y4n hP) (λy hy=>ih.mono λs' ⟨C,h1,h2⟩=>?_);obtain⟨D,d1,d2⟩:=hy;refine⟨Ok C k D,λj=>?_,?_⟩
   .unfold Ok;split
    .exact d1
    .exact h1 j
   .rw[hg]
    simp only[Ag,if_true,Ok];unfold Iw;rw[d2,Ag,<-h2];exact Yyc l (λj hj=>by simp only[Ok];rw[Ak (by omega)])
  | false=>
   simp only[Bn,if_false];refine ih.mono λs' ⟨C,h1,h2⟩=>⟨C,h1,?_⟩;rw[hg];exact h2
def YR (P:Program) (M:X6) (ops:Array Oper):(recs:List Rec)->(k:Nat)->List Oper->(s:St)->KM St
 | _,_,[],s=>ret s
 | recs,k,o::rest,s=>AA (j9 s ops o) λg=>if g.1 then (if Mc ops g.2.ep recs (KT recs o) k o (BW g.2 o) (Ix M g.2.AP o)=true then
   AA (Dk P M g.2.AP (g.2.only (BW g.2 o)) k o) λy=>YR P M ops (recs++[⟨KT recs o,BW g.2 o,Ix M g.2.AP o⟩]) (k+1) rest ((g.2.merge k (BW g.2 o) (Ix M g.2.AP o) y.2).put o.dst y.1) else fail)
  else if Mc ops g.2.ep recs (KT recs o) k o [] false=true then YR P M ops (recs++[⟨KT recs o,[],false⟩]) (k+1) rest (g.2.put o.dst (.AZ [])) else fail
theorem Y73 (hP:Wb P) {ops:Array Oper}:∀(l:List Oper) {k:Nat} {s:St} {recs:List Rec},KP (YR P M ops recs k l s) (λs'=>∃C:Nat->Ki,(∀j,HP P M (C j))/\Ff P M C ops s recs k l=some s'):=by
 intro l
 induction l with
 | nil=>intro k s recs;exact Yb ⟨λ_=>X0,λ_=>Wl hP,rfl⟩
 | cons o l ih=>
  intro k s recs;simp only[YR,Ff];refine Zr Yo4 (λg hg=>?_);obtain⟨g,s0⟩:=g;obtain⟨hg,BT⟩:=hg;simp only at hg BT;subst BT;cases g with
  | true=>
   simp only[if_true];refine Qe (λha=>Zr (Y4n hP) (λy hy=>ih.mono λs' ⟨C,h1,h2⟩=>?_)) (λ_=>Zu);obtain⟨D,d1,d2⟩:=hy;refine⟨Ok C k D,λj=>?_,?_⟩
   .unfold Ok;split
    .exact d1
    .exact h1 j
   .rw[hg]
    simp only[Ag,if_true,Ok,ha];rw[d2,Ag,<-h2];exact Ys9 l (λj hj=>by simp only[Ok];rw[Ak (by omega)])
  | false=>
   simp only[Bn,if_false];refine Qe (λha=>ih.mono λs' ⟨C,h1,h2⟩=>⟨C,h1,?_⟩) (λ_=>Zu);rw[hg];simp only[Ag,Bn,if_false,ha,if_true];exact h2
end
inductive It where
 | c (x:Code)
 | Bl (i:Nat)
def SX (P:Program) (R:Ex->St->Prop):List It->Ex->St->Prop
 | [],e,s=>R e s
 | .c x::k,.normal,s=>Cx P x s (λe s=>SX P R k e s)
 | .c x::k,.ret,s=>SX P R k .ret s
 | .c x::k,.exit j,s=>SX P R k (.exit j) s
 | .Bl i::k,.exit j,s=>if j=i then SX P R k .normal s else SX P R k (.exit j) s
 | .Bl i::k,.normal,s=>SX P R k .normal s
 | .Bl i::k,.ret,s=>SX P R k .ret s
structure y5 where
 BK:List It
 ex:Ex
 st:St
def Ee (P:Program) (M:X6):(n:Nat)->List It->Ex->(s:St)->KM y5
 | 0,BK,ex,s=>ret ⟨BK,ex,s⟩
 | n+1,BK,ex,s=>match BK with
  | []=>ret ⟨[],ex,s⟩
  | .Bl i::k=>match ex with
   | .exit j=>if j=i then Ee P M n k .normal s else Ee P M n k (.exit j) s
   | .normal=>Ee P M n k .normal s
   | .ret=>Ee P M n k .ret s
  | .c x::k=>match ex with
   | .ret=>Ee P M n k .ret s
   | .exit j=>Ee P M n k (.exit j) s
   | .normal=>match x with
    | .skip=>Ee P M n k .normal s
    | .ret=>Ee P M n k .ret s
    | .exit i=>Ee P M n k (.exit i) s
    | .seq a b=>Ee P M n (.c a::.c b::k) .normal s
    | .cond c a b=>match s.AP c with
     | .lit (.bool t)=>AA (j8 t) λe=>if e then Ee P M n (.c a::k) .normal s else Ee P M n (.c b::k) .normal s
     | _=>fail
    | .block i c=>Ee P M n (.c c::.Bl i::k) .normal s
    | .loop c=>Ee P M n (.c c::.c (.loop c)::k) .normal s
    | .region _ ops d=>match d with
     | false=>AA (IZ P M ops 0 ops.toList ⟨s.env,s.heap,s.ep+1⟩) λs'=>Ee P M n k .normal s'
     | true=>if Region.noSelect ops=true then AA (YR P M ops [] 0 ops.toList ⟨s.env,s.heap,s.ep+1⟩) λs'=>Ee P M n k .normal s' else fail
    | _=>fail
section
variable {P:Program} {M:X6} {R:Ex->St->Prop}
theorem Xbh (M:X6) (hP:Wb P) {k:List It} {S:St} {i:Nat} {d0 d1:Tmp} {x0 y:Operand} {t yt e QQ Lk:TypeId} {p0 p1:String} {QR Ll:Array Edge} (Q0:Qu P t=some e) (hx:S.AP x0=.tr []) (hy:(({S with ep:=S.ep+1}:St).put (some d0) (.tr [])).AP y=.lit (.slice none 0 0))
  (h:∀b,SX P R k .normal ((({S with ep:=S.ep+1}:St).put (some d0) (.tr [])).put (some d1) (.lit (.bool b)))):
  SX P R (.c (.region i #[⟨some d0,.move x0,QQ,p0,QR,none⟩,⟨some d1,.binOp .eql t (.tmp d0) y yt,Lk,p1,Ll,none⟩] false)::k) .normal S:=
 Xay M hP (R:=λe s=>SX P R k e s) Q0 hx hy h
def Y66:List It->Option (Operand×Tmp×Tmp×TypeId×Operand×List It)
 | .c (.region _ ops false)::k=>match ops.toList with
  | [⟨some d0,.move x0,_,_,_,none⟩,⟨some d1,.binOp .eql t (.tmp d) y _,_,_,_,none⟩]=>if d=d0 then some (x0,d0,d1,t,y,k) else none
  | _=>none
 | _=>none
theorem kA (M:X6) (hP:Wb P) {BK k:List It} {S:St} {d0 d1:Tmp} {x0 y:Operand} {t e:TypeId} (hs:Y66 BK=some (x0,d0,d1,t,y,k)) (Q0:Qu P t=some e) (hx:S.AP x0=.tr []) (hy:(({S with ep:=S.ep+1}:St).put (some d0) (.tr [])).AP y=.lit (.slice none 0 0))
  (h:∀b,SX P R k .normal ((({S with ep:=S.ep+1}:St).put (some d0) (.tr [])).put (some d1) (.lit (.bool b)))):SX P R BK .normal S:=by
 unfold Y66 at hs;split at hs
 .rename_i i ops k'
  split at hs
  .rename_i c0 z0 QQ p0 QR c1 u d z yt Lk p1 Ll hl
   split at hs
   .rename_i hd
    simp only[AB,A6] at hs;obtain⟨rfl,rfl,rfl,rfl,rfl,rfl⟩:=hs;subst hd;obtain rfl:ops=#[⟨some d,.move z0,QQ,p0,QR,none⟩,⟨some c1,.binOp .eql u (.tmp d) z yt,Lk,p1,Ll,none⟩]:=by
     apply Array.toList_inj.1;rw[hl]
    exact Xbh M hP Q0 hx hy h
   .cases hs
  .cases hs
 .cases hs
theorem Xbv (hP:Wb P):∀(n:Nat) {BK:List It} {ex:Ex} {s:St},KP (Ee P M n BK ex s) (λr=>SX P R r.BK r.ex r.st->SX P R BK ex s):=by
 intro n
 induction n with
 | zero=>intro BK ex s;exact Yb id
 | succ n ih=>
  intro BK ex s;simp only[Ee];split
  .exact Yb id
  .rename_i i k
   split
   .rename_i j
    refine Qe (λhj=>ih.mono λr hr h=>?_) (λhj=>ih.mono λr hr h=>?_)
    .simp only[SX];rw[Aj hj];exact hr h
    .simp only[SX];rw[Ak hj];exact hr h
   .exact ih.mono λr hr h=>hr h
   .exact ih.mono λr hr h=>hr h
  .rename_i x k
   split
   .exact ih.mono λr hr h=>hr h
   .exact ih.mono λr hr h=>hr h
   .split
    .exact ih.mono λr hr h=>Xb1 (hr h)
    .exact ih.mono λr hr h=>QM (hr h)
    .exact ih.mono λr hr h=>Xat (hr h)
    .refine ih.mono λr hr h=>QN (xU (hr h) λe s h=>?_)
     cases e<;>exact h
    .rename_i c a b
     split
     .rename_i t hc
      refine Zr Yr8 (λe he=>?_);subst he;cases t with
      | true=>exact ih.mono λr hr h=>Y0i hc (hr h)
      | false=>exact ih.mono λr hr h=>Y0i hc (hr h)
     .exact Zu
    .rename_i i c
     refine ih.mono λr hr h=>Y83 (xU (hr h) λe s h=>?_);cases e<;>exact h
    .rename_i c
     refine ih.mono λr hr h=>Xa4 (xU (hr h) λe s h=>?_);cases e<;>exact h
    .rename_i i ops d
     split
     .refine Zr (Xaj hP _) (λs' hs=>ih.mono λr hr h=>?_)
      obtain⟨C,h1,h2⟩:=hs;exact QP hP C h1 h2 (hr h)
     .refine Qe (λhn=>Zr (Y73 hP _) (λs' hs=>ih.mono λr hr h=>?_)) (λ_=>Zu)
      obtain⟨C,h1,h2⟩:=hs;exact Xbz hP C h1 hn h2 (hr h)
    .exact Zu
theorem Yvp (hP:Wb P) (n:Nat) {BK:List It} {ex:Ex} {s:St}:KP (Ee P M n BK ex s) (λr=>∀R,SX P R r.BK r.ex r.st->SX P R BK ex s):=λq a E5 q' e ho R=>Xbv hP n q a E5 q' e ho
def YS (P:Program) (M:X6) (f:FuncId) (fn:Func) (xs:List V) (r:y5):KM (V×List V):=match r.BK with
 | []=>match r.ex with
  | .exit _=>fail
  | .normal=>QY P M f fn xs r.st
  | .ret=>QY P M f fn xs r.st
 | _=>fail
def runK (P:Program) (M:X6) (f:FuncId) (fn:Func) (xs:List V) (n:Nat) (BK:List It) (s:St):KM (V×List V):=
 AA (Ee P M n BK .normal s) (YS P M f fn xs)
theorem Xba (hP:Wb P) {f:FuncId} {fn:Func} {xs:List V} {n:Nat} {BK:List It} {s:St}:KP (runK P M f fn xs n BK s) (λy=>SX P (QT P M f fn xs y) BK .normal s):=by
 refine Zr (Yvp hP n) (λr hr=>?_);obtain⟨st,ex,s1⟩:=r;unfold YS;cases st with
 | cons x l=>exact Zu
 | nil=>cases ex with
  | exit i=>exact Zu
  | normal=>exact Yz9.kp.mono λy hy=>hr _ ⟨trivial,hy⟩
  | ret=>exact Yz9.kp.mono λy hy=>hr _ ⟨trivial,hy⟩
def Ol {α:Type} (x:Option (α×List Prop×List O)):Option (Prop×α):=match x with|some (a,E5,[])=>some (Oh E5,a)|_=>none
theorem Y0t {α:Type} {x:KM α} {q:List O} {Q:α->Prop} {p:Prop} {a:α} (h:KP x Q) (e:Ol (x q)=some (p,a)) (hp:p):Q a:=by
 unfold Ol at e;split at e
 .rename_i b E5 hx
  injection e with e;injection e with e1 e2;subst e2;exact h q _ _ _ hx (by rw[e1];exact hp)
 .cases e
theorem Y0s (hP:Wb P) {f:FuncId} {fn:Func} {xs:List V} {y:V×List V} {BK:List It} {s:St} {p:Prop} (n:Nat) (q:List O) (hp:p) (e:Ol (runK P M f fn xs n BK s q)=some (p,y)):SX P (QT P M f fn xs y) BK .normal s:=
 Y0t (x:=runK P M f fn xs n BK s) (Q:=λy=>SX P (QT P M f fn xs y) BK .normal s) (Xba hP) e hp
def E6 (f:List (Id×Id)):V->V
 | .ptr id i off=>match Db f id with|some Av=>.ptr Av i off|none=>.undef
 | .sl id off len=>match Db f id with|some Av=>.sl Av off len|none=>(match off,len with|0,0=>.lit (.slice none 0 0)|_,_=>.undef)
 | .lit v=>.lit v
 | .tr rows=>.tr rows
 | .vw rows=>.vw rows
 | .rp sh row off=>.rp sh row off
 | _=>.undef
def MB (f:List (Id×Id)):V->V
 | .agg xs=>.agg (xs.map (E6 f))
 | .AZ xs=>.AZ (xs.map (E6 f))
 | .fn g xs=>.fn g (xs.map (E6 f))
 | x=>E6 f x
theorem y6 {f:List (Id×Id)} {x:V} (h:E6 f x≠.undef\/x=.undef):Dc f x (E6 f x):=by
 cases x with
 | undef=>trivial
 | ptr id i off=>
  simp only[E6] at h ⊢;split
  .rename_i Av hr;exact⟨hr,rfl,rfl⟩
  .rename_i hr;rw[hr] at h;simp at h
 | sl id off len=>
  simp only[E6] at h ⊢;split
  .rename_i Av hr;exact⟨hr,rfl,rfl⟩
  .rename_i hr
   rw[hr] at h;simp only at h;split
   .exact⟨hr,rfl,rfl⟩
   .rename_i Yg
    exfalso;split at h
    .rename_i h1 h2;exact Yg rfl rfl
    .simp at h
 | lit v=>rfl
 | tr rows=>rfl
 | vw rows=>rfl
 | rp sh row off=>rfl
 | agg _=>simp[E6] at h
 | AZ _=>simp[E6] at h
 | fn _ _=>simp[E6] at h
 | own _ _=>simp[E6] at h
 | CL _=>simp[E6] at h
def YT:V->Bool|.undef=>false|_=>true
theorem Rb {x:V} (h:YT x=true):x≠.undef:=by rintro rfl;cases h
theorem kB {f:List (Id×Id)}:∀{xs:List V},(xs.map (E6 f)).all YT=true->IT f xs (xs.map (E6 f)):=by
 intro xs
 induction xs with
 | nil=>intro _;trivial
 | cons x xs ih=>
  intro h;simp only[C7,DW,Bg] at h;exact⟨y6 (.inl (Rb h.1)),ih h.2⟩
def MC:V->Bool
 | .agg xs|.AZ xs|.fn _ xs=>xs.all YT
 | x=>YT x
theorem Xb4 {f:List (Id×Id)} {x:V} (h:MC (MB f x)=true):VR f x (MB f x):=by
 cases x with
 | agg xs=>exact kB h
 | AZ xs=>exact kB h
 | fn g xs=>exact⟨rfl,kB h⟩
 | undef=>trivial
 | lit v=>rfl
 | tr rows=>rfl
 | vw rows=>rfl
 | rp sh row off=>rfl
 | own e rows=>cases h
 | CL cs=>cases h
 | ptr id i off=>exact y6 (x:=.ptr id i off) (.inl λe=>by have h2:MC (E6 f (.ptr id i off))=true:=h;rw[e] at h2;cases h2)
 | sl id off len=>exact y6 (x:=.sl id off len) (.inl λe=>by have h2:MC (E6 f (.sl id off len))=true:=h;rw[e] at h2;cases h2)
def Rc (f:List (Id×Id)) (p:Id×Bc):Option Bc:=match Db f p.1 with
 | none=>none
 | some _=>some ⟨p.2.box,p.2.own,p.2.cl,(if p.2.box then 0 else p.2.el),if p.2.box then p.2.rows.map (λr=>r.map (E6 f)) else p.2.rows⟩
def JA (f:List (Id×Id)) (S:St) (p:Id×Bc):Option Bc:=match Db f p.1 with
 | none=>none
 | some Av=>(S.heap Av).map λc=>⟨c.box,c.own,c.cl,(if c.box then 0 else c.el),c.rows⟩
def Re (f:List (Id×Id)) (p:Id×Bc):Bool:=match Db f p.1 with
 | none=>!p.2.box&&p.2.own&&(match p.2.rows with|[]=>true|_=>false)
 | some _=>if p.2.box then (match p.2.rows with|[r]=>(r.map (E6 f)).all YT|_=>false) else true
theorem Xa9 {f:List (Id×Id)} {S:St} {p:Id×Bc} (h:JA f S p=Rc f p) (hn:Re f p=true):BR f S p.1 p.2:=by
 obtain⟨id,b⟩:=p;unfold BR;unfold JA Rc at h;unfold Re at hn;simp only at h hn ⊢;split
 .rename_i hr
  rw[hr] at hn;simp only[Bg,N6] at hn;refine⟨hn.1.1,hn.1.2,?_⟩;cases hb:b.rows with
  | nil=>rfl
  | cons x l=>rw[hb] at hn;simp at hn
 .rename_i Av hr
  rw[hr] at h hn;simp only at h hn;obtain⟨c,h1,h2⟩:=AL.1 h;injection h2 with e1 e2 e3 e4 e5;refine⟨c,h1,e1,e2,e3,?_⟩;cases FJ:b.box with
  | true=>
   rw[FJ] at hn e1 e5;simp only[if_true] at hn e5 ⊢;cases hb:b.rows with
   | nil=>rw[hb] at hn;cases hn
   | cons r l=>cases l with
    | cons r2 l=>rw[hb] at hn;cases hn
    | nil=>
     rw[hb] at hn e5;exact⟨r,_,rfl,e5,kB hn⟩
  | false=>
   rw[FJ] at e1 e4 e5;rw[e1] at e4;simp only[Bn,if_false] at e4 e5 ⊢;exact⟨e4,e5⟩
def Rf (f:List (Id×Id)) (l:List (Nat×V)) (h:List (Id×Bc)) (S:St):List V×List (Option Bc):=(l.map λp=>S.env p.1,h.map λp=>JA f S p)
def Rg (f:List (Id×Id)) (l:List (Nat×V)) (h:List (Id×Bc)):List V×List (Option Bc):=(l.map λp=>MB f p.2,h.map λp=>Rc f p)
def JB (f:List (Id×Id)) (l:List (Nat×V)) (h:List (Id×Bc)) (ep:Nat):Bool:=jP f l h ep&&(l.all λp=>MC (MB f p.2))&&h.all λp=>Re f p
theorem Yl1 {α β:Type} {g1 g2:α->β} {l:List α} (h:l.map g1=l.map g2):∀x∈l,g1 x=g2 x:=by
 induction l with
 | nil=>intro x hx;simp at hx
 | cons y l ih=>
  simp only[C7,Vt] at h;intro x hx;rcases Ce.1 hx with rfl|hx
  .exact h.1
  .exact ih h.2 x hx
theorem Xbs {f:List (Id×Id)} {l:List (Nat×V)} {h:List (Id×Bc)} {ep:Nat} {S:St} (e:Rf f l h S=Rg f l h) (hb:JB f l h ep=true):Ln f S l h ep:=by
 simp only[Rf,Rg,A6] at e;simp only[JB,Bg,Cd] at hb;refine⟨λp hp=>?_,λp hp=>Xa9 (Yl1 e.2 p hp) (hb.2 p hp),hb.1.1⟩;rw[Yl1 e.1 p hp];exact Xb4 (hb.1.2 p hp)
def MD:V->KM V
 | .sl id off len=>AA BS λo=>match o with
  | .num n _ _ _=>AA (B8 (len=n)) λ_=>ret (.sl id off n)
  | _=>fail
 | x=>ret x
theorem Yz3 {x:V}:KP (MD x) (λy=>y=x):=by
 unfold MD;split
 .refine Zr Ks (λo _=>?_)
  split
  .exact Zr Yq (λ_ h=>Yb (by rw[h]))
  .exact Zu
 .exact Yb rfl
def lens:List V->KM (List V)
 | []=>ret []
 | x::xs=>AA (MD x) λy=>AA (lens xs) λys=>ret (y::ys)
theorem y7:∀{xs:List V},KP (lens xs) (λys=>ys=xs):=by
 intro xs
 induction xs with
 | nil=>exact Yb rfl
 | cons x xs ih=>exact Zr Yz3 (λy hy=>Zr ih (λys QW=>Yb (by rw[hy,QW])))
def Rh:V->KM V
 | .agg xs=>AA (lens xs) λys=>ret (.agg ys)
 | .fn g xs=>AA (lens xs) λys=>ret (.fn g ys)
 | x=>MD x
theorem Xa3 {x:V}:KP (Rh x) (λy=>y=x):=by
 unfold Rh;split
 .exact Zr y7 (λy hy=>Yb (by rw[hy]))
 .exact Zr y7 (λy hy=>Yb (by rw[hy]))
 .exact Yz3
def y8 (S:St):List (Nat×V)->KM (List V)
 | []=>ret []
 | p::l=>AA (Rh (S.env p.1)) λy=>AA (y8 S l) λys=>ret (y::ys)
theorem Xaq {S:St}:∀{l:List (Nat×V)},KP (y8 S l) (λys=>ys=l.map λp=>S.env p.1):=by
 intro l
 induction l with
 | nil=>exact Yb rfl
 | cons p l ih=>exact Zr Xa3 (λy hy=>Zr ih (λys QW=>Yb (by rw[hy,QW];rfl)))
def Ri:Option Bc->KM (Option Bc)
 | some ⟨true,own,cl,el,[row]⟩=>AA (lens row) λr=>ret (some ⟨true,own,cl,el,[r]⟩)
 | x=>ret x
theorem Xan {x:Option Bc}:KP (Ri x) (λy=>y=x):=by
 unfold Ri;split
 .exact Zr y7 (λr hr=>Yb (by rw[hr]))
 .exact Yb rfl
def Rj (f:List (Id×Id)) (S:St):List (Id×Bc)->KM (List (Option Bc))
 | []=>ret []
 | p::l=>AA (Ri (JA f S p)) λy=>AA (Rj f S l) λys=>ret (y::ys)
theorem Xa5 {f:List (Id×Id)} {S:St}:∀{l:List (Id×Bc)},KP (Rj f S l) (λys=>ys=l.map λp=>JA f S p):=by
 intro l
 induction l with
 | nil=>exact Yb rfl
 | cons p l ih=>exact Zr Xan (λy hy=>Zr ih (λys QW=>Yb (by rw[hy,QW];rfl)))
def Y6e (f:List (Id×Id)) (l:List (Nat×V)) (h:List (Id×Bc)) (r:y5):KM (List It×List V×List (Option Bc)):=match r.ex with
 | .normal=>AA (y8 r.st l) λvs=>AA (Rj f r.st h) λbs=>ret (r.BK,vs,bs)
 | _=>fail
def ME (P:Program) (M:X6) (f:List (Id×Id)) (l:List (Nat×V)) (h:List (Id×Bc)) (n:Nat) (BK:List It) (s:St):KM (List It×List V×List (Option Bc)):=
 AA (Ee P M n BK .normal s) (Y6e f l h)
def y9:List It->Bool
 | .c _::_=>true
 | _=>false
theorem Y0l (hP:Wb P) {BK k2:List It} {s:St} {p:Prop} {l:List (Nat×V)} {h:List (Id×Bc)} {ep:Nat} (f:List (Id×Id)) (n:Nat) (q:List O) (hp:p) (hn:SX P R k2 .normal (Oe l h ep))
  (e:Ol (ME P M f l h n BK s q)=some (p,(k2,Rg f l h))) (hb:(y9 k2&&JB f l h ep)=true):SX P R BK .normal s:=by
 simp only[Bg] at hb;refine Y0t (x:=ME P M f l h n BK s) (Q:=λy=>y=(k2,Rg f l h)->SX P R BK .normal s) ?_ e hp rfl;refine Zr (Yvp hP n) (λr hr=>?_);obtain⟨st,ex,s1⟩:=r;unfold Y6e;cases ex with
 | normal=>
  refine Zr Xaq (λvs hvs=>Zr Xa5 (λbs Lc=>Yb λhy=>hr _ ?_));simp only[A6] at hy;simp only;rw[hy.1];have DL:Rf f l h s1=Rg f l h:=by
   rw[<-hy.2,hvs,Lc];rfl
  cases k2 with
  | nil=>cases hb.1
  | cons x k=>cases x with
   | Bl i=>cases hb.1
   | c x=>exact Xbp f (Xbs DL hb.2) hn
 | ret=>exact Zu
 | exit i=>exact Zu
end
end Go.Proofs.YthdljdelfgofdaaGreatDoor.Ev
namespace Go.Proofs.YthdljdelfgofdaaGreatDoor.Ev
open Go
section
variable {α:Type}
def idx (xs:List α) (i:Int):Option α:=if 0<=i then xs[i.toNat]? else none
def Yz (sz:Nat) (xs ys:List α):Option (List α):=if (xs.length+ys.length)*sz<=140737488355328/\xs.length+ys.length<=9223372036854775807 then some (xs++ys) else none
def Hr (sz:Nat) (n:Int) (z:α):Option (List α):=if 0<=n/\n.toNat*sz<=70368744177664/\n.toNat<=9223372036854775807 then some (List.replicate n.toNat z) else none
def Yt (xs:List α) (l h:Int):Option (List α):=if 0<=l/\l<=h/\h.toNat<=xs.length then some ((xs.drop l.toNat).take (h.toNat - l.toNat)) else none
def Lp (z:α) (xs:List α) (l h:Int):Option (List α):=if l.toNat+(h.toNat - l.toNat)<=xs.length then some (xs.take l.toNat++List.replicate (h.toNat - l.toNat) z++xs.drop (l.toNat+(h.toNat - l.toNat))) else none
def Jv (xs:List α) (i:Int) (a:α):Option (List α):=some (xs.set i.toNat a)
end
def Zc (l:List UInt8):ByteArray:=⟨l.toArray⟩
def FU:Nat:=18446744073709551616
def MF (n:Int):Int:=IntKind.i64.wrap n
def w8 (n:Int):Int:=IntKind.u8.wrap n
def Zn (a b:Int):Int:=IntKind.i64.wrap (a+b)
def Xf (a b:Int):Int:=IntKind.i64.wrap (a - b)
def Qo (a b:Int):Int:=IntKind.i64.wrap (a*b)
def Fw (a b:Int):Int:=IntKind.i64.wrap (a.tdiv b)
def K0 (a b:Int):Int:=a.tmod b
def Rk (a b:Int):Int:=IntKind.i64.wrap ((BitVec.ofInt IntKind.i64.bits a &&& BitVec.ofInt IntKind.i64.bits b).toNat)
def zA (a b:Int):Int:=IntKind.i64.wrap ((BitVec.ofInt IntKind.i64.bits a ||| BitVec.ofInt IntKind.i64.bits b).toNat)
def Rl (a b:Int):Int:=IntKind.i64.wrap (a*2^min b.toNat IntKind.i64.bits)
def Rm (a b:Int):Int:=a.fdiv (2^min b.toNat IntKind.i64.bits)
def T4 (a:Int):Int:=IntKind.i64.wrap (0 - a)
def zB (a b:Int):Int:=IntKind.u8.wrap (a - b)
def D2 (x y:Int):Int:=if y < x then y else x
def E7 (x y:Int):Int:=if y > x then y else x
def GJ (b:Int):Option Unit:=if b=0 then none else some ()
def Lq (b:Int):Option Unit:=if 0<=b then some () else none
def GK (b:ByteArray) (i:Int):Option Int:=if 0<=i then (b[i.toNat]?).map λc=>(c.toNat:Int) else none
def Hs (b:ByteArray) (l h:Int):Option ByteArray:=if 0<=l/\l<=h/\h.toNat<=b.size then some (b.extract l.toNat h.toNat) else none
def JC (xs:List Int):ByteArray:=⟨(xs.map λn=>UInt8.ofNat n.toNat).toArray⟩
def Z6 (a b:ByteArray):Option Unit:=if ((a.size+b.size:Nat):Int) > IntKind.i64.max then none else some ()
theorem zC {n:Int} (h1:-9223372036854775808<=n) (h2:n < 9223372036854775808):MF n=n:=by
 simp[MF,IntKind.wrap,IntKind.bits,IntKind.signed];omega
end Go.Proofs.YthdljdelfgofdaaGreatDoor.Ev
namespace Go.Proofs.YthdljdelfgofdaaGreatDoor.Ev
open Go Go.RowKit KM
variable [Anchor]
abbrev il (n:Int):V:=.lit (.int .i64 n)
abbrev bl (b:Bool):V:=.lit (.bool b)
section
variable {P:Program} {M:X6}
def JD (M:X6) (f:FuncId) (xs:List V):St:=(St.enters ⟨λ_=>.undef,λ_=>none,0⟩ 0 (M.AV f) xs).getD ⟨λ_=>.undef,λ_=>none,0⟩
theorem Yut (hP:Wb P) {f:FuncId} {fn:Func} {c:Code} {xs:List V} {r:V} {os:List V} (CK:P.funcs[f]?=some fn) (hc:fn.body=some c) (hs:(St.enters ⟨λ_=>.undef,λ_=>none,0⟩ 0 (M.AV f) xs).isSome=true)
  (h:SX P (QT P M f fn xs (r,os)) [.c c] .normal (JD M f xs)):Zq P M (f,xs,r,os):=by
 obtain⟨s1,h1⟩:=EY.1 hs;refine Xbw hP CK hc h1 ?_;have:JD M f xs=s1:=by unfold JD;rw[h1];rfl
 rw[<-this];exact h
end
theorem aa {p q:Prop} (h:p) (k:q):p/\q:=⟨h,k⟩
theorem tt:True:=trivial
theorem Y8h {α β:Type} {x:Option α} {f:α->Option β} {b:β} (h:x.bind f=some b):∃a,x=some a/\f a=some b:=A8.1 h
theorem Y8q {β:Type} {t:Bool} {x y:Option β} {b:β} (h:(if t=true then x else y)=some b):(t=true/\x=some b)\/(t=false/\y=some b):=by
 cases t with
 | true=>exact .inl ⟨rfl,h⟩
 | false=>exact .inr ⟨rfl,h⟩
section
variable {α:Type}
theorem Ht {xs:List α} {i:Int} {a:α} (h:idx xs i=some a):Wz (il i)=some i.toNat:=by
 unfold idx at h;split at h
 .rename_i h0;simp[Wz,h0]
 .cases h
theorem Dl (e:α->List V) {xs:List α} {i:Int} {a:α} (h:idx xs i=some a):(xs.map e)[i.toNat]?=some (e a):=by
 unfold idx at h;split at h
 .rw[Dt,h];rfl
 .cases h
theorem HT (e:α->List V) {xs:List α} {i:Int} {a:α} (h:idx xs i=some a):i.toNat < (xs.map e).length:=(CZ.1 (Dl e h)).1
theorem JE (e:α->List V) (xs:List α):(xs.map e).length=xs.length:=KH ..
theorem Om (e:α->List V) (xs:List α):(xs.map e).length=(xs.map e).length:=rfl
theorem D3 (n:Nat) {e:α->List V} (he:∀a,(e a).length=n) (xs:List α):Hh n (xs.map e)=true:=by
 unfold Hh;rw[Cd];intro r hr;obtain⟨a,_,rfl⟩:=Dx.1 hr;simp[he]
theorem YU {e:α->List V} (he:∀a,(e a).all Ma=true) (xs:List α):Fe (xs.map e)=true:=by
 unfold Fe;rw[Cd];intro r hr;obtain⟨a,_,rfl⟩:=Dx.1 hr;exact he a
theorem Hu (e:α->List V) {sz:Nat} {xs ys zs:List α} (h:Yz sz xs ys=some zs):xs.map e++ys.map e=zs.map e:=by
 unfold Yz at h;split at h
 .injection h with h;rw[<-h,G0]
 .cases h
theorem FL (e:α->List V) {sz:Nat} {xs ys zs:List α} (h:Yz sz xs ys=some zs):((xs.map e).length+(ys.map e).length)*sz<=140737488355328/\(xs.map e).length+(ys.map e).length<=9223372036854775807:=by
 unfold Yz at h;split at h
 .rename_i hh;simpa using hh
 .cases h
theorem MG (e:α->List V) {sz:Nat} {ys zs:List α} (h:Yz sz [] ys=some zs):ys.map e=zs.map e:=Hu e h
theorem Lr {sz:Nat} {n:Int} {z:α} {xs:List α} (h:Hr sz n z=some xs):Wz (il n)=some n.toNat:=by
 unfold Hr at h;split at h
 .rename_i h0;simp[Wz,h0.1]
 .cases h
theorem YV {sz:Nat} {n:Int} {z:α} {xs:List α} (h:Hr sz n z=some xs):n.toNat*sz<=70368744177664/\n.toNat<=9223372036854775807:=by
 unfold Hr at h;split at h
 .rename_i h0;exact h0.2
 .cases h
theorem YW (e:α->List V) {sz:Nat} {n:Int} {z:α} {xs:List α} (h:Hr sz n z=some xs):List.replicate n.toNat (e z)=xs.map e:=by
 unfold Hr at h;split at h
 .injection h with h;rw[<-h,List.map_replicate]
 .cases h
theorem Gl {xs ys:List α} {l h:Int} (e:Yt xs l h=some ys):Wz (il l)=some l.toNat/\Wz (il h)=some h.toNat:=by
 unfold Yt at e;split at e
 .rename_i h0
  refine⟨by simp[Wz,h0.1],?_⟩;have:0<=h:=by omega
  simp[Wz,this]
 .cases e
theorem Gm (en:α->List V) {xs ys:List α} {l h:Int} (e:Yt xs l h=some ys):l.toNat<=h.toNat/\h.toNat<=(xs.map en).length:=by
 unfold Yt at e;split at e
 .rename_i h0
  rw[KH];omega
 .cases e
theorem Hv (en:α->List V) {xs ys:List α} {l h:Int} (e:Yt xs l h=some ys):((xs.map en).drop l.toNat).take (h.toNat - l.toNat)=ys.map en:=by
 unfold Yt at e;split at e
 .injection e with e;rw[<-e,List.map_take,List.map_drop]
 .cases e
end
def Zd (n:Int):List V:=[.lit (.int .i64 n)]
def On (n:Int):List V:=[.lit (.int .u8 n)]
def Z9 (b:Bool):List V:=[.lit (.bool b)]
def Zv (b:ByteArray):List V:=[.lit (.string b)]
theorem FM (n:Int):(Zd n).length=1:=rfl
theorem Oo (n:Bool):(Z9 n).length=1:=rfl
theorem FN (n:ByteArray):(Zv n).length=1:=rfl
theorem Rn (n:Int):(Zd n).all Ma=true:=rfl
abbrev iu (n:Int):V:=.lit (.int .u8 n)
abbrev ss (b:ByteArray):V:=.lit (.string b)
theorem YX {b:ByteArray} {i m:Int} (h:GK b i=some m):IP b (il i)=some m:=by
 unfold GK at h;unfold IP;split at h
 .rename_i h0
  show (if 0<=i then some i.toNat else none).bind _=_;rw[Aj h0];exact h
 .cases h
theorem ssx {b c:ByteArray} {l h:Int} (e:Hs b l h=some c):QK b (some (il l)) (some (il h))=some c:=by
 unfold Hs at e;split at e
 .rename_i h0
  unfold QK;show ((if 0<=h then some h.toNat else none).bind λh=>(if 0<=l then some l.toNat else none).bind λl=>_)=_;rw[Aj (by omega),Aj h0.1];simp only[Ag];rw[Aj (by omega)];exact e
 .cases e
theorem zD {b c:ByteArray} {l:Int} (e:Hs b l (b.size:Int)=some c):QK b (some (il l)) none=some c:=by
 have:=ssx e;unfold QK at this ⊢;exact this
theorem stx (xs:List Int):Mz (xs.map λn=>[V.lit (.int .u8 n)])=some (JC xs):=by
 have:NC (xs.map λn=>[V.lit (.int .u8 n)])=some (xs.map λn=>UInt8.ofNat n.toNat):=by
  induction xs with
  | nil=>rfl
  | cons x xs ih=>
   unfold NC at ih ⊢;simp only[C7,Th];rw[ih];rfl
 unfold Mz;rw[this];rfl
section
variable {α:Type}
theorem Ls (e:α->List V) {xs ys:List α} {i:Int} {a:α} (h:Jv xs i a=some ys):(xs.map e).set i.toNat (e a)=ys.map e:=by
 unfold Jv at h;injection h with h;rw[<-h,List.map_set]
theorem Jx (e:α->List V) {xs ys:List α} {i:Int} {a:α} (h:Jv xs i a=some ys):(xs.map e).length=(ys.map e).length:=by
 rw[<-Ls e h,KI]
theorem kC (en:α->List V) {xs ys:List α} {l h:Int} (e:Yt xs l h=some ys):l.toNat+(h.toNat - l.toNat)<=(xs.map en).length:=by
 have:=Gm en e;omega
end
section
variable {α:Type}
theorem kD {sz:Nat} {r:List α} (h:Yz sz [] []=some r):[]=r:=by
 unfold Yz at h;split at h
 .injection h
 .cases h
theorem kE (n:Nat):(0+0)*n<=140737488355328/\0+0<=9223372036854775807:=by simp
theorem zE (e:α->List V) {z:α} {xs ys:List α} {l h:Int} (q:Lp z xs l h=some ys):l.toNat+(h.toNat - l.toNat)<=(xs.map e).length:=by
 unfold Lp at q;split at q
 .rwa [KH]
 .cases q
theorem zF (e:α->List V) {z:α} {xs ys:List α} {l h:Int} (q:Lp z xs l h=some ys):(xs.map e).take l.toNat++List.replicate (h.toNat - l.toNat) (e z)++(xs.map e).drop (l.toNat+(h.toNat - l.toNat))=ys.map e:=by
 unfold Lp at q;split at q
 .injection q with q;rw[<-q];simp
 .cases q
theorem zG (e:α->List V) {z:α} {xs ys:List α} {l h:Int} (q:Lp z xs l h=some ys):(xs.map e).length=(ys.map e).length:=by
 unfold Lp at q;split at q
 .injection q with q;rw[<-q];simp;omega
 .cases q
end
def ks:Nat->List O->List O
 | 0,l=>l
 | n+1,l=>.k::ks n l
def BH (q:List O) (p:Prop):Prop:=p
theorem ee:BH [] True:=trivial
section
variable {q:List O} {p:Prop} {α:Type}
theorem kk (n:Nat) (k:BH q p):BH (ks n q) p:=k
theorem gg {c b:Bool} (h:c=b) (k:BH q p):BH (.t b::q) (c=b/\p):=⟨h,k⟩
theorem rr {P:Program} {M:X6} {y:FuncId×List V×V×List V} (h:Zq P M y) (k:BH q p):BH (.res y.2.2.1 y.2.2.2::q) (Zq P M y/\p):=⟨h,k⟩
theorem xb (e:α->List V) {xs:List α} {i:Int} {a:α} (h:idx xs i=some a) (k:BH q p):BH (.row i.toNat (e a)::q) (Wz (il i)=some i.toNat/\(xs.map e)[i.toNat]?=some (e a)/\p):=⟨Ht h,Dl e h,k⟩
theorem xd (e:α->List V) {xs:List α} {i:Int} {a:α} (h:idx xs i=some a) (k:BH q p):BH (.row i.toNat (e a)::.cell (e a)::q) (Wz (il i)=some i.toNat/\i.toNat < (xs.map e).length/\(xs.map e)[i.toNat]?=some (e a)/\(xs.map e)[i.toNat]?=some (e a)/\p):=⟨Ht h,HT e h,Dl e h,Dl e h,k⟩
theorem xp (e:α->List V) {xs ys:List α} {i:Int} {a b:α} (h:idx xs i=some a) (h2:Jv xs i b=some ys) (k:BH q p):BH (.row i.toNat (e a)::.put (e a) (ys.map e)::q) (Wz (il i)=some i.toNat/\i.toNat < (xs.map e).length/\(xs.map e)[i.toNat]?=some (e a)/\(xs.map e)[i.toNat]?=some (e a)/\(xs.map e).set i.toNat (e b)=ys.map e/\p):=⟨Ht h,HT e h,Dl e h,Dl e h,Ls e h2,k⟩
theorem xq (e:α->List V) {xs:List α} {i:Int} {a:α} (h:idx xs i=some a) (ys:List α) (k:BH q p):BH (.row i.toNat (e a)::.put (e a) (ys.map e)::q) (Wz (il i)=some i.toNat/\i.toNat < (xs.map e).length/\(xs.map e)[i.toNat]?=some (e a)/\(xs.map e)[i.toNat]?=some (e a)/\p):=⟨Ht h,HT e h,Dl e h,Dl e h,k⟩
theorem ln (e:α->List V) (xs:List α) (k:BH q p):BH (.num (xs.map e).length 0 0 []::q) ((xs.map e).length=(xs.map e).length/\p):=⟨rfl,k⟩
theorem lr (e:α->List V) (xs:List α) (k:BH q p):BH (.num xs.length 0 0 []::q) ((xs.map e).length=xs.length/\p):=⟨JE e xs,k⟩
theorem tp (x:O) (k:BH q p):BH (x::q) p:=k
theorem tq (l:List O) (k:BH q p):BH (l++q) p:=k
theorem ta (e:α->List V) (ys zs:List α) (k:BH q p):BH (.app (ys.map e) true (zs.map e) (zs.map e).length::q) p:=k
theorem oa (n:Nat) {e:α->List V} (he:∀a,(e a).length=n) (x:α) (k:BH q p):BH q (1=([x].map e).length/\[x].map e=[x].map e/\Hh n ([x].map e)=true/\p):=⟨rfl,rfl,D3 n he [x],k⟩
theorem ol (n:Nat) {e:α->List V} (he:∀a,(e a).length=n) (hl:∀a,(e a).all Ma=true) (ys:List α) (k:BH q p):BH q (ys.map e=ys.map e/\Fe (ys.map e)=true/\Hh n (ys.map e)=true/\0=(([]:List α).map e).length/\p):=⟨rfl,YU hl ys,D3 n he ys,rfl,k⟩
theorem ox (e:α->List V) {sz:Nat} {xs ys zs:List α} (h:Yz sz xs ys=some zs) (k:BH q p):BH q ((xs.map e).length=(xs.map e).length/\(((xs.map e).length+(ys.map e).length)*sz<=140737488355328/\(xs.map e).length+(ys.map e).length<=9223372036854775807)/\xs.map e++ys.map e=zs.map e/\p):=⟨rfl,FL e h,Hu e h,k⟩
theorem oe (e:α->List V) (xs:List α) (k:BH q p):BH q ((xs.map e).length=(xs.map e).length/\p):=⟨rfl,k⟩
theorem ob {a:Prop} (h:a) (k:BH q p):BH q (a/\p):=⟨h,k⟩
end
theorem Lt {b:Int} {u:Unit} (h:GJ b=some u):b≠0:=by
 unfold GJ at h;split at h
 .cases h
 .assumption
theorem T5 {b:Int} {u:Unit} (h:Lq b=some u):0<=b:=by
 unfold Lq at h;split at h
 .assumption
 .cases h
theorem Xx {a b:ByteArray} {u:Unit} (h:Z6 a b=some u):¬((a.size+b.size:Nat):Int) > IntKind.i64.max:=by
 unfold Z6 at h;split at h
 .cases h
 .assumption
def MH (f:Func):Code:=f.body.getD .skip
def at_:List Nat->Code->List It->List It
 | 0::p,.seq a b,k=>at_ p a (.c b::k)
 | _::p,.seq _ b,k=>at_ p b k
 | 0::p,.cond _ a _,k=>at_ p a k
 | _::p,.cond _ _ b,k=>at_ p b k
 | _::p,.block i c,k=>at_ p c (.Bl i::k)
 | _::p,.loop c,k=>at_ p c (.c (.loop c)::k)
 | _,c,k=>.c c::k
end Go.Proofs.YthdljdelfgofdaaGreatDoor.Ev
namespace Go.Proofs.YthdljdelfgofdaaGreatDoor.Ev
open Go Go.RowKit
variable [Anchor]
section
variable {P:Program} {M:X6} {w:World} {ok top:Nat->Prop}
theorem zH:∀{us:List Value} {xs:List V},us.length=xs.length->Ft P w ok top [] us xs (xs.map λ_=>V.undef) []
 | [],[],_=>.nil
 | u::us,x::xs,h=>.cons (f1:=[]) (f2:=[]) rfl (zH (by simpa using h))
theorem zI {ms:List Yu} {us:List Value} {xs:List V} {G:List Nat} (h:NW P w ok top ms us xs G):ms=[]->us.length=xs.length/\G=[]/\∀(j:Nat) (u:Value) (x:V),us[j]?=some u->xs[j]?=some x->∀U,En w ok U u x:=by
 induction h with
 | nil=>intro _;exact⟨rfl,rfl,λj u x hu=>by simp at hu⟩
 | cons h hs ih=>
  intro hm;subst hm;obtain⟨h1,rfl,h2⟩:=ih rfl;obtain⟨h3,rfl⟩:=h;refine⟨by simp[h1],rfl,λj u x hu hx=>?_⟩;cases j with
  | zero=>simp at hu hx;subst hu;subst hx;exact h3
  | succ j=>exact h2 j u x (by simpa using hu) (by simpa using hx)
theorem T6 {f:FuncId} {xs:List V} {v:Value} {x:V} (CK:∃fn,P.funcs[f]?=some fn/\fn.body.isSome=true) (hm:M.AV f=[]) (hv:∀(w':World) (ok top:Nat->Prop),Fu P w' ok top v x [])
  (h:∀(w:World) (us:List Value) (ok:Nat->Prop),Md w (λ_=>False)->(∀g,ok g->g < w.heap.size)->us.length=xs.length->(∀(j:Nat) (u:Value) (x:V),us[j]?=some u->xs[j]?=some x->∀U,En w ok U u x)->
   Calls P f us.toArray w (λe w'=>e=.returned v/\Below w.heap.size w w')):Zq P M (f,xs,x,xs.map λ_=>.undef):=by
 refine⟨CK,?_⟩;show Ob P (M.AV f) f xs x _;rw[hm];intro w us G T X ok hT M4 Oc hG Yf hX;obtain⟨hl,rfl,he⟩:=zI M4 rfl;have:=h w us.toList ok ⟨hT.1,hT.2.1,λg hg=>hg.elim⟩ (λg hg=>(Yf g hg).1) hl he;rw[Array.toArray_toList] at this;exact this.mono λe w' ⟨he,hb⟩=>⟨v,he,⟨⟨hb.os,hb.tape,hb.output,hb.size,λk hk _=>hb.block k hk⟩,ok,T,[],[],hv w' ok T,zH hl,by simp,λg hg=>by simp at hg,λg hg=>.inl hg,λg hg=>⟨Hc (Yf g hg).1 hb.size,(Yf g hg).2⟩⟩⟩
theorem kF {v:Value} (hv:D9 v=true) (w':World) (ok top:Nat->Prop):Fu P w' ok top v (.lit v) []:=show Da P w' ok top v (.lit v) [] from .lit hv
theorem kG:∀l:List ByteArray,(l.map Zv).flatten=l.map λx=>V.lit (.string x)
 | []=>rfl
 | a::l=>by simp only[C7,DV,kG l];rfl
theorem Y85 {f:FuncId} {xs:List V} {e:TypeId} {l:List ByteArray} (CK:∃fn,P.funcs[f]?=some fn/\fn.body.isSome=true) (hm:M.AV f=[]) (Yo:l.length<=maxLen)
  (h:∀(w:World) (us:List Value) (ok:Nat->Prop),Md w (λ_=>False)->(∀g,ok g->g < w.heap.size)->us.length=xs.length->(∀(j:Nat) (u:Value) (x:V),us[j]?=some u->xs[j]?=some x->∀U,En w ok U u x)->
   Calls P f us.toArray w (λr w'=>r=.returned (.slice (some ⟨w.heap.size,0,none⟩) l.length l.length)/\w'=w.alloc (.cells (l.map Value.string).toArray e))):Zq P M (f,xs,.tr (l.map Zv),xs.map λ_=>.undef):=by
 refine⟨CK,?_⟩;show Ob P (M.AV f) f xs (.tr (l.map Zv)) _;rw[hm];intro w us G T X ok hT M4 Oc hG Yf hX;obtain⟨hl,rfl,he⟩:=zI M4 rfl;have:=h w us.toList ok ⟨hT.1,hT.2.1,λg hg=>hg.elim⟩ (λg hg=>(Yf g hg).1) hl he;rw[Array.toArray_toList] at this;refine this.mono λr w' ⟨hr,hw⟩=>⟨_,hr,?_⟩;subst hw;have hs:=Tm w (.cells (l.map Value.string).toArray e);have CO:=iB w (.cells (l.map Value.string).toArray e);have hXs:¬X w.heap.size:=λhx=>by
  obtain⟨cur,t,hc⟩:=hX _ hx;have:=(HE.1 hc).1;omega
 refine⟨(J5.refl w.heap.size T w).alloc (B2 _) _,λg=>ok g\/g=w.heap.size,λ_=>False,[],[],?_,zH hl,by simp,λg hg=>by simp at hg,λg hg=>hg.elim,λg hg=>?_⟩
 .show Da P _ (λg=>ok g\/g=w.heap.size) _ _ (.tr (l.map Zv)) []
  refine .tr (.tr (u:=λk=>(l.map Value.string)[k]?.getD (.bool false)) (sz:=1) (by simp) (B2 _) Yo (λr hr=>?_) (.inr rfl) (λk x hx=>?_) (λk x hx=>?_))
  .obtain⟨v,_,rfl⟩:=Dx.1 hr;rfl
  .rw[kG,Dt] at hx
   obtain⟨y,hy,rfl⟩:=AL.1 hx;have hk:(l.map Value.string)[k]?=some (.string y):=by rw[Dt,hy];rfl
   rw[hk];unfold World.cell?;rw[CO];simp[hk]
  .rw[kG,Dt] at hx
   obtain⟨y,hy,rfl⟩:=AL.1 hx;have hk:(l.map Value.string)[k]?=some (.string y):=by rw[Dt,hy];rfl
   rw[hk];exact .lit rfl
 .rcases hg with hg|rfl
  .exact⟨by have:=(Yf g hg).1;omega,λh=>h,(Yf g hg).2.2⟩
  .exact⟨by omega,λh=>h,hXs⟩
theorem HU {U:AX} {u v:Value} (h:En w ok U u (.lit v)):u=v:=by cases h;rfl
theorem Xa2 {U:AX} {u:Value} {l:List ByteArray} (h:En w ok U u (.tr (l.map Zv))):
  (∃A c,u=.slice A 0 c/\l=[])\/∃g o c,u=.slice (some ⟨g,o,none⟩) l.length c/\ok g/\l.length<=c/\∀(j:Nat) x,l[j]?=some x->w.cell? ⟨g,o+j,none⟩=some (.string x):=by
 cases h with
 | tr h=>
  have hf:(l.map Zv).flatten=l.map λx=>V.lit (.string x):=kG l;generalize hq:l.map Zv=rows at h;cases h with
  | emp=>exact .inl ⟨_,_,rfl,by simpa using hq⟩
  | @tr g o n c sz rows u hn hc hm hs hg hu hr=>
   subst hq;rw[hf] at hu hr;have Tk:n=l.length:=by rw[<-hn];simp
   subst Tk;refine .inr ⟨g,o,c,rfl,hg,hc,λj x hx=>?_⟩;have h1:(l.map λx=>V.lit (.string x))[j]?=some (V.lit (.string x)):=by rw[Dt,hx];rfl
   rw[hu j _ h1];have:=hr j _ h1;generalize u j=q at this;cases this;rfl
theorem Y9p {w:World} {ok ok' top top':Nat->Prop} {ms:List Yu} {us:List Value} {xs os:List V} {fo:List Nat} (h:Ft P w ok top ms us xs os fo):ms=[]->fo=[]/\Ft P w ok' top' [] us xs os []:=by
 induction h with
 | nil=>intro _;exact⟨rfl,.nil⟩
 | cons h hs ih=>
  intro hm;subst hm;obtain⟨rfl,h2⟩:=ih rfl;have h1:_=[]:=h;subst h1;exact⟨rfl,.cons (f1:=[]) (f2:=[]) rfl h2⟩
theorem Y8e {f:FuncId} {xs:List V} {e:TypeId} {rows:List (List V)} {os:List V} (hm:M.AV f=[]) (h:Zq P M (f,xs,.own e rows,os)):Zq P M (f,xs,.tr rows,os):=by
 refine⟨h.1,?_⟩;have hc:Ob P (M.AV f) f xs (.own e rows) os:=h.2;show Ob P (M.AV f) f xs (.tr rows) os;rw[hm] at hc ⊢;intro w us G T X ok hT M4 Oc hG Yf hX;have hG0:G=[]:=(zI M4 rfl).2.1;refine (hc w us G T X ok hT M4 Oc hG Yf hX).mono λr w' ⟨v,hr,hd⟩=>⟨v,hr,⟨hd.left,?_⟩⟩;obtain⟨ok',top',fr,fo,h1,h2,h3,h4,h5,h6⟩:=hd.ex;have h1:Da P w' ok' top' v (.own e rows) fr:=h1;obtain⟨rfl,P3⟩:=Y9p (ok':=λg=>ok' g\/g∈fr) (top':=λg=>top' g/\g ∉ fr) h2 rfl;subst hG0;refine⟨λg=>ok' g\/g∈fr,λg=>top' g/\g ∉ fr,[],[],?_,P3,by simp,λg hg=>by simp at hg,λg hg=>h5 g hg.1,λg hg=>?_⟩
 .show Da P w' _ _ v (.tr rows) []
  cases h1 with
  | own h _=>exact .tr (h.ow.rd λg hg=>.inr hg)
 .rcases hg with hg|hg
  .exact⟨(h6 g hg).1,λhh=>(h6 g hg).2.1 hh.1,(h6 g hg).2.2⟩
  .have hk:=h4 g (by simpa using hg)
   refine⟨hk.1,λhh=>hh.2 hg,λhx=>?_⟩;obtain⟨cur,t,hh⟩:=hX g hx;have:=(HE.1 hh).1;rcases hk.2 with hk|hk
   .simp at hk
   .omega
end
end Go.Proofs.YthdljdelfgofdaaGreatDoor.Ev
namespace Go.Proofs.YthdljdelfgofdaaGreatDoor.Ev
open Go Go.Proofs
structure Ze where
 weight:Int
 prio:Bool
 every:Int
 cap:Int
 deriving DecidableEq
structure Zi where
 Ab:List Ze
 Aw:Int
 Au:Int
 Ao:Int
 Ar:Int
 Am:Int
 deriving DecidableEq
structure Zj where
 write:Bool
 addr:Int
 size:Int
 Ay:Int
 lock:Bool
 Aa:List Int
 deriving DecidableEq
structure Zo where
 at_:Int
 Ah:Int
 Bm:Zj
 deriving DecidableEq
structure Zb where
 Al:List Zo
 waits:List Int
 A4:List Int
 deriving DecidableEq
structure Ya where
 at_:Int
 Be:Int
 deriving DecidableEq
structure Zh where
 live:Bool
 Ah:Int
 An:Int
 first:Bool
 B6:Int
 left:Int
 Ap:Int
 second:Bool
 deriving DecidableEq
structure Zl where
 AH:List Int
 timer:Int
 A2:List Int
 deriving DecidableEq
structure Zf where
 mem:List Int
 dev:Zl
 deriving DecidableEq
structure Zg where
 queue:List Zj
 An:Int
 done:Int
 tries:Int
 Ax:Bool
 broken:Bool
 deriving DecidableEq
structure Zk where
 tokens:Int
 count:Int
 deriving DecidableEq
structure Zs where
 A3:Int
 Ah:Int
 write:Bool
 addr:Int
 size:Int
 value:Int
 Ap:Int
 deriving DecidableEq
structure Za where
 Ad:Zi
 now:Int
 m:List Zg
 Bq:Ya
 buckets:List Zk
 splits:List Int
 Af:Int
 held:Int
 last:Int
 addr:Zh
 Aa:Zh
 model:Zf
 At:Int
 log:List Zs
 deriving DecidableEq
structure K6 where
 c:Zi
 s:Zb
 b:Za
 on:Bool
 deriving DecidableEq
structure Zp where
 A3:Int
 addr:Int
 kind:Int
 Ah:Int
 Aa:Int
 from_:Int
 ready:Bool
 Ap:Int
 C0:Int
 deriving DecidableEq
structure Z1 where
 Ad:Zi
 script:Zb
 DO:Option Za
 deriving DecidableEq
abbrev Ze.z0:Ze:=⟨0,false,0,0⟩
abbrev Zi.z0:Zi:=⟨[],0,0,0,0,0⟩
abbrev Zj.z0:Zj:=⟨false,0,0,0,false,[]⟩
abbrev Zb.z0:Zb:=⟨[],[],[]⟩
abbrev Ya.z0:Ya:=⟨0,0⟩
abbrev Zh.z0:Zh:=⟨false,0,0,false,0,0,0,false⟩
abbrev Zl.z0:Zl:=⟨[],0,[]⟩
abbrev Zf.z0:Zf:=⟨[],Zl.z0⟩
abbrev Zg.z0:Zg:=⟨[],0,0,0,false,false⟩
abbrev Zk.z0:Zk:=⟨0,0⟩
abbrev Zs.z0:Zs:=⟨0,0,false,0,0,0,0⟩
abbrev Za.z0:Za:=⟨Zi.z0,0,[],Ya.z0,[],[],0,0,0,Zh.z0,Zh.z0,Zf.z0,0,[]⟩
abbrev K6.z0:K6:=⟨Zi.z0,Zb.z0,Za.z0,false⟩
abbrev Zp.z0:Zp:=⟨0,0,0,0,0,0,false,0,0⟩
abbrev Z1.z0:Z1:=⟨Zi.z0,Zb.z0,none⟩
def zJ (x0:ByteArray) (x1:Int)  (k:(List ByteArray)->Int->Int->Option (List ByteArray)) (v0:List ByteArray) (v1:Int) (v2:Int):Option (List ByteArray):=
 if decide (v2 < (x0.size:Int))=true then (
  (GK x0 v2).bind λa0=>
  if decide (a0=x1)=true then (
   (Hs x0 v1 v2).bind λs0=>
   (Yz 16 v0 [s0]).bind λz0=>
   k z0 (Zn v2 1) (Zn v2 1))
  else (
   k v0 v1 (Zn v2 1)))
 else (
  (Hs x0 v1 (x0.size:Int)).bind λs1=>
  (Yz 16 v0 [s1]).bind λz1=>
  some z1)
def YY (x0:ByteArray) (x1:Int)  : Nat->(List ByteArray)->Int->Int->Option (List ByteArray)
 | 0,_,_,_=>none
 | m+1,v0,v1,v2=>zJ x0 x1  (YY x0 x1  m) v0 v1 v2
def Wy (x0:ByteArray) (x1:Int):Option (List ByteArray):=
 YY x0 x1 FU [] 0 0
def Z2 (x0:Int) (x1:Int) (x2:Int):Option Bool:=
 if decide (x0≥x1)=true then (
  some (decide (x0<=x2)))
 else (
  some false)
def kH (x0:Zi)  (v0:Bool):Option Int:=
 if v0=true then (
  some 0)
 else (
  some (Qo (Zn x0.Ao 2) (Zn x0.Au 6)))
def Ro (x0:Zi):Option Int:=
 (Z2 x0.Ao 0 3).bind λr0=>
 if (!r0)=true then (
  kH x0 true)
 else (
  (Z2 x0.Au 0 3).bind λr1=>
  kH x0 (!r1))
def Oq (x0:Zi):Option Int:=
 (Ro x0).bind λr0=>
 if decide (r0=0)=true then (
  some 0)
 else (
  (Z2 x0.Am 1 40).bind λr1=>
  if (!r1)=true then (
   some 0)
  else (
   (Ro x0).bind λr2=>
   some (Zn (Qo 2 r2) x0.Am)))
def kI (x0:Zi):Option Bool:=
 (Z2 x0.Aw 1 4).bind λr0=>
 if r0=true then (
  (Ro x0).bind λr1=>
  if decide (r1 > 0)=true then (
   (Z2 x0.Ar 1 12).bind λr2=>
   if r2=true then (
    (Z2 x0.Am 1 40).bind λr3=>
    some r3)
   else (
    some false))
  else (
   some false))
 else (
  some false)
def zK (x0:Zi)  (k:Int->Int->Option Bool) (v0:Int) (v1:Int):Option Bool:=
 if decide (v1 < (x0.Ab.length:Int))=true then (
  (idx x0.Ab v1).bind λa0=>
  (Z2 a0.weight 1 4).bind λr0=>
  if (!r0)=true then (
   some false)
  else (
   if (!a0.prio)=true then (
    if decide (a0.every≠0)=true then (
     some false)
    else (
     if decide (a0.cap≠0)=true then (
      some false)
     else (
      if a0.prio=true then (
       (Oq x0).bind λr1=>
       (Z2 a0.every (Qo (Qo 2 v0) r1) 1000).bind λr2=>
       if (!r2)=true then (
        some false)
       else (
        (Z2 a0.cap 1 8).bind λr3=>
        if (!r3)=true then (
         some false)
        else (
         k v0 (Zn v1 1))))
      else (
       k v0 (Zn v1 1)))))
   else (
    if a0.prio=true then (
     (Oq x0).bind λr1=>
     (Z2 a0.every (Qo (Qo 2 v0) r1) 1000).bind λr2=>
     if (!r2)=true then (
      some false)
     else (
      (Z2 a0.cap 1 8).bind λr3=>
      if (!r3)=true then (
       some false)
      else (
       k v0 (Zn v1 1))))
    else (
     k v0 (Zn v1 1)))))
 else (
  (Z2 (x0.Ab.length:Int) 1 4).bind λr4=>
  if r4=true then (
   (kI x0).bind λr5=>
   some r5)
  else (
   some false))
def Ot (x0:Zi)  : Nat->Int->Int->Option Bool
 | 0,_,_=>none
 | m+1,v0,v1=>zK x0  (Ot x0  m) v0 v1
def zL (x0:Zi)  (k:Int->Int->Option Bool) (v0:Int) (v2:Int):Option Bool:=
 if decide (v2 < (x0.Ab.length:Int))=true then (
  (idx x0.Ab v2).bind λa1=>
  if a1.prio=true then (
   k (Zn v0 1) (Zn v2 1))
  else (
   k v0 (Zn v2 1)))
 else (
  Ot x0 FU v0 0)
def kJ (x0:Zi)  : Nat->Int->Int->Option Bool
 | 0,_,_=>none
 | m+1,v0,v2=>zL x0  (kJ x0  m) v0 v2
def MI (x0:Zi):Option Bool:=
 kJ x0 FU 0 0
def YZ (x0:Zi):Option Zi:=
 (Yz 32 [] x0.Ab).bind λz0=>
 some {x0 with Ab:=z0}
def zM  : Option Zl:=
 (Hr 8 4 0).bind λm0=>
 some (Zl.mk m0 0 [])
def ZA  : Option Zf:=
 (Hr 8 192 0).bind λm0=>
 (zM).bind λr0=>
 some (Zf.mk m0 r0)
def kK (x0:Ze):Option Zk:=
 if (!x0.prio)=true then (
  some Zk.z0)
 else (
  some (Zk.mk (E7 0 x0.cap) 0))
def kL (x0:Zi)  (k:Za->Int->Option (Za×Bool)) (Ae:Za) (v0:Int):Option (Za×Bool):=
 if decide (v0 < (x0.Ab.length:Int))=true then (
  (Yz 56 Ae.m [Zg.z0]).bind λz0=>
  (idx x0.Ab v0).bind λa0=>
  (kK a0).bind λr0=>
  (Yz 16 Ae.buckets [r0]).bind λz1=>
  (Yz 8 Ae.splits [0]).bind λz2=>
  k {Ae with m:=z0,buckets:=z1,splits:=z2} (Zn v0 1))
 else (
  some (Ae,true))
def kM (x0:Zi)  : Nat->Za->Int->Option (Za×Bool)
 | 0,_,_=>none
 | m+1,Ae,v0=>kL x0  (kM x0  m) Ae v0
def Rp (x0:Zi):Option (Za×Bool):=
 (MI x0).bind λr1=>
 if (!r1)=true then (
  some (Za.z0,false))
 else (
  (YZ x0).bind λr2=>
  (ZA).bind λr3=>
  kM x0 FU (Za.mk r2 0 [] Ya.z0 [] [] (-1) 0 (-1) Zh.z0 Zh.z0 r3 0 []) 0)
def ZB (x0:Int) (AN:Int->ByteArray->Option ByteArray) (v0:Int) (v1:ByteArray) (v2:Int):Option ByteArray:=
 (Z6 (JC [(w8 (Zn 48 v2))]) v1).bind λn0=>
 AN (Fw v0 10) ((JC [(w8 (Zn 48 v2))])++v1)
def zN (x0:Int)  (k:Int->ByteArray->Option ByteArray) (v0:Int) (v1:ByteArray):Option ByteArray:=
 if decide (v0≠0)=true then (
  if decide ((K0 v0 10) < 0)=true then (
   ZB x0 k v0 v1 (T4 (K0 v0 10)))
  else (
   ZB x0 k v0 v1 (K0 v0 10)))
 else (
  if decide (x0 < 0)=true then (
   (Z6 (Zc [45]) v1).bind λn1=>
   some ((Zc [45])++v1))
  else (
   some v1))
def T7 (x0:Int)  : Nat->Int->ByteArray->Option ByteArray
 | 0,_,_=>none
 | m+1,v0,v1=>zN x0  (T7 x0  m) v0 v1
def W4 (x0:Int):Option ByteArray:=
 if decide (x0=0)=true then (
  some (Zc [48]))
 else (
  T7 x0 FU x0 ByteArray.empty)
def zO (x0:Zi)  (k:ByteArray->Int->Option ByteArray) (v0:ByteArray) (v1:Int):Option ByteArray:=
 if decide (v1 < (x0.Ab.length:Int))=true then (
  (idx x0.Ab v1).bind λa0=>
  (Z6 v0 (Zc [32])).bind λn0=>
  (W4 a0.weight).bind λr0=>
  (Z6 (v0++(Zc [32])) r0).bind λn1=>
  if a0.prio=true then (
   (Z6 ((v0++(Zc [32]))++r0) (Zc [58])).bind λn2=>
   (W4 a0.every).bind λr1=>
   (Z6 (((v0++(Zc [32]))++r0)++(Zc [58])) r1).bind λn3=>
   (Z6 ((((v0++(Zc [32]))++r0)++(Zc [58]))++r1) (Zc [58])).bind λn4=>
   (W4 a0.cap).bind λr2=>
   (Z6 (((((v0++(Zc [32]))++r0)++(Zc [58]))++r1)++(Zc [58])) r2).bind λn5=>
   k ((((((v0++(Zc [32]))++r0)++(Zc [58]))++r1)++(Zc [58]))++r2) (Zn v1 1))
  else (
   k ((v0++(Zc [32]))++r0) (Zn v1 1)))
 else (
  some v0)
def ZC (x0:Zi)  : Nat->ByteArray->Int->Option ByteArray
 | 0,_,_=>none
 | m+1,v0,v1=>zO x0  (ZC x0  m) v0 v1
def T8 (x0:Zi):Option ByteArray:=
 (MI x0).bind λr3=>
 if (!r3)=true then (
  some ByteArray.empty)
 else (
  (W4 x0.Aw).bind λr4=>
  (Z6 r4 (Zc [32])).bind λn6=>
  (W4 x0.Au).bind λr5=>
  (Z6 (r4++(Zc [32])) r5).bind λn7=>
  (Z6 ((r4++(Zc [32]))++r5) (Zc [32])).bind λn8=>
  (W4 x0.Ao).bind λr6=>
  (Z6 (((r4++(Zc [32]))++r5)++(Zc [32])) r6).bind λn9=>
  (Z6 ((((r4++(Zc [32]))++r5)++(Zc [32]))++r6) (Zc [32])).bind λn10=>
  (W4 x0.Ar).bind λr7=>
  (Z6 (((((r4++(Zc [32]))++r5)++(Zc [32]))++r6)++(Zc [32])) r7).bind λn11=>
  (Z6 ((((((r4++(Zc [32]))++r5)++(Zc [32]))++r6)++(Zc [32]))++r7) (Zc [32])).bind λn12=>
  (W4 x0.Am).bind λr8=>
  (Z6 (((((((r4++(Zc [32]))++r5)++(Zc [32]))++r6)++(Zc [32]))++r7)++(Zc [32])) r8).bind λn13=>
  ZC x0 FU ((((((((r4++(Zc [32]))++r5)++(Zc [32]))++r6)++(Zc [32]))++r7)++(Zc [32]))++r8) 0)
def Ou (x0:List ByteArray) (x1:ByteArray)  (k:Int->Option Int) (v0:Int):Option Int:=
 if decide (v0 < (x0.length:Int))=true then (
  (idx x0 v0).bind λa0=>
  if (a0.toList == x1.toList)=true then (
   some v0)
  else (
   k (Zn v0 1)))
 else (
  some (-1))
def Rq (x0:List ByteArray) (x1:ByteArray)  : Nat->Int->Option Int
 | 0,_=>none
 | m+1,v0=>Ou x0 x1  (Rq x0 x1  m) v0
def MJ (x0:List ByteArray) (x1:ByteArray):Option Int:=
 Rq x0 x1 FU 0
def kN (x0:Zi) (x1:Int)  (v0:Bool):Option Int:=
 if v0=true then (
  some 0)
 else (
  (idx x0.Ab x1).bind λa0=>
  some (Qo a0.weight x0.Aw))
def Rr (x0:Zi) (x1:Int):Option Int:=
 (MI x0).bind λr0=>
 if (!r0)=true then (
  kN x0 x1 true)
 else (
  (Z2 x1 0 (Xf (x0.Ab.length:Int) 1)).bind λr1=>
  kN x0 x1 (!r1))
def T9 (x0:Ya) (x1:Zi):Option Bool:=
 (MI x1).bind λr0=>
 if r0=true then (
  (Z2 x0.at_ 0 (Xf (x1.Ab.length:Int) 1)).bind λr1=>
  if r1=true then (
   (Rr x1 x0.at_).bind λr2=>
   (Z2 x0.Be 0 r2).bind λr3=>
   some r3)
  else (
   some false))
 else (
  some false)
def zP (x0:List Int)  (k:Int->Option Bool) (v0:Int):Option Bool:=
 if decide (v0 < (x0.length:Int))=true then (
  (idx x0 v0).bind λa0=>
  (Z2 a0 0 255).bind λr0=>
  if (!r0)=true then (
   some false)
  else (
   k (Zn v0 1)))
 else (
  some (decide ((x0.length:Int)<=512)))
def kO (x0:List Int)  : Nat->Int->Option Bool
 | 0,_=>none
 | m+1,v0=>zP x0  (kO x0  m) v0
def ZD (x0:List Int):Option Bool:=
 kO x0 FU 0
def HV (x0:Int):Option Int:=
 (Z2 x0 0 2).bind λr0=>
 if (!r0)=true then (
  some 0)
 else (
  (Lq x0).bind λn0=>
  some (Rl 1 x0))
def Kf (x0:Int):Option Int:=
 (HV x0).bind λr0=>
 if decide (r0=0)=true then (
  some 0)
 else (
  (HV x0).bind λr1=>
  (Lq (Qo 8 r1)).bind λn0=>
  some (Rl 1 (Qo 8 r1)))
def zQ (x0:List Int)  (k:Int->Option Bool) (v0:Int):Option Bool:=
 if decide (v0 < (x0.length:Int))=true then (
  (idx x0 v0).bind λa0=>
  (Kf 2).bind λr0=>
  (Z2 a0 0 (Xf r0 1)).bind λr1=>
  if (!r1)=true then (
   some false)
  else (
   k (Zn v0 1)))
 else (
  some true)
def kP (x0:List Int)  : Nat->Int->Option Bool
 | 0,_=>none
 | m+1,v0=>zQ x0  (kP x0  m) v0
def ZE (x0:List Int):Option Bool:=
 kP x0 FU 0
def ZF (x0:Zl):Option Bool:=
 if decide ((x0.AH.length:Int)=4)=true then (
  (ZE x0.AH).bind λr0=>
  if r0=true then (
   (Kf 2).bind λr1=>
   (Z2 x0.timer 0 (Xf r1 1)).bind λr2=>
   if r2=true then (
    if decide ((x0.A2.length:Int)<=4)=true then (
     (ZE x0.A2).bind λr3=>
     some r3)
    else (
     some false))
   else (
    some false))
  else (
   some false))
 else (
  some false)
def ZG (x0:Zf):Option Bool:=
 if decide ((x0.mem.length:Int)=192)=true then (
  (ZD x0.mem).bind λr0=>
  if r0=true then (
   (ZF x0.dev).bind λr1=>
   some r1)
  else (
   some false))
 else (
  some false)
def Lu (x0:Int):Option Int:=
 (Z2 x0 0 3).bind λr0=>
 if (!r0)=true then (
  some 0)
 else (
  (idx [1,4,4,8] x0).bind λa0=>
  some a0)
def Lv (x0:Int) (x1:Int):Option Bool:=
 (HV x1).bind λr0=>
 if decide (r0 > 0)=true then (
  if decide (x0≥0)=true then (
   (HV x1).bind λr1=>
   (GJ r1).bind λn0=>
   some (decide ((K0 x0 r1)=0)))
  else (
   some false))
 else (
  some false)
def kQ (x0:Int) (x1:Int) (x2:Int)  (v0:Int) (v1:Bool):Option Int:=
 if v1=true then (
  some (Xf (Zn x0 v0) (Qo 4 v0)))
 else (
  some (Zn x0 v0))
def ZH (x0:Int) (x1:Int) (x2:Int)  (v0:Int) (v2:Bool):Option Int:=
 if v2=true then (
  some (-1))
 else (
  if decide (x2=2)=true then (
   (GJ (Qo 4 v0)).bind λn0=>
   kQ x0 x1 x2 v0 (decide ((K0 (Zn x0 v0) (Qo 4 v0))=0)))
  else (
   kQ x0 x1 x2 v0 false))
def ZI (x0:Int) (x1:Int) (x2:Int):Option Int:=
 (HV x1).bind λr0=>
 (Lv x0 x1).bind λr1=>
 if (!r1)=true then (
  ZH x0 x1 x2 r0 true)
 else (
  (Z2 x0 0 511).bind λr2=>
  if (!r2)=true then (
   ZH x0 x1 x2 r0 true)
  else (
   (Lu x2).bind λr3=>
   ZH x0 x1 x2 r0 (decide (r3=0))))
def ZJ (x0:Int) (x1:Int) (x2:Int) (AN:Int->(List Int)->Option (List Int)) (v0:Int) (v1:List Int) (v2:Bool):Option (List Int):=
 if v2=true then (
  (Yz 8 v1 [v0]).bind λz0=>
  (ZI v0 x1 x2).bind λr0=>
  AN r0 z0)
 else (
  (Lu x2).bind λr1=>
  if decide ((v1.length:Int) < r1)=true then (
   some [])
  else (
   some v1))
def ZK (x0:Int) (x1:Int) (x2:Int)  (k:Int->(List Int)->Option (List Int)) (v0:Int) (v1:List Int):Option (List Int):=
 (Lu x2).bind λr2=>
 if decide ((v1.length:Int) < r2)=true then (
  (ZI v0 x1 x2).bind λr3=>
  ZJ x0 x1 x2 k v0 v1 (decide (r3≥0)))
 else (
  ZJ x0 x1 x2 k v0 v1 false)
def kR (x0:Int) (x1:Int) (x2:Int)  : Nat->Int->(List Int)->Option (List Int)
 | 0,_,_=>none
 | m+1,v0,v1=>ZK x0 x1 x2  (kR x0 x1 x2  m) v0 v1
def ZL (x0:Int) (x1:Int) (x2:Int):Option (List Int):=
 kR x0 x1 x2 FU x0 []
def zR (x0:Int) (x1:Int) (x2:Int)  (k:(List Int)->Int->Option Bool) (v0:List Int) (v1:Int):Option Bool:=
 if decide (v1 < (v0.length:Int))=true then (
  (idx v0 v1).bind λa0=>
  (idx v0 0).bind λa1=>
  if decide ((Fw a0 64)≠(Fw a1 64))=true then (
   some false)
  else (
   k v0 (Zn v1 1)))
 else (
  some (decide ((v0.length:Int) > 0)))
def kS (x0:Int) (x1:Int) (x2:Int)  : Nat->(List Int)->Int->Option Bool
 | 0,_,_=>none
 | m+1,v0,v1=>zR x0 x1 x2  (kS x0 x1 x2  m) v0 v1
def kT (x0:Int) (x1:Int) (x2:Int):Option Bool:=
 (ZL x0 x1 x2).bind λr0=>
 kS x0 x1 x2 FU r0 0
def zS (x0:Zj)  (k:Int->Option Bool) (v0:Int):Option Bool:=
 if decide (v0 < (x0.Aa.length:Int))=true then (
  (idx x0.Aa v0).bind λa0=>
  (Kf x0.size).bind λr0=>
  (Z2 a0 0 (Xf r0 1)).bind λr1=>
  if (!r1)=true then (
   some false)
  else (
   k (Zn v0 1)))
 else (
  if decide ((x0.Aa.length:Int)=0)=true then (
   if (!x0.write)=true then (
    some true)
   else (
    (Lu x0.Ay).bind λr2=>
    if decide ((x0.Aa.length:Int)=r2)=true then (
     some x0.write)
    else (
     some false)))
  else (
   (Lu x0.Ay).bind λr2=>
   if decide ((x0.Aa.length:Int)=r2)=true then (
    some x0.write)
   else (
    some false)))
def kU (x0:Zj)  : Nat->Int->Option Bool
 | 0,_=>none
 | m+1,v0=>zS x0  (kU x0  m) v0
def TA (x0:Zj):Option Bool:=
 (kT x0.addr x0.size x0.Ay).bind λr3=>
 if (!r3)=true then (
  some false)
 else (
  kU x0 FU 0)
def Ov (x0:Zg):Option Int:=
 if decide ((x0.queue.length:Int)=0)=true then (
  some 0)
 else (
  (idx x0.queue 0).bind λa0=>
  (Lu a0.Ay).bind λr0=>
  some r0)
def Rt (x0:Zg)  (v0:Bool):Option Bool:=
 if v0=true then (
  some false)
 else (
  if decide ((x0.queue.length:Int)=0)=true then (
   if decide (x0.An=0)=true then (
    if decide (x0.done=0)=true then (
     if decide (x0.tries=0)=true then (
      if (!x0.Ax)=true then (
       some (!x0.broken))
      else (
       some false))
     else (
      some false))
    else (
     some false))
   else (
    some false))
  else (
   (Ov x0).bind λr0=>
   (Z2 x0.done 0 (Xf r0 1)).bind λr1=>
   if r1=true then (
    (Ov x0).bind λr2=>
    (Z2 x0.An x0.done (D2 (Zn x0.done 2) r2)).bind λr3=>
    some r3)
   else (
    some false)))
def zT (x0:Zg)  (k:Int->Option Bool) (v1:Int):Option Bool:=
 if decide (v1 < (x0.queue.length:Int))=true then (
  (idx x0.queue v1).bind λa0=>
  (TA a0).bind λr4=>
  if (!r4)=true then (
   some false)
  else (
   k (Zn v1 1)))
 else (
  if decide ((x0.queue.length:Int) > 4)=true then (
   Rt x0 true)
  else (
   Rt x0 (decide (x0.tries < 0))))
def kV (x0:Zg)  : Nat->Int->Option Bool
 | 0,_=>none
 | m+1,v1=>zT x0  (kV x0  m) v1
def MK (x0:Zg):Option Bool:=
 kV x0 FU 0
def zU (x0:Zg) (x1:Zi):Option Bool:=
 (MI x1).bind λr0=>
 if r0=true then (
  (MK x0).bind λr1=>
  if r1=true then (
   some (decide (x0.tries<=x1.Ao)))
  else (
   some false))
 else (
  some false)
def Ru (x0:Zk) (x1:Ze):Option Bool:=
 if (!x1.prio)=true then (
  some (decide (x0.tokens=0)&&(decide (x0.count=0)&&true)))
 else (
  (Z2 x0.tokens 0 x1.cap).bind λr0=>
  if r0=true then (
   (Z2 x0.count 0 (Xf x1.every 1)).bind λr1=>
   some r1)
  else (
   some false))
def kW (x0:Za) (x1:Int)  (v0:Int):Option Int:=
 if x0.Aa.live=true then (
  if decide (x0.Aa.Ah=x1)=true then (
   some (Zn v0 1))
  else (
   some v0))
 else (
  some v0)
def kX (x0:Za) (x1:Int)  (v1:Bool):Option Int:=
 if v1=true then (
  kW x0 x1 (Zn 0 1))
 else (
  kW x0 x1 0)
def kY (x0:Za) (x1:Int):Option Int:=
 if x0.addr.live=true then (
  kX x0 x1 (decide (x0.addr.Ah=x1)))
 else (
  kX x0 x1 false)
def ML (x0:Int):Option ByteArray:=
 (Z2 x0 0 3).bind λr0=>
 if (!r0)=true then (
  some ByteArray.empty)
 else (
  (idx [(Zc [111,107,97,121]),(Zc [101,114,114,111,114]),(Zc [114,101,116,114,121]),(Zc [115,112,108,105,116])] x0).bind λa0=>
  some a0)
def Yi (x0:Za) (x1:Zh) (x2:Bool)  (Ae:Zg) (v0:Bool):Option Bool:=
 if v0=true then (
  some false)
 else (
  if decide (x1.An=Ae.done)=true then (
   (Z2 x1.left 0 (Zn x0.Ad.Au 2)).bind λr0=>
   if r0=true then (
    (ML x1.Ap).bind λr1=>
    if (!(r1.toList == ByteArray.empty.toList))=true then (
     if (!x1.second)=true then (
      some true)
     else (
      if decide (x1.Ap≠0)=true then (
       some (decide (x1.left=0)))
      else (
       some false)))
    else (
     some false))
   else (
    some false))
  else (
   some false))
def Kv (x0:Za) (x1:Zh) (x2:Bool)  (v1:Bool):Option Bool:=
 if v1=true then (
  some false)
 else (
  (idx x0.m x1.Ah).bind λa0=>
  if (!x2)=true then (
   if decide (x1.An=(Xf a0.An 1))=true then (
    if decide (x1.left=0)=true then (
     if decide (x1.Ap=0)=true then (
      some (!x1.second))
     else (
      some false))
    else (
     some false))
   else (
    some false))
  else (
   if decide (x1.Ap=2)=true then (
    if decide (a0.tries≥x0.Ad.Ao)=true then (
     Yi x0 x1 x2 a0 true)
    else (
     if decide (x1.Ap=3)=true then (
      if a0.Ax=true then (
       Yi x0 x1 x2 a0 true)
      else (
       if decide (x0.Af=x1.Ah)=true then (
        Yi x0 x1 x2 a0 true)
       else (
        if x1.second=true then (
         Yi x0 x1 x2 a0 x0.addr.live)
        else (
         Yi x0 x1 x2 a0 false))))
     else (
      if x1.second=true then (
       Yi x0 x1 x2 a0 x0.addr.live)
      else (
       Yi x0 x1 x2 a0 false))))
   else (
    if decide (x1.Ap=3)=true then (
     if a0.Ax=true then (
      Yi x0 x1 x2 a0 true)
     else (
      if decide (x0.Af=x1.Ah)=true then (
       Yi x0 x1 x2 a0 true)
      else (
       if x1.second=true then (
        Yi x0 x1 x2 a0 x0.addr.live)
       else (
        Yi x0 x1 x2 a0 false))))
    else (
     if x1.second=true then (
      Yi x0 x1 x2 a0 x0.addr.live)
     else (
      Yi x0 x1 x2 a0 false)))))
def MM (x0:Za) (x1:Zh) (x2:Bool):Option Bool:=
 if (!x1.live)=true then (
  some ((x1.live == false)&&(decide (x1.Ah=0)&&(decide (x1.An=0)&&((x1.first == false)&&(decide (x1.B6=0)&&(decide (x1.left=0)&&(decide (x1.Ap=0)&&((x1.second == false)&&true)))))))))
 else (
  (Z2 x1.Ah 0 (Xf (x0.m.length:Int) 1)).bind λr2=>
  if (!r2)=true then (
   Kv x0 x1 x2 true)
  else (
   (Z2 x1.B6 1 3).bind λr3=>
   if (!r3)=true then (
    Kv x0 x1 x2 true)
   else (
    (idx x0.splits x1.Ah).bind λa1=>
    Kv x0 x1 x2 (decide (a1 > 0)))))
def Rv (x0:Za)  (v0:Bool):Option Bool:=
 if v0=true then (
  some false)
 else (
  (idx x0.m x0.Af).bind λa0=>
  if decide ((a0.queue.length:Int) > 0)=true then (
   (idx a0.queue 0).bind λa1=>
   if a1.lock=true then (
    if (!a0.broken)=true then (
     (idx x0.splits x0.Af).bind λa2=>
     some (decide (a2=0)))
    else (
     some false))
   else (
    some false))
  else (
   some false))
def kZ (x0:Za)  (k:Int->Option Bool) (v1:Int):Option Bool:=
 if decide (v1 < (x0.m.length:Int))=true then (
  (idx x0.m v1).bind λa3=>
  if decide (a3.An > 0)=true then (
   (idx a3.queue 0).bind λa4=>
   if a4.lock=true then (
    if (!a3.broken)=true then (
     if decide (x0.Af≠v1)=true then (
      some false)
     else (
      k (Zn v1 1)))
    else (
     k (Zn v1 1)))
   else (
    k (Zn v1 1)))
  else (
   k (Zn v1 1)))
 else (
  if decide (x0.Af=(-1))=true then (
   some (decide (x0.held=0)))
  else (
   (Z2 x0.Af 0 (Xf (x0.m.length:Int) 1)).bind λr0=>
   if (!r0)=true then (
    Rv x0 true)
   else (
    (Z2 x0.held 0 x0.Ad.Am).bind λr1=>
    Rv x0 (!r1))))
def zV (x0:Za)  : Nat->Int->Option Bool
 | 0,_=>none
 | m+1,v1=>kZ x0  (zV x0  m) v1
def ZM (x0:Za):Option Bool:=
 zV x0 FU 0
def lA (x0:Za)  (k:Int->Option Bool) (v0:Int):Option Bool:=
 if decide (v0 < (x0.log.length:Int))=true then (
  (idx x0.log v0).bind λa0=>
  (Z2 a0.A3 0 (Xf x0.now 1)).bind λr0=>
  if (!r0)=true then (
   some false)
  else (
   if decide (v0 > 0)=true then (
    (idx x0.log (Xf v0 1)).bind λa1=>
    if decide (a0.A3<=a1.A3)=true then (
     some false)
    else (
     (Z2 a0.Ah 0 (Xf (x0.m.length:Int) 1)).bind λr1=>
     if (!r1)=true then (
      some false)
     else (
      (Lv a0.addr a0.size).bind λr2=>
      if (!r2)=true then (
       some false)
      else (
       (Z2 a0.addr 0 511).bind λr3=>
       if (!r3)=true then (
        some false)
       else (
        (Kf a0.size).bind λr4=>
        (Z2 a0.value 0 (Xf r4 1)).bind λr5=>
        if (!r5)=true then (
         some false)
        else (
         (Z2 a0.Ap 0 1).bind λr6=>
         if (!r6)=true then (
          some false)
         else (
          k (Zn v0 1))))))))
   else (
    (Z2 a0.Ah 0 (Xf (x0.m.length:Int) 1)).bind λr1=>
    if (!r1)=true then (
     some false)
    else (
     (Lv a0.addr a0.size).bind λr2=>
     if (!r2)=true then (
      some false)
     else (
      (Z2 a0.addr 0 511).bind λr3=>
      if (!r3)=true then (
       some false)
      else (
       (Kf a0.size).bind λr4=>
       (Z2 a0.value 0 (Xf r4 1)).bind λr5=>
       if (!r5)=true then (
        some false)
       else (
        (Z2 a0.Ap 0 1).bind λr6=>
        if (!r6)=true then (
         some false)
        else (
         k (Zn v0 1)))))))))
 else (
  some true)
def lB (x0:Za)  : Nat->Int->Option Bool
 | 0,_=>none
 | m+1,v0=>lA x0  (lB x0  m) v0
def ZN (x0:Za):Option Bool:=
 lB x0 FU 0
def lC (x0:Za)  (k:Int->Option Bool) (v0:Int):Option Bool:=
 if decide (v0 < (x0.Ad.Ab.length:Int))=true then (
  (idx x0.m v0).bind λa0=>
  (zU a0 x0.Ad).bind λr0=>
  if (!r0)=true then (
   some false)
  else (
   (idx x0.buckets v0).bind λa1=>
   (idx x0.Ad.Ab v0).bind λa2=>
   (Ru a1 a2).bind λr1=>
   if (!r1)=true then (
    some false)
   else (
    (idx x0.splits v0).bind λa3=>
    (Z2 a3 0 x0.Ad.Ar).bind λr2=>
    if (!r2)=true then (
     some false)
    else (
     (kY x0 v0).bind λr3=>
     if decide ((Xf a0.An a0.done)≠r3)=true then (
      some false)
     else (
      k (Zn v0 1))))))
 else (
  (MM x0 x0.Aa true).bind λr4=>
  if r4=true then (
   (MM x0 x0.addr false).bind λr5=>
   if r5=true then (
    (ZM x0).bind λr6=>
    if r6=true then (
     (ZN x0).bind λr7=>
     some r7)
    else (
     some false))
   else (
    some false))
  else (
   some false))
def lD (x0:Za)  : Nat->Int->Option Bool
 | 0,_=>none
 | m+1,v0=>lC x0  (lD x0  m) v0
def Qq (x0:Za)  (v1:Bool):Option Bool:=
 if v1=true then (
  some false)
 else (
  lD x0 FU 0)
def Lx (x0:Za):Option Bool:=
 (MI x0.Ad).bind λr8=>
 if (!r8)=true then (
  Qq x0 true)
 else (
  (Z2 x0.now 0 4000).bind λr9=>
  if (!r9)=true then (
   Qq x0 true)
  else (
   if decide ((x0.m.length:Int)≠(x0.Ad.Ab.length:Int))=true then (
    Qq x0 true)
   else (
    if decide ((x0.buckets.length:Int)≠(x0.Ad.Ab.length:Int))=true then (
     Qq x0 true)
    else (
     if decide ((x0.splits.length:Int)≠(x0.Ad.Ab.length:Int))=true then (
      Qq x0 true)
     else (
      (T9 x0.Bq x0.Ad).bind λMN=>
      if (!MN)=true then (
       Qq x0 true)
      else (
       (Z2 x0.last (-1) (Xf (x0.Ad.Ab.length:Int) 1)).bind λTB=>
       if (!TB)=true then (
        Qq x0 true)
       else (
        (ZG x0.model).bind λJF=>
        if (!JF)=true then (
         Qq x0 true)
        else (
         if decide (x0.At < 0)=true then (
          Qq x0 true)
         else (
          Qq x0 (decide (x0.At > x0.now)))))))))))
def Rw (x0:Zj):Option Zj:=
 (Yz 8 [] x0.Aa).bind λz0=>
 some {x0 with Aa:=z0}
def Yik (x0:Zg)  (k:(List Zj)->Int->Option Zg) (v0:List Zj) (v1:Int):Option Zg:=
 if decide (v1 < (x0.queue.length:Int))=true then (
  (idx x0.queue v1).bind λa0=>
  (Rw a0).bind λr0=>
  (Yz 64 v0 [r0]).bind λz0=>
  k z0 (Zn v1 1))
 else (
  some {x0 with queue:=v0})
def lE (x0:Zg)  : Nat->(List Zj)->Int->Option Zg
 | 0,_,_=>none
 | m+1,v0,v1=>Yik x0  (lE x0  m) v0 v1
def Ox (x0:Zg):Option Zg:=
 lE x0 FU [] 0
def ZO (x0:Zl):Option Zl:=
 (Yz 8 [] x0.AH).bind λz0=>
 (Yz 8 [] x0.A2).bind λz1=>
 some (Zl.mk z0 x0.timer z1)
def ZP (x0:Zf):Option Zf:=
 (Yz 8 [] x0.mem).bind λz0=>
 (ZO x0.dev).bind λr0=>
 some (Zf.mk z0 r0)
def lF (x0:Za)  (k:Za->Int->Option Za) (Ae:Za) (v0:Int):Option Za:=
 if decide (v0 < (x0.m.length:Int))=true then (
  (idx x0.m v0).bind λa0=>
  (Ox a0).bind λr0=>
  (Yz 56 Ae.m [r0]).bind λz0=>
  k {Ae with m:=z0} (Zn v0 1))
 else (
  (Yz 16 [] x0.buckets).bind λz1=>
  (Yz 8 [] x0.splits).bind λz2=>
  (ZP x0.model).bind λr1=>
  (Yz 56 [] x0.log).bind λz3=>
  some {Ae with buckets:=z1,splits:=z2,model:=r1,log:=z3})
def ZQ (x0:Za)  : Nat->Za->Int->Option Za
 | 0,_,_=>none
 | m+1,Ae,v0=>lF x0  (ZQ x0  m) Ae v0
def TC (x0:Za):Option Za:=
 (YZ x0.Ad).bind λr2=>
 ZQ x0 FU {x0 with Ad:=r2,m:=[]} 0
def lG (x0:Zg) (x1:Int)  (v0:Bool):Option Int:=
 if v0=true then (
  some (-1))
 else (
  (idx x0.queue 0).bind λa0=>
  (ZL a0.addr a0.size a0.Ay).bind λr0=>
  (idx r0 x1).bind λa1=>
  some a1)
def Rx (x0:Zg) (x1:Int):Option Int:=
 (MK x0).bind λr1=>
 if (!r1)=true then (
  lG x0 x1 true)
 else (
  (Ov x0).bind λr2=>
  (Z2 x1 0 (Xf r2 1)).bind λr3=>
  lG x0 x1 (!r3))
def ZR (x0:Za)  (Ae:Zp):Option Zp:=
 if x0.Aa.live=true then (
  (idx x0.m x0.Aa.Ah).bind λa0=>
  (Rx a0 x0.Aa.An).bind λr0=>
  some {Ae with Aa:=r0,from_:=x0.Aa.Ah})
 else (
  some Ae)
def lH (x0:Za):Option Zp:=
 if x0.addr.live=true then (
  (idx x0.m x0.addr.Ah).bind λa1=>
  (Rx a1 x0.addr.An).bind λr1=>
  if x0.addr.first=true then (
   ZR x0 (Zp.mk x0.now r1 2 x0.addr.Ah (-1) (-1) true 0 (-1)))
  else (
   ZR x0 (Zp.mk x0.now r1 3 x0.addr.Ah (-1) (-1) true 0 (-1))))
 else (
  ZR x0 (Zp.mk x0.now (-1) 0 (-1) (-1) (-1) true 0 (-1)))
def lI (x0:Zb) (x1:Int)  (k:(List Zo)->Int->Option (List Zo)) (v0:List Zo) (v1:Int):Option (List Zo):=
 if decide (v1 < (x0.Al.length:Int))=true then (
  (idx x0.Al v1).bind λa0=>
  if decide (a0.at_=x1)=true then (
   (Rw a0.Bm).bind λr0=>
   (Yz 80 v0 [{a0 with Bm:=r0}]).bind λz0=>
   k z0 (Zn v1 1))
  else (
   k v0 (Zn v1 1)))
 else (
  some v0)
def lJ (x0:Zb) (x1:Int)  : Nat->(List Zo)->Int->Option (List Zo)
 | 0,_,_=>none
 | m+1,v0,v1=>lI x0 x1  (lJ x0 x1  m) v0 v1
def lK (x0:Zb) (x1:Int):Option (List Zo):=
 lJ x0 x1 FU [] 0
def ZS (x0:Zg) (x1:Zj)  (Ae:Zg) (v0:Bool):Option (Zg×Bool):=
 if v0=true then (
  some (Ae,false))
 else (
  (Rw x1).bind λr0=>
  (Yz 64 Ae.queue [r0]).bind λz0=>
  some ({Ae with queue:=z0},true))
def lL (x0:Zg) (x1:Zj):Option (Zg×Bool):=
 (Ox x0).bind λr1=>
 (MK x0).bind λr2=>
 if (!r2)=true then (
  ZS x0 x1 r1 true)
 else (
  (TA x1).bind λr3=>
  if (!r3)=true then (
   ZS x0 x1 r1 true)
  else (
   ZS x0 x1 r1 (decide ((x0.queue.length:Int)=4))))
def lM (x0:Zk) (x1:Ze)  (v0:Bool):Option Zk:=
 if v0=true then (
  some x0)
 else (
  if decide ((Zn x0.count 1)=x1.every)=true then (
   some (Zk.mk (D2 x1.cap (Zn x0.tokens 1)) 0))
  else (
   some (Zk.mk x0.tokens (Zn x0.count 1))))
def lN (x0:Zk) (x1:Ze):Option Zk:=
 if (!x1.prio)=true then (
  lM x0 x1 true)
 else (
  (Ru x0 x1).bind λr0=>
  lM x0 x1 (!r0))
def lO (x0:Zg)  (Ae:Zg) (v0:Bool):Option (Zg×Bool):=
 if v0=true then (
  some (Ae,false))
 else (
  some ({Ae with An:=(Xf Ae.An 1)},true))
def lP (x0:Zg):Option (Zg×Bool):=
 (Ox x0).bind λr0=>
 (MK x0).bind λr1=>
 if (!r1)=true then (
  lO x0 r0 true)
 else (
  lO x0 r0 (decide (x0.An=x0.done)))
def lQ (x0:Zk) (x1:Ze)  (v0:Bool):Option Zk:=
 if v0=true then (
  some (Zk.mk (D2 x1.cap (Zn x0.tokens 1)) x0.count))
 else (
  some x0)
def lR (x0:Zk) (x1:Ze):Option Zk:=
 if x1.prio=true then (
  (Ru x0 x1).bind λr0=>
  lQ x0 x1 r0)
 else (
  lQ x0 x1 false)
def lS (x0:Ya) (x1:Zi) (x2:Int)  (v0:Bool):Option Ya:=
 if v0=true then (
  (Rr x1 x2).bind λr0=>
  some (Ya.mk x0.at_ (D2 r0 (Zn x0.Be 1))))
 else (
  some x0)
def lT (x0:Ya) (x1:Zi) (x2:Int):Option Ya:=
 (T9 x0 x1).bind λr1=>
 if r1=true then (
  lS x0 x1 x2 (decide (x0.at_=x2)))
 else (
  lS x0 x1 x2 false)
def TD (x0:Za) (x1:Zh):Option Za:=
 (idx x0.m x1.Ah).bind λa0=>
 (lP a0).bind λr0=>
 (Jv x0.m x1.Ah r0.1).bind λy0=>
 if decide (x1.B6=1)=true then (
  (idx x0.buckets x1.Ah).bind λa1=>
  (idx x0.Ad.Ab x1.Ah).bind λa2=>
  (lR a1 a2).bind λr1=>
  (Jv x0.buckets x1.Ah r1).bind λy1=>
  some {x0 with m:=y0,buckets:=y1})
 else (
  if decide (x1.B6=2)=true then (
   (lT x0.Bq x0.Ad x1.Ah).bind λr2=>
   some {x0 with m:=y0,Bq:=r2})
  else (
   some {x0 with m:=y0}))
def zW (x0:List Int) (x1:Int)  (v0:Bool):Option Int:=
 if v0=true then (
  some 0)
 else (
  (GJ (x0.length:Int)).bind λn0=>
  (idx x0 (K0 x1 (x0.length:Int))).bind λa0=>
  some a0)
def ZT (x0:List Int) (x1:Int):Option Int:=
 if decide ((x0.length:Int)=0)=true then (
  zW x0 x1 true)
 else (
  zW x0 x1 (decide (x1 < 0)))
def lU (x0:Zi) (x1:Zb) (x2:Int):Option Int:=
 (ZT x1.waits x2).bind λr0=>
 some (E7 1 (D2 x0.Ar (Zn (D2 r0 99) 1)))
def ZU (x0:Zj) (x1:Int):Option Int:=
 if (!x0.write)=true then (
  some 0)
 else (
  (idx x0.Aa x1).bind λa0=>
  some a0)
def zX (x0:Int)  (v0:Bool):Option Int:=
 if v0=true then (
  some 0)
 else (
  if decide (x0 < 128)=true then (
   some 1)
  else (
   if decide (x0 < 192)=true then (
    some 2)
   else (
    some 3)))
def lV (x0:Int):Option Int:=
 if decide (x0 < 0)=true then (
  zX x0 true)
 else (
  zX x0 (decide (x0≥224)))
def ZV (x0:List Int) (x1:Int) (x2:Int):Option Bool:=
 (ZD x0).bind λr0=>
 if r0=true then (
  (Lv x1 x2).bind λr1=>
  if r1=true then (
   (HV x2).bind λr2=>
   some (decide (x1<=(Xf (x0.length:Int) r2))))
  else (
   some false))
 else (
  some false)
def ZW (x0:List Int) (x1:Int) (x2:Int) (x3:Int)  (k:Int->(List Int)->Int->Option (List Int×Bool)) (v0:Int) (v1:List Int) (v2:Int):Option (List Int×Bool):=
 (HV x2).bind λr0=>
 if decide (v2 < r0)=true then (
  (idx v1 (Zn x1 v2)).bind λa0=>
  (Jv v1 (Zn x1 v2) (K0 v0 256)).bind λy0=>
  k (Fw v0 256) y0 (Zn v2 1))
 else (
  some (v1,true))
def lW (x0:List Int) (x1:Int) (x2:Int) (x3:Int)  : Nat->Int->(List Int)->Int->Option (List Int×Bool)
 | 0,_,_,_=>none
 | m+1,v0,v1,v2=>ZW x0 x1 x2 x3  (lW x0 x1 x2 x3  m) v0 v1 v2
def lX (x0:List Int) (x1:Int) (x2:Int) (x3:Int)  (v1:List Int) (v3:Bool):Option (List Int×Bool):=
 if v3=true then (
  some (v1,false))
 else (
  lW x0 x1 x2 x3 FU x3 v1 0)
def lY (x0:List Int) (x1:Int) (x2:Int) (x3:Int):Option (List Int×Bool):=
 (Yz 8 [] x0).bind λz0=>
 (ZV x0 x1 x2).bind λr1=>
 if (!r1)=true then (
  lX x0 x1 x2 x3 z0 true)
 else (
  (Kf x2).bind λr2=>
  (Z2 x3 0 (Xf r2 1)).bind λr3=>
  lX x0 x1 x2 x3 z0 (!r3))
def ZX (x0:Zl) (x1:Bool) (x2:Int) (x3:Int)  (Ae:Zl) (v0:Bool):Option (Zl×Int×Bool):=
 if v0=true then (
  (idx Ae.A2 0).bind λa0=>
  (Yt Ae.A2 1 (Ae.A2.length:Int)).bind λs0=>
  some ({Ae with A2:=s0},a0,true))
 else (
  some (Ae,0,false))
def ZY (x0:Zl) (x1:Bool) (x2:Int) (x3:Int)  (Ae:Zl) (v1:Bool):Option (Zl×Int×Bool):=
 if v1=true then (
  (Yz 8 Ae.A2 [x3]).bind λz0=>
  some ({Ae with A2:=z0},x3,true))
 else (
  if decide (x2=20)=true then (
   if (!x1)=true then (
    ZX x0 x1 x2 x3 Ae (decide ((Ae.A2.length:Int) > 0)))
   else (
    ZX x0 x1 x2 x3 Ae false))
  else (
   ZX x0 x1 x2 x3 Ae false))
def lZ (x0:Zl) (x1:Bool) (x2:Int) (x3:Int)  (Ae:Zl) (v2:Bool):Option (Zl×Int×Bool):=
 if v2=true then (
  some ({Ae with timer:=x3},x3,true))
 else (
  if decide (x2=16)=true then (
   (Kf 2).bind λr0=>
   (GJ r0).bind λn0=>
   some ({Ae with timer:=(K0 (Zn Ae.timer 1) r0)},Ae.timer,true))
  else (
   if decide (x2=20)=true then (
    if x1=true then (
     ZY x0 x1 x2 x3 Ae (decide ((Ae.A2.length:Int) < 4)))
    else (
     ZY x0 x1 x2 x3 Ae false))
   else (
    ZY x0 x1 x2 x3 Ae false)))
def l5 (x0:Zl) (x1:Bool) (x2:Int) (x3:Int)  (Ae:Zl) (v3:Bool):Option (Zl×Int×Bool):=
 if v3=true then (
  (idx Ae.AH (Fw x2 4)).bind λa1=>
  (Jv Ae.AH (Fw x2 4) x3).bind λy0=>
  some ({Ae with AH:=y0},x3,true))
 else (
  (Z2 x2 0 12).bind λr1=>
  if r1=true then (
   (idx Ae.AH (Fw x2 4)).bind λa2=>
   some (Ae,a2,true))
  else (
   if decide (x2=16)=true then (
    lZ x0 x1 x2 x3 Ae x1)
   else (
    lZ x0 x1 x2 x3 Ae false)))
def MO (x0:Zl) (x1:Bool) (x2:Int) (x3:Int)  (Ae:Zl) (v4:Bool):Option (Zl×Int×Bool):=
 if v4=true then (
  some (Ae,0,false))
 else (
  (Z2 x2 0 12).bind λr2=>
  if r2=true then (
   l5 x0 x1 x2 x3 Ae x1)
  else (
   l5 x0 x1 x2 x3 Ae false))
def l6 (x0:Zl) (x1:Bool) (x2:Int) (x3:Int):Option (Zl×Int×Bool):=
 (ZO x0).bind λr3=>
 (ZF x0).bind λr4=>
 if (!r4)=true then (
  MO x0 x1 x2 x3 r3 true)
 else (
  if decide ((K0 x2 4)≠0)=true then (
   MO x0 x1 x2 x3 r3 true)
  else (
   if x1=true then (
    (Kf 2).bind λr5=>
    (Z2 x3 0 (Xf r5 1)).bind λr6=>
    MO x0 x1 x2 x3 r3 (!r6))
   else (
    MO x0 x1 x2 x3 r3 false)))
def ZZ (x0:List Int) (x1:Int) (x2:Int)  (k:Int->Int->Option (Int×Bool)) (v0:Int) (v1:Int):Option (Int×Bool):=
 if decide (v1≥0)=true then (
  (idx x0 (Zn x1 v1)).bind λa0=>
  k (Zn (Qo v0 256) a0) (Xf v1 1))
 else (
  some (v0,true))
def l7 (x0:List Int) (x1:Int) (x2:Int)  : Nat->Int->Int->Option (Int×Bool)
 | 0,_,_=>none
 | m+1,v0,v1=>ZZ x0 x1 x2  (l7 x0 x1 x2  m) v0 v1
def l8 (x0:List Int) (x1:Int) (x2:Int):Option (Int×Bool):=
 (ZV x0 x1 x2).bind λr0=>
 if (!r0)=true then (
  some (0,false))
 else (
  (HV x2).bind λr1=>
  l7 x0 x1 x2 FU 0 (Xf r1 1))
def l9 (x0:Zf) (x1:Bool) (x2:Int) (x3:Int) (x4:Int)  (Ae:Zf) (A1:Zl) (v0:Int) (v1:Bool):Option (Zf×Int×Int):=
 if v1=true then (
  some ((Zf.mk Ae.mem A1),v0,0))
 else (
  some (Ae,0,1))
def mA (x0:Zf) (x1:Bool) (x2:Int) (x3:Int) (x4:Int)  (AI:Zf) (v2:Int) (v3:Bool):Option (Zf×Int×Int):=
 if v3=true then (
  if x1=true then (
   (lY x0.mem x2 x3 x4).bind λr0=>
   some ((Zf.mk r0.1 AI.dev),x4,0))
  else (
   (l8 x0.mem x2 x3).bind λr1=>
   some (AI,r1.1,0)))
 else (
  if decide (v2=3)=true then (
   (l6 x0.dev x1 (Xf x2 192) x4).bind λr2=>
   if decide (x3=2)=true then (
    l9 x0 x1 x2 x3 x4 AI r2.1 r2.2.1 r2.2.2)
   else (
    l9 x0 x1 x2 x3 x4 AI r2.1 r2.2.1 false))
  else (
   some (AI,0,1)))
def J1 (x0:Zf) (x1:Bool) (x2:Int) (x3:Int) (x4:Int)  (AI:Zf) (v4:Bool):Option (Zf×Int×Int):=
 if v4=true then (
  some (AI,0,1))
 else (
  (lV x2).bind λr3=>
  if decide (r3=1)=true then (
   mA x0 x1 x2 x3 x4 AI r3 (decide (r3=1)))
  else (
   mA x0 x1 x2 x3 x4 AI r3 (decide (r3=2))))
def TE (x0:Zf) (x1:Bool) (x2:Int) (x3:Int) (x4:Int):Option (Zf×Int×Int):=
 (ZP x0).bind λr4=>
 (ZG x0).bind λr5=>
 if (!r5)=true then (
  J1 x0 x1 x2 x3 x4 r4 true)
 else (
  (Lv x2 x3).bind λr6=>
  if (!r6)=true then (
   J1 x0 x1 x2 x3 x4 r4 true)
  else (
   if x1=true then (
    (Kf x3).bind λr7=>
    (Z2 x4 0 (Xf r7 1)).bind λr8=>
    J1 x0 x1 x2 x3 x4 r4 (!r8))
   else (
    J1 x0 x1 x2 x3 x4 r4 false)))
def mB (x0:Zg)  (Ae:Zg) (v0:Bool):Option (Zg×Bool):=
 if v0=true then (
  some (Ae,false))
 else (
  (Ov x0).bind λr0=>
  if decide ((Zn Ae.done 1)=r0)=true then (
   (Yt Ae.queue 1 (Ae.queue.length:Int)).bind λs0=>
   some ((Zg.mk s0 0 0 0 false false),true))
  else (
   some ((Zg.mk Ae.queue Ae.An (Zn Ae.done 1) 0 false Ae.broken),true)))
def mC (x0:Zg):Option (Zg×Bool):=
 (Ox x0).bind λr1=>
 (MK x0).bind λr2=>
 if (!r2)=true then (
  mB x0 r1 true)
 else (
  mB x0 r1 (decide (x0.An=x0.done)))
def aA (x0:Za) (x1:Zb)  (Ae:Za) (A1:Zg) (AI:Zs):Option Za:=
 (Yz 56 Ae.log [AI]).bind λz0=>
 (mC A1).bind λr0=>
 (idx Ae.m x0.Aa.Ah).bind λa0=>
 (Jv Ae.m x0.Aa.Ah r0.1).bind λy0=>
 if decide (Ae.Af=x0.Aa.Ah)=true then (
  if decide (r0.1.done=0)=true then (
   some {Ae with m:=y0,Af:=(-1),held:=0,log:=z0})
  else (
   some {Ae with m:=y0,log:=z0}))
 else (
  some {Ae with m:=y0,log:=z0})
def mD (x0:Za) (x1:Zb):Option Za:=
 (idx x0.m x0.Aa.Ah).bind λa1=>
 if decide (x0.Aa.Ap=2)=true then (
  (Jv x0.m x0.Aa.Ah {a1 with tries:=(Zn a1.tries 1)}).bind λy1=>
  (TD {x0 with m:=y1,Aa:=Zh.z0} x0.Aa).bind λr1=>
  some r1)
 else (
  if decide (x0.Aa.Ap=3)=true then (
   (Jv x0.m x0.Aa.Ah {a1 with Ax:=true}).bind λy2=>
   (lU x0.Ad x1 x0.At).bind λr2=>
   (idx x0.splits x0.Aa.Ah).bind λa2=>
   (Jv x0.splits x0.Aa.Ah r2).bind λy3=>
   (TD {x0 with m:=y2,splits:=y3,Aa:=Zh.z0} x0.Aa).bind λr3=>
   some r3)
  else (
   (idx a1.queue 0).bind λa3=>
   (Rx a1 x0.Aa.An).bind λr4=>
   if decide (x0.Aa.Ap=0)=true then (
    (ZU a3 x0.Aa.An).bind λr5=>
    (TE x0.model a3.write r4 a3.size r5).bind λr6=>
    aA x0 x1 {x0 with Aa:=Zh.z0,model:=r6.1} a1 (Zs.mk x0.now x0.Aa.Ah a3.write r4 a3.size r6.2.1 x0.Aa.Ap))
   else (
    aA x0 x1 {x0 with Aa:=Zh.z0} a1 (Zs.mk x0.now x0.Aa.Ah a3.write r4 a3.size 0 x0.Aa.Ap))))
def mE (x0:Zb) (x1:Int):Option Int:=
 (ZT x0.A4 x1).bind λr0=>
 if decide (r0=2)=true then (
  some r0)
 else (
  if decide (r0=3)=true then (
   some r0)
  else (
   some 0))
def mF (x0:Zi) (x1:Zb) (x2:Int):Option Int:=
 (ZT x1.waits x2).bind λr0=>
 some (E7 0 (D2 x0.Au r0))
def aB (x0:Za) (x1:Zb)  (Ae:Zh):Option Za:=
 some {x0 with addr:=Zh.z0,Aa:=Ae,At:=(Zn x0.At 1)}
def Jl (x0:Za) (x1:Zb)  (Ae:Zh) (v0:Bool):Option Za:=
 if v0=true then (
  aB x0 x1 {Ae with Ap:=3})
 else (
  aB x0 x1 Ae)
def TF (x0:Za) (x1:Zb)  (Ae:Zh) (A1:Zg) (v1:Int) (v2:Int):Option Za:=
 if (!A1.broken)=true then (
  if decide (v2=3)=true then (
   if decide (v1=2)=true then (
    if (!A1.Ax)=true then (
     Jl x0 x1 Ae (decide (x0.Af≠Ae.Ah)))
    else (
     Jl x0 x1 Ae false))
   else (
    Jl x0 x1 Ae false))
  else (
   Jl x0 x1 Ae false))
 else (
  Jl x0 x1 Ae false)
def Jb (x0:Za) (x1:Zb)  (Ae:Zh) (A1:Zg) (v1:Int) (v2:Int) (v3:Bool):Option Za:=
 if v3=true then (
  TF x0 x1 {Ae with Ap:=2} A1 v1 v2)
 else (
  TF x0 x1 Ae A1 v1 v2)
def TG (x0:Za) (x1:Zb)  (Ae:Zh) (A1:Zg) (v1:Int) (v2:Int):Option Za:=
 if (!A1.broken)=true then (
  if decide (v2=2)=true then (
   if decide (v1=1)=true then (
    Jb x0 x1 Ae A1 v1 v2 (decide (A1.tries < x0.Ad.Ao)))
   else (
    if decide (v1=2)=true then (
     Jb x0 x1 Ae A1 v1 v2 (decide (A1.tries < x0.Ad.Ao)))
    else (
     Jb x0 x1 Ae A1 v1 v2 false)))
  else (
   Jb x0 x1 Ae A1 v1 v2 false))
 else (
  Jb x0 x1 Ae A1 v1 v2 false)
def TH (x0:Za) (x1:Zb)  (Ae:Zh) (A1:Zg) (v1:Int) (v2:Int) (v4:Bool):Option Za:=
 if v4=true then (
  TG x0 x1 {Ae with left:=(Zn Ae.left 2)} A1 v1 v2)
 else (
  TG x0 x1 Ae A1 v1 v2)
def TI (x0:Za) (x1:Zb)  (Ae:Zh) (A1:Zg) (v1:Int) (v2:Int):Option Za:=
 if decide (v1=3)=true then (
  TH x0 x1 Ae A1 v1 v2 (!A1.broken))
 else (
  TH x0 x1 Ae A1 v1 v2 false)
def TJ (x0:Za) (x1:Zb)  (AI:Zg) (TK:Zj) (v5:Int) (v1:Int) (v2:Int) (v6:Bool):Option Za:=
 if v6=true then (
  TI x0 x1 {x0.addr with Ap:=1} AI v1 v2)
 else (
  (mF x0.Ad x1 x0.At).bind λr0=>
  (ZU TK x0.addr.An).bind λr1=>
  (TE x0.model TK.write v5 TK.size r1).bind λr2=>
  TI x0 x1 {x0.addr with left:=r0,Ap:=r2.2.2} AI v1 v2)
def mG (x0:Za) (x1:Zb):Option Za:=
 if (!x0.addr.live)=true then (
  some {x0 with addr:=Zh.z0})
 else (
  (idx x0.m x0.addr.Ah).bind λa0=>
  (idx a0.queue 0).bind λa1=>
  (Rx a0 x0.addr.An).bind λr3=>
  (lV r3).bind λr4=>
  (mE x1 x0.At).bind λr5=>
  if a0.broken=true then (
   TJ x0 x1 a0 a1 r3 r4 r5 true)
  else (
   TJ x0 x1 a0 a1 r3 r4 r5 (decide (r4=0))))
def aC (x0:Zg):Option Bool:=
 (MK x0).bind λr0=>
 if r0=true then (
  (Ov x0).bind λr1=>
  some (decide (x0.An < r1)))
 else (
  some false)
def aD (x0:Zk) (x1:Ze)  (v0:Bool):Option (Zk×Bool):=
 if v0=true then (
  some (x0,false))
 else (
  some ((Zk.mk (Xf x0.tokens 1) x0.count),true))
def mH (x0:Zk) (x1:Ze):Option (Zk×Bool):=
 if (!x1.prio)=true then (
  aD x0 x1 true)
 else (
  (Ru x0 x1).bind λr0=>
  if (!r0)=true then (
   aD x0 x1 true)
  else (
   aD x0 x1 (decide (x0.tokens=0))))
def mI (x0:Zg)  (Ae:Zg) (v0:Bool):Option (Zg×Bool):=
 if v0=true then (
  some (Ae,false))
 else (
  some ({Ae with An:=(Zn Ae.An 1)},true))
def mJ (x0:Zg):Option (Zg×Bool):=
 (Ox x0).bind λr0=>
 (aC x0).bind λr1=>
 if (!r1)=true then (
  mI x0 r0 true)
 else (
  mI x0 r0 (decide (x0.An=(Zn x0.done 2))))
def zY (x0:Ya) (x1:Zi) (x2:List Bool)  (k:Int->Option (Ya×Int)) (v0:Int):Option (Ya×Int):=
 if decide (v0<=(x2.length:Int))=true then (
  (GJ (x2.length:Int)).bind λn0=>
  (idx x2 (K0 (Zn x0.at_ v0) (x2.length:Int))).bind λa0=>
  if a0=true then (
   (Rr x1 (K0 (Zn x0.at_ v0) (x2.length:Int))).bind λr0=>
   some ((Ya.mk (K0 (Zn x0.at_ v0) (x2.length:Int)) (Xf r0 1)),(K0 (Zn x0.at_ v0) (x2.length:Int))))
  else (
   k (Zn v0 1)))
 else (
  some ((Ya.mk x0.at_ 0),(-1)))
def mK (x0:Ya) (x1:Zi) (x2:List Bool)  : Nat->Int->Option (Ya×Int)
 | 0,_=>none
 | m+1,v0=>zY x0 x1 x2  (mK x0 x1 x2  m) v0
def mL (x0:Ya) (x1:Zi) (x2:List Bool)  (v1:Bool):Option (Ya×Int):=
 if v1=true then (
  some ((Ya.mk x0.at_ (Xf x0.Be 1)),x0.at_))
 else (
  mK x0 x1 x2 FU 1)
def mM (x0:Ya) (x1:Zi) (x2:List Bool)  (v2:Bool):Option (Ya×Int):=
 if v2=true then (
  some (x0,(-1)))
 else (
  if decide (x0.Be > 0)=true then (
   (idx x2 x0.at_).bind λa1=>
   mL x0 x1 x2 a1)
  else (
   mL x0 x1 x2 false))
def mN (x0:Ya) (x1:Zi) (x2:List Bool):Option (Ya×Int):=
 (T9 x0 x1).bind λr1=>
 if (!r1)=true then (
  mM x0 x1 x2 true)
 else (
  mM x0 x1 x2 (decide ((x2.length:Int)≠(x1.Ab.length:Int))))
def mO (x0:Za) (DF:Za->Zh->(List Bool)->Int->Option Za) (Ae:Za) (A1:Zh) (v0:List Bool) (v1:Int) (v2:Bool):Option Za:=
 if v2=true then (
  (idx Ae.buckets v1).bind λa0=>
  (idx Ae.Ad.Ab v1).bind λa1=>
  (mH a0 a1).bind λr0=>
  (Jv Ae.buckets v1 r0.1).bind λy0=>
  DF {Ae with buckets:=y0} (Zh.mk false v1 0 false 1 0 0 false) v0 (Zn v1 1))
 else (
  DF Ae A1 v0 (Zn v1 1))
def mP (x0:Za)  (Ae:Za) (A1:Zh) (AI:Zg):Option Za:=
 (mJ AI).bind λr1=>
 (idx Ae.m A1.Ah).bind λa2=>
 (Jv Ae.m A1.Ah r1.1).bind λy1=>
 some {Ae with m:=y1,last:=A1.Ah,addr:=A1}
def aE (x0:Za)  (Ae:Za) (A1:Zh) (AI:Zg) (v3:Bool):Option Za:=
 if v3=true then (
  mP x0 {Ae with Af:=A1.Ah,held:=0} A1 AI)
 else (
  mP x0 Ae A1 AI)
def aF (x0:Za)  (Ae:Za) (A1:Zh) (AI:Zg):Option Za:=
 (idx AI.queue 0).bind λa3=>
 if a3.lock=true then (
  if (!AI.broken)=true then (
   aE x0 Ae A1 AI (decide (Ae.Af < 0)))
  else (
   aE x0 Ae A1 AI false))
 else (
  aE x0 Ae A1 AI false)
def Oy (x0:Za)  (Ae:Za) (A1:Zh):Option Za:=
 if decide (A1.Ah < 0)=true then (
  some Ae)
 else (
  (idx Ae.m A1.Ah).bind λa4=>
  if decide (a4.An=0)=true then (
   aF x0 Ae {A1 with live:=true,An:=a4.An,first:=true} a4)
  else (
   aF x0 Ae {A1 with live:=true,An:=a4.An,first:=(decide (Ae.last≠A1.Ah))} a4))
def aG (x0:Za)  (Ae:Za) (A1:Zh) (v0:List Bool) (v4:Bool):Option Za:=
 if v4=true then (
  (mN Ae.Bq Ae.Ad v0).bind λr2=>
  Oy x0 {Ae with Bq:=r2.1} {A1 with Ah:=r2.2,B6:=2})
 else (
  Oy x0 Ae A1)
def TL (x0:Za) (DF:Za->Zh->(List Bool)->Int->Option Za) (Ae:Za) (A1:Zh) (v0:List Bool) (v1:Int) (v5:Bool):Option Za:=
 if v5=true then (
  (idx v0 v1).bind λa5=>
  if a5=true then (
   (idx Ae.buckets v1).bind λa6=>
   mO x0 DF Ae A1 v0 v1 (decide (a6.tokens > 0)))
  else (
   mO x0 DF Ae A1 v0 v1 false))
 else (
  if decide (A1.Ah < 0)=true then (
   aG x0 Ae A1 v0 (decide (Ae.Af < 0)))
  else (
   aG x0 Ae A1 v0 false))
def Ry (x0:Za)  (k:Za->Zh->(List Bool)->Int->Option Za) (Ae:Za) (A1:Zh) (v0:List Bool) (v1:Int):Option Za:=
 if decide (v1 < (Ae.m.length:Int))=true then (
  TL x0 k Ae A1 v0 v1 (decide (A1.Ah < 0)))
 else (
  TL x0 k Ae A1 v0 v1 false)
def Rz (x0:Za)  : Nat->Za->Zh->(List Bool)->Int->Option Za
 | 0,_,_,_,_=>none
 | m+1,Ae,A1,v0,v1=>Ry x0  (Rz x0  m) Ae A1 v0 v1
def mQ (x0:Za)  (A1:Zh) (v0:List Bool):Option Za:=
 Rz x0 FU x0 A1 v0 0
def mR (x0:Za)  (v0:List Bool) (v6:Bool):Option Za:=
 if v6=true then (
  mQ x0 (Zh.mk false x0.Af 0 false 3 0 0 false) v0)
 else (
  mQ x0 (Zh.mk false (-1) 0 false 0 0 0 false) v0)
def mS (x0:Za)  (k:(List Bool)->Int->Option Za) (v0:List Bool) (v7:Int):Option Za:=
 if decide (v7 < (x0.m.length:Int))=true then (
  (idx x0.m v7).bind λa7=>
  (aC a7).bind λr3=>
  if r3=true then (
   (idx x0.splits v7).bind λa8=>
   if decide (a8=0)=true then (
    if decide (x0.Af < 0)=true then (
     (Yz 1 v0 [true]).bind λz0=>
     k z0 (Zn v7 1))
    else (
     (Yz 1 v0 [decide (x0.Af=v7)]).bind λz0=>
     k z0 (Zn v7 1)))
   else (
    (Yz 1 v0 [false]).bind λz0=>
    k z0 (Zn v7 1)))
  else (
   (Yz 1 v0 [false]).bind λz0=>
   k z0 (Zn v7 1)))
 else (
  if decide (x0.Af≥0)=true then (
   (idx v0 x0.Af).bind λa9=>
   mR x0 v0 a9)
  else (
   mR x0 v0 false))
def mT (x0:Za)  : Nat->(List Bool)->Int->Option Za
 | 0,_,_=>none
 | m+1,v0,v7=>mS x0  (mT x0  m) v0 v7
def mU (x0:Za):Option Za:=
 mT x0 FU [] 0
def TM (x0:Za) (x1:Zb)  (Ae:Za) (A1:Zp):Option (Za×Zp):=
 some ({Ae with now:=(Zn Ae.now 1)},A1)
def TN (x0:Za) (x1:Zb)  (Ae:Za) (AI:Zp):Option (Za×Zp):=
 (mG Ae x1).bind λr0=>
 (mU r0).bind λr1=>
 if r1.addr.live=true then (
  TM x0 x1 r1 {AI with C0:=r1.addr.Ah})
 else (
  TM x0 x1 r1 AI)
def Oz (x0:Za) (x1:Zb)  (Ae:Za) (AI:Zp) (v0:Bool):Option (Za×Zp):=
 if v0=true then (
  (idx Ae.m Ae.Af).bind λa0=>
  (Jv Ae.m Ae.Af {a0 with broken:=true}).bind λy0=>
  TN x0 x1 {Ae with m:=y0,Af:=(-1),held:=0} AI)
 else (
  TN x0 x1 Ae AI)
def Kw (x0:Za) (x1:Zb)  (Ae:Za) (AI:Zp):Option (Za×Zp):=
 if AI.ready=true then (
  if decide (Ae.Af≥0)=true then (
   Oz x0 x1 Ae AI (decide (Ae.held≥Ae.Ad.Am)))
  else (
   Oz x0 x1 Ae AI false))
 else (
  TM x0 x1 Ae AI)
def O0 (x0:Za) (x1:Zb)  (Ae:Za) (AI:Zp) (v1:Bool):Option (Za×Zp):=
 if v1=true then (
  if Ae.addr.live=true then (
   (TD {Ae with addr:=Zh.z0,Aa:={Ae.Aa with second:=true}} Ae.addr).bind λr2=>
   Kw x0 x1 r2 {AI with ready:=false,Ap:=Ae.Aa.Ap})
  else (
   Kw x0 x1 {Ae with Aa:={Ae.Aa with second:=true}} {AI with ready:=false,Ap:=Ae.Aa.Ap}))
 else (
  if Ae.Aa.live=true then (
   (mD Ae x1).bind λr3=>
   Kw x0 x1 r3 {AI with Ap:=Ae.Aa.Ap})
  else (
   Kw x0 x1 Ae AI))
def mV (x0:Za) (x1:Zb)  (Ae:Za) (AI:Zp) (v2:Bool):Option (Za×Zp):=
 if v2=true then (
  Kw x0 x1 {Ae with Aa:={Ae.Aa with left:=(Xf Ae.Aa.left 1)}} {AI with ready:=false})
 else (
  if Ae.Aa.live=true then (
   if decide (Ae.Aa.Ap≠0)=true then (
    O0 x0 x1 Ae AI (!Ae.Aa.second))
   else (
    O0 x0 x1 Ae AI false))
  else (
   O0 x0 x1 Ae AI false))
def O1 (x0:Za) (x1:Zb)  (Ae:Za) (AI:Zp):Option (Za×Zp):=
 if Ae.Aa.live=true then (
  mV x0 x1 Ae AI (decide (Ae.Aa.left > 0)))
 else (
  mV x0 x1 Ae AI false)
def mX (x0:Za) (x1:Zb)  (k:Za->Zp->Int->Option (Za×Zp)) (Ae:Za) (AI:Zp) (v3:Int):Option (Za×Zp):=
 if decide (v3 < (Ae.m.length:Int))=true then (
  (idx Ae.splits v3).bind λa1=>
  (Jv Ae.splits v3 (E7 0 (Xf a1 1))).bind λy1=>
  (idx Ae.buckets v3).bind λa2=>
  (idx Ae.Ad.Ab v3).bind λa3=>
  (lN a2 a3).bind λr4=>
  (Jv Ae.buckets v3 r4).bind λy2=>
  k {Ae with buckets:=y2,splits:=y1} AI (Zn v3 1))
 else (
  if decide (Ae.Af≥0)=true then (
   O1 x0 x1 {Ae with held:=(D2 Ae.Ad.Am (Zn Ae.held 1))} AI)
  else (
   O1 x0 x1 Ae AI))
def R0 (x0:Za) (x1:Zb)  : Nat->Za->Zp->Int->Option (Za×Zp)
 | 0,_,_,_=>none
 | m+1,Ae,AI,v3=>mX x0 x1  (R0 x0 x1  m) Ae AI v3
def mY (x0:Za) (x1:Zb)  (k:Za->Zp->(List Zo)->Int->Option (Za×Zp)) (Ae:Za) (AI:Zp) (v4:List Zo) (v5:Int):Option (Za×Zp):=
 if decide (v5 < (v4.length:Int))=true then (
  (idx v4 v5).bind λa4=>
  (Z2 a4.Ah 0 (Xf (Ae.m.length:Int) 1)).bind λr5=>
  if r5=true then (
   (idx Ae.m a4.Ah).bind λa5=>
   (lL a5 a4.Bm).bind λr6=>
   (Jv Ae.m a4.Ah r6.1).bind λy3=>
   k {Ae with m:=y3} AI v4 (Zn v5 1))
  else (
   k Ae AI v4 (Zn v5 1)))
 else (
  R0 x0 x1 FU Ae AI 0)
def aH (x0:Za) (x1:Zb)  : Nat->Za->Zp->(List Zo)->Int->Option (Za×Zp)
 | 0,_,_,_,_=>none
 | m+1,Ae,AI,v4,v5=>mY x0 x1  (aH x0 x1  m) Ae AI v4 v5
def aI (x0:Za) (x1:Zb):Option (Za×Zp):=
 (TC x0).bind λr7=>
 (lH r7).bind λr8=>
 (lK x1 r7.now).bind λr9=>
 aH x0 x1 FU r7 r8 r9 0
def zZ (x0:Za) (x1:Zb)  (v0:Bool):Option (Za×Zp):=
 if v0=true then (
  (TC x0).bind λr0=>
  some (r0,Zp.z0))
 else (
  (aI x0 x1).bind λr1=>
  some (r1.1,r1.2))
def Z57 (x0:Za) (x1:Zb):Option (Za×Zp):=
 (Lx x0).bind λr2=>
 if (!r2)=true then (
  zZ x0 x1 true)
 else (
  zZ x0 x1 (decide (x0.now=4000)))
def Z27 (x0:Int):Option ByteArray:=
 if decide (x0=0)=true then (
  some (Zc [105,100,108,101]))
 else (
  if decide (x0=2)=true then (
   some (Zc [102,105,114,115,116]))
  else (
   if decide (x0=3)=true then (
    some (Zc [110,101,120,116]))
   else (
    some ByteArray.empty)))
def O2 (x0:Int):Option ByteArray:=
 if decide (x0 < 0)=true then (
  some (Zc [45]))
 else (
  (W4 x0).bind λr0=>
  some r0)
def mZ (x0:Zp)  (v0:ByteArray):Option ByteArray:=
 (ML x0.Ap).bind λr0=>
 (Z6 v0 r0).bind λn0=>
 (Z6 (v0++r0) (Zc [32])).bind λn1=>
 (O2 x0.C0).bind λr1=>
 (Z6 ((v0++r0)++(Zc [32])) r1).bind λn2=>
 some (((v0++r0)++(Zc [32]))++r1)
def Z2j (x0:Zp):Option ByteArray:=
 (W4 x0.A3).bind λr2=>
 (Z6 r2 (Zc [32])).bind λn3=>
 (Z27 x0.kind).bind λr3=>
 (Z6 (r2++(Zc [32])) r3).bind λn4=>
 (Z6 ((r2++(Zc [32]))++r3) (Zc [32])).bind λn5=>
 (O2 x0.Ah).bind λr4=>
 (Z6 (((r2++(Zc [32]))++r3)++(Zc [32])) r4).bind λn6=>
 (Z6 ((((r2++(Zc [32]))++r3)++(Zc [32]))++r4) (Zc [58])).bind λn7=>
 (O2 x0.addr).bind λr5=>
 (Z6 (((((r2++(Zc [32]))++r3)++(Zc [32]))++r4)++(Zc [58])) r5).bind λn8=>
 (Z6 ((((((r2++(Zc [32]))++r3)++(Zc [32]))++r4)++(Zc [58]))++r5) (Zc [32])).bind λn9=>
 (O2 x0.from_).bind λr6=>
 (Z6 (((((((r2++(Zc [32]))++r3)++(Zc [32]))++r4)++(Zc [58]))++r5)++(Zc [32])) r6).bind λn10=>
 (Z6 ((((((((r2++(Zc [32]))++r3)++(Zc [32]))++r4)++(Zc [58]))++r5)++(Zc [32]))++r6) (Zc [58])).bind λn11=>
 (O2 x0.Aa).bind λr7=>
 (Z6 (((((((((r2++(Zc [32]))++r3)++(Zc [32]))++r4)++(Zc [58]))++r5)++(Zc [32]))++r6)++(Zc [58])) r7).bind λn12=>
 (Z6 ((((((((((r2++(Zc [32]))++r3)++(Zc [32]))++r4)++(Zc [58]))++r5)++(Zc [32]))++r6)++(Zc [58]))++r7) (Zc [32])).bind λn13=>
 if x0.ready=true then (
  (Z6 (((((((((((r2++(Zc [32]))++r3)++(Zc [32]))++r4)++(Zc [58]))++r5)++(Zc [32]))++r6)++(Zc [58]))++r7)++(Zc [32])) (Zc [114,101,97,100,121,32])).bind λn14=>
  mZ x0 ((((((((((((r2++(Zc [32]))++r3)++(Zc [32]))++r4)++(Zc [58]))++r5)++(Zc [32]))++r6)++(Zc [58]))++r7)++(Zc [32]))++(Zc [114,101,97,100,121,32])))
 else (
  (Z6 (((((((((((r2++(Zc [32]))++r3)++(Zc [32]))++r4)++(Zc [58]))++r5)++(Zc [32]))++r6)++(Zc [58]))++r7)++(Zc [32])) (Zc [119,97,105,116,32])).bind λn15=>
  mZ x0 ((((((((((((r2++(Zc [32]))++r3)++(Zc [32]))++r4)++(Zc [58]))++r5)++(Zc [32]))++r6)++(Zc [58]))++r7)++(Zc [32]))++(Zc [119,97,105,116,32])))
def Yid (x0:Za)  (k:Int->Option Bool) (v0:Int):Option Bool:=
 if decide (v0 < (x0.m.length:Int))=true then (
  (idx x0.m v0).bind λa0=>
  if decide ((a0.queue.length:Int) > 0)=true then (
   some false)
  else (
   k (Zn v0 1)))
 else (
  some true)
def nA (x0:Za)  : Nat->Int->Option Bool
 | 0,_=>none
 | m+1,v0=>Yid x0  (nA x0  m) v0
def nB (x0:Za):Option Bool:=
 nA x0 FU 0
def Yfp (x0:Zb)  (k:Int->Int->Option Int) (v0:Int) (v1:Int):Option Int:=
 if decide (v1 < (x0.Al.length:Int))=true then (
  (idx x0.Al v1).bind λa0=>
  k (E7 v0 a0.at_) (Zn v1 1))
 else (
  some v0)
def nC (x0:Zb)  : Nat->Int->Int->Option Int
 | 0,_,_=>none
 | m+1,v0,v1=>Yfp x0  (nC x0  m) v0 v1
def nD (x0:Zb):Option Int:=
 nC x0 FU (-1) 0
def TO (x0:Za) (x1:Zb) (AN:Za->Int->Option (Za×Int)) (Ae:Za) (v0:Int) (v1:Bool):Option (Za×Int):=
 if v1=true then (
  (aI Ae x1).bind λr0=>
  AN r0.1 (Zn v0 1))
 else (
  some (Ae,v0))
def aJ (x0:Za) (x1:Zb)  (k:Za->Int->Option (Za×Int)) (Ae:Za) (v0:Int):Option (Za×Int):=
 if decide (Ae.now < 4000)=true then (
  (nB Ae).bind λr1=>
  if (!r1)=true then (
   TO x0 x1 k Ae v0 true)
  else (
   (nD x1).bind λr2=>
   TO x0 x1 k Ae v0 (decide (Ae.now<=r2))))
 else (
  TO x0 x1 k Ae v0 false)
def R1 (x0:Za) (x1:Zb)  : Nat->Za->Int->Option (Za×Int)
 | 0,_,_=>none
 | m+1,Ae,v0=>aJ x0 x1  (R1 x0 x1  m) Ae v0
def R2 (x0:Za) (x1:Zb):Option (Za×Int):=
 (TC x0).bind λr3=>
 (Lx x0).bind λr4=>
 if (!r4)=true then (
  some (r3,0))
 else (
  R1 x0 x1 FU r3 0)
def Yiv (x0:Za)  (k:Int->Option Bool) (v0:Int):Option Bool:=
 if decide (v0 < (x0.m.length:Int))=true then (
  (idx x0.m v0).bind λa0=>
  if decide ((a0.queue.length:Int) > 0)=true then (
   some false)
  else (
   k (Zn v0 1)))
 else (
  (Lx x0).bind λr0=>
  some r0)
def Zur (x0:Za)  : Nat->Int->Option Bool
 | 0,_=>none
 | m+1,v0=>Yiv x0  (Zur x0  m) v0
def Z52 (x0:Za):Option Bool:=
 Zur x0 FU 0
def Zxl (x0:List Zs) (AN:Zf->Int->Option (Zf×Int)) (Ae:Zf) (A1:Zf) (v0:Int) (v1:Bool):Option (Zf×Int):=
 if v1=true then (
  some (Ae,v0))
 else (
  AN A1 (Zn v0 1))
def Zv9 (x0:List Zs)  (k:Zf->Int->Option (Zf×Int)) (Ae:Zf) (v0:Int):Option (Zf×Int):=
 if decide (v0 < (x0.length:Int))=true then (
  (idx x0 v0).bind λa0=>
  if decide (a0.Ap=1)=true then (
   k Ae (Zn v0 1))
  else (
   (TE Ae a0.write a0.addr a0.size a0.value).bind λr0=>
   if decide (r0.2.2≠a0.Ap)=true then (
    Zxl x0 k Ae r0.1 v0 true)
   else (
    Zxl x0 k Ae r0.1 v0 (decide (r0.2.1≠a0.value)))))
 else (
  some (Ae,(-1)))
def nE (x0:List Zs)  : Nat->Zf->Int->Option (Zf×Int)
 | 0,_,_=>none
 | m+1,Ae,v0=>Zv9 x0  (nE x0  m) Ae v0
def Z88 (x0:List Zs):Option (Zf×Int):=
 (ZA).bind λr1=>
 nE x0 FU r1 0
def nF (x0:Zs)  (v0:ByteArray):Option ByteArray:=
 (W4 x0.A3).bind λr0=>
 (Z6 r0 (Zc [32])).bind λn0=>
 (W4 x0.Ah).bind λr1=>
 (Z6 (r0++(Zc [32])) r1).bind λn1=>
 (Z6 ((r0++(Zc [32]))++r1) (Zc [32])).bind λn2=>
 (Z6 (((r0++(Zc [32]))++r1)++(Zc [32])) v0).bind λn3=>
 (W4 x0.addr).bind λr2=>
 (Z6 ((((r0++(Zc [32]))++r1)++(Zc [32]))++v0) r2).bind λn4=>
 (Z6 (((((r0++(Zc [32]))++r1)++(Zc [32]))++v0)++r2) (Zc [32])).bind λn5=>
 (W4 x0.value).bind λr3=>
 (Z6 ((((((r0++(Zc [32]))++r1)++(Zc [32]))++v0)++r2)++(Zc [32])) r3).bind λn6=>
 (Z6 (((((((r0++(Zc [32]))++r1)++(Zc [32]))++v0)++r2)++(Zc [32]))++r3) (Zc [32])).bind λn7=>
 (ML x0.Ap).bind λr4=>
 (Z6 ((((((((r0++(Zc [32]))++r1)++(Zc [32]))++v0)++r2)++(Zc [32]))++r3)++(Zc [32])) r4).bind λn8=>
 some (((((((((r0++(Zc [32]))++r1)++(Zc [32]))++v0)++r2)++(Zc [32]))++r3)++(Zc [32]))++r4)
def Z1w (x0:Zs):Option ByteArray:=
 if x0.write=true then (
  nF x0 (Zc [119,114,105,116,101,32]))
 else (
  nF x0 (Zc [114,101,97,100,32]))
def Yab (x0:K6) (x1:ByteArray):Option (K6×ByteArray):=
 if (x1.toList == (Zc [110,101,119]).toList)=true then (
  (Rp x0.c).bind λr0=>
  if (!r0.2)=true then (
   some (x0,(Zc [110,111])))
  else (
   some ({x0 with b:=r0.1,on:=true},(Zc [111,107]))))
 else (
  if (x1.toList == (Zc [99,111,110,102]).toList)=true then (
   (T8 x0.c).bind λr1=>
   if (r1.toList == ByteArray.empty.toList)=true then (
    some (x0,(Zc [110,111,110,101])))
   else (
    some (x0,r1)))
  else (
   (MJ [(Zc [115,116,101,112]),(Zc [111,117,116]),(Zc [108,111,103]),(Zc [105,100,108,101]),(Zc [111,107])] x1).bind λr2=>
   if decide (r2 < 0)=true then (
    some (x0,(Zc [119,104,97,116])))
   else (
    if (!x0.on)=true then (
     some (x0,(Zc [110,111,110,101])))
    else (
     if (x1.toList == (Zc [115,116,101,112]).toList)=true then (
      (Z57 x0.b x0.s).bind λr3=>
      if decide (x0.b.now=4000)=true then (
       some (x0,(Zc [101,110,100])))
      else (
       (Z2j r3.2).bind λr4=>
       some ({x0 with b:=r3.1},r4)))
     else (
      if (x1.toList == (Zc [111,117,116]).toList)=true then (
       (R2 x0.b x0.s).bind λr5=>
       (W4 r5.2).bind λr6=>
       some ({x0 with b:=r5.1},r6))
      else (
       if (x1.toList == (Zc [105,100,108,101]).toList)=true then (
        (Z52 x0.b).bind λr7=>
        if r7=true then (
         some (x0,(Zc [121,101,115])))
        else (
         some (x0,(Zc [110,111]))))
       else (
        if (x1.toList == (Zc [111,107]).toList)=true then (
         (Z88 x0.b.log).bind λr8=>
         (O2 r8.2).bind λr9=>
         some (x0,r9))
        else (
         if decide ((x0.b.log.length:Int)=0)=true then (
          some (x0,(Zc [45])))
         else (
          (idx x0.b.log (Xf (x0.b.log.length:Int) 1)).bind λa0=>
          (Z1w a0).bind λMN=>
          (Z6 MN (Zc [32,111,102,32])).bind λn0=>
          (W4 (x0.b.log.length:Int)).bind λTB=>
          (Z6 (MN++(Zc [32,111,102,32])) TB).bind λn1=>
          some (x0,((MN++(Zc [32,111,102,32]))++TB)))))))))))
def aK (x0:ByteArray) (AN:Int->Int->Int->Option (Int×Bool)) (v0:Int) (v1:Int) (v2:Int) (v3:Bool):Option (Int×Bool):=
 if v3=true then (
  (GK x0 v2).bind λa0=>
  AN (Zn (Qo v0 10) (MF (zB a0 48))) (Zn v1 1) (Zn v2 1))
 else (
  AN v0 v1 (Zn v2 1))
def R3 (x0:ByteArray)  (v0:Int) (v1:Int):Option (Int×Bool):=
 if decide (v1 > 9)=true then (
  some (0,false))
 else (
  if decide ((x0.size:Int) > 10)=true then (
   some (0,false))
  else (
   (W4 v0).bind λr0=>
   if (!(r0.toList == x0.toList))=true then (
    some (0,false))
   else (
    some (v0,true))))
def Wn (x0:ByteArray)  (v0:Int) (v1:Int) (v4:Bool):Option (Int×Bool):=
 if v4=true then (
  R3 x0 (T4 v0) v1)
 else (
  R3 x0 v0 v1)
def TP (x0:ByteArray) (AN:Int->Int->Int->Option (Int×Bool)) (v0:Int) (v1:Int) (v2:Int) (v5:Bool):Option (Int×Bool):=
 if v5=true then (
  (GK x0 v2).bind λa1=>
  if decide (a1≥48)=true then (
   aK x0 AN v0 v1 v2 (decide (a1<=57)))
  else (
   aK x0 AN v0 v1 v2 false))
 else (
  if decide ((x0.size:Int) > 0)=true then (
   (GK x0 0).bind λa2=>
   Wn x0 v0 v1 (decide (a2=45)))
  else (
   Wn x0 v0 v1 false))
def nG (x0:ByteArray)  (k:Int->Int->Int->Option (Int×Bool)) (v0:Int) (v1:Int) (v2:Int):Option (Int×Bool):=
 if decide (v2 < (x0.size:Int))=true then (
  TP x0 k v0 v1 v2 (decide (v2 < 11)))
 else (
  TP x0 k v0 v1 v2 false)
def nH (x0:ByteArray)  : Nat->Int->Int->Int->Option (Int×Bool)
 | 0,_,_,_=>none
 | m+1,v0,v1,v2=>nG x0  (nH x0  m) v0 v1 v2
def Js (x0:ByteArray):Option (Int×Bool):=
 nH x0 FU 0 0 0
def R4 (x0:ByteArray) (AN:Zi->(List ByteArray)->Int->Option (Zi×Bool)) (Ae:Zi) (A1:Ze) (v0:List ByteArray) (v1:Int):Option (Zi×Bool):=
 (Yz 32 Ae.Ab [A1]).bind λz0=>
 AN {Ae with Ab:=z0} v0 (Zn v1 1)
def aL (x0:ByteArray)  (k:Zi->(List ByteArray)->Int->Option (Zi×Bool)) (Ae:Zi) (v0:List ByteArray) (v1:Int):Option (Zi×Bool):=
 if decide (v1 < (v0.length:Int))=true then (
  (idx v0 v1).bind λa0=>
  (Wy a0 58).bind λr0=>
  (idx r0 0).bind λa1=>
  (Js a1).bind λr1=>
  if decide ((r0.length:Int)=3)=true then (
   (idx r0 1).bind λa2=>
   (Js a2).bind λr2=>
   (idx r0 2).bind λa3=>
   (Js a3).bind λr3=>
   R4 x0 k Ae (Ze.mk r1.1 true r2.1 r3.1) v0 v1)
  else (
   R4 x0 k Ae (Ze.mk r1.1 false 0 0) v0 v1))
 else (
  (T8 Ae).bind λr4=>
  if (!(r4.toList == x0.toList))=true then (
   some (Zi.z0,false))
  else (
   if (x0.toList == ByteArray.empty.toList)=true then (
    some (Zi.z0,false))
   else (
    some (Ae,true))))
def Jc (x0:ByteArray)  : Nat->Zi->(List ByteArray)->Int->Option (Zi×Bool)
 | 0,_,_,_=>none
 | m+1,Ae,v0,v1=>aL x0  (Jc x0  m) Ae v0 v1
def Ly (x0:ByteArray):Option (Zi×Bool):=
 (Wy x0 32).bind λr5=>
 if decide ((r5.length:Int) < 6)=true then (
  some (Zi.z0,false))
 else (
  (idx r5 0).bind λa4=>
  (Js a4).bind λr6=>
  (idx r5 1).bind λa5=>
  (Js a5).bind λr7=>
  (idx r5 2).bind λa6=>
  (Js a6).bind λr8=>
  (idx r5 3).bind λa7=>
  (Js a7).bind λr9=>
  (idx r5 4).bind λa8=>
  (Js a8).bind λMN=>
  Jc x0 FU (Zi.mk [] r6.1 r7.1 r8.1 r9.1 MN.1) r5 5)
def R5 (x0:ByteArray) (AN:ByteArray->Int->Int->Int->Option Int) (v0:ByteArray) (v1:Int) (v2:Int) (v3:Int) (v4:Bool):Option Int:=
 if v4=true then (
  some 0)
 else (
  (GK v0 v3).bind λa0=>
  AN v0 v1 (Xf (Zn (Qo v2 10) (MF a0)) 48) (Zn v3 1))
def aM (x0:ByteArray)  (k:ByteArray->Int->Int->Int->Option Int) (v0:ByteArray) (v1:Int) (v2:Int) (v3:Int):Option Int:=
 if decide (v3 < (v0.size:Int))=true then (
  (GK v0 v3).bind λa1=>
  if decide (a1 < 48)=true then (
   R5 x0 k v0 v1 v2 v3 true)
  else (
   if decide (a1 > 57)=true then (
    R5 x0 k v0 v1 v2 v3 true)
   else (
    R5 x0 k v0 v1 v2 v3 (decide ((v0.size:Int) > 18)))))
 else (
  some (Qo v1 v2))
def R6 (x0:ByteArray)  : Nat->ByteArray->Int->Int->Int->Option Int
 | 0,_,_,_,_=>none
 | m+1,v0,v1,v2,v3=>aM x0  (R6 x0  m) v0 v1 v2 v3
def TQ (x0:ByteArray)  (v0:ByteArray) (v1:Int):Option Int:=
 R6 x0 FU v0 v1 0 0
def O3 (x0:ByteArray)  (v5:Bool):Option Int:=
 if v5=true then (
  (Hs x0 1 (x0.size:Int)).bind λs0=>
  TQ x0 s0 (-1))
 else (
  TQ x0 x0 1)
def R7 (x0:ByteArray):Option Int:=
 if decide ((x0.size:Int) > 0)=true then (
  (GK x0 0).bind λa2=>
  O3 x0 (decide (a2=45)))
 else (
  O3 x0 false)
def TR (x0:List ByteArray)  (k:(List Int)->Int->Option (List Int)) (v0:List Int) (v1:Int):Option (List Int):=
 if decide (v1 < (x0.length:Int))=true then (
  (idx x0 v1).bind λa0=>
  (R7 a0).bind λr0=>
  (Yz 8 v0 [r0]).bind λz0=>
  k z0 (Zn v1 1))
 else (
  some v0)
def aN (x0:List ByteArray)  : Nat->(List Int)->Int->Option (List Int)
 | 0,_,_=>none
 | m+1,v0,v1=>TR x0  (aN x0  m) v0 v1
def TS (x0:List ByteArray):Option (List Int):=
 aN x0 FU [] 0
def nI (x0:Zj)  (k:ByteArray->Int->Option ByteArray) (v0:ByteArray) (v1:Int):Option ByteArray:=
 if decide (v1 < (x0.Aa.length:Int))=true then (
  (Z6 v0 (Zc [32])).bind λn0=>
  (idx x0.Aa v1).bind λa0=>
  (W4 a0).bind λr0=>
  (Z6 (v0++(Zc [32])) r0).bind λn1=>
  k ((v0++(Zc [32]))++r0) (Zn v1 1))
 else (
  some v0)
def aO (x0:Zj)  : Nat->ByteArray->Int->Option ByteArray
 | 0,_,_=>none
 | m+1,v0,v1=>nI x0  (aO x0  m) v0 v1
def Zvh (x0:Zj)  (v0:ByteArray):Option ByteArray:=
 aO x0 FU v0 0
def nJ (x0:Zj)  (v0:ByteArray):Option ByteArray:=
 (Z6 v0 (Zc [32])).bind λn2=>
 (idx [(Zc [98,121,116,101]),(Zc [104,97,108,102]),(Zc [119,111,114,100])] x0.size).bind λa1=>
 (Z6 (v0++(Zc [32])) a1).bind λn3=>
 (Z6 ((v0++(Zc [32]))++a1) (Zc [32])).bind λn4=>
 (idx [(Zc [111,110,101]),(Zc [102,111,117,114]),(Zc [119,114,97,112]),(Zc [101,105,103,104,116])] x0.Ay).bind λa2=>
 (Z6 (((v0++(Zc [32]))++a1)++(Zc [32])) a2).bind λn5=>
 (Z6 ((((v0++(Zc [32]))++a1)++(Zc [32]))++a2) (Zc [32])).bind λn6=>
 (W4 x0.addr).bind λr1=>
 (Z6 (((((v0++(Zc [32]))++a1)++(Zc [32]))++a2)++(Zc [32])) r1).bind λn7=>
 if x0.lock=true then (
  (Z6 ((((((v0++(Zc [32]))++a1)++(Zc [32]))++a2)++(Zc [32]))++r1) (Zc [32,108,111,99,107])).bind λn8=>
  Zvh x0 (((((((v0++(Zc [32]))++a1)++(Zc [32]))++a2)++(Zc [32]))++r1)++(Zc [32,108,111,99,107])))
 else (
  Zvh x0 ((((((v0++(Zc [32]))++a1)++(Zc [32]))++a2)++(Zc [32]))++r1))
def aP (x0:Zj):Option ByteArray:=
 (TA x0).bind λr2=>
 if (!r2)=true then (
  some ByteArray.empty)
 else (
  if x0.write=true then (
   nJ x0 (Zc [119,114,105,116,101]))
  else (
   nJ x0 (Zc [114,101,97,100])))
def Jh (x0:ByteArray)  (k:Zj->(List ByteArray)->Int->Option (Zj×Bool)) (Ae:Zj) (v0:List ByteArray) (v1:Int):Option (Zj×Bool):=
 if decide (v1 < (v0.length:Int))=true then (
  (idx v0 v1).bind λa0=>
  (R7 a0).bind λr0=>
  (Yz 8 Ae.Aa [r0]).bind λz0=>
  k {Ae with Aa:=z0} v0 (Zn v1 1))
 else (
  (aP Ae).bind λr1=>
  if (!(r1.toList == x0.toList))=true then (
   some (Zj.z0,false))
  else (
   some (Ae,true)))
def J0 (x0:ByteArray)  : Nat->Zj->(List ByteArray)->Int->Option (Zj×Bool)
 | 0,_,_,_=>none
 | m+1,Ae,v0,v1=>Jh x0  (J0 x0  m) Ae v0 v1
def aQ (x0:ByteArray)  (Ae:Zj) (v0:List ByteArray):Option (Zj×Bool):=
 J0 x0 FU Ae v0 0
def R8 (x0:ByteArray)  (Ae:Zj) (v0:List ByteArray) (v2:Bool):Option (Zj×Bool):=
 if v2=true then (
  (Yt v0 1 (v0.length:Int)).bind λs0=>
  aQ x0 {Ae with lock:=true} s0)
 else (
  aQ x0 Ae v0)
def aR (x0:ByteArray):Option (Zj×Bool):=
 (Wy x0 32).bind λr2=>
 if decide ((r2.length:Int) < 4)=true then (
  some (Zj.z0,false))
 else (
  (idx r2 0).bind λa1=>
  (idx r2 1).bind λa2=>
  (MJ [(Zc [98,121,116,101]),(Zc [104,97,108,102]),(Zc [119,111,114,100])] a2).bind λr3=>
  (idx r2 2).bind λa3=>
  (MJ [(Zc [111,110,101]),(Zc [102,111,117,114]),(Zc [119,114,97,112]),(Zc [101,105,103,104,116])] a3).bind λr4=>
  (idx r2 3).bind λa4=>
  (R7 a4).bind λr5=>
  (Yt r2 4 (r2.length:Int)).bind λs1=>
  if decide ((s1.length:Int) > 0)=true then (
   (idx s1 0).bind λa5=>
   R8 x0 (Zj.mk (a1.toList == (Zc [119,114,105,116,101]).toList) r5 r3 r4 false []) s1 (a5.toList == (Zc [108,111,99,107]).toList))
  else (
   R8 x0 (Zj.mk (a1.toList == (Zc [119,114,105,116,101]).toList) r5 r3 r4 false []) s1 false))
def nK (x0:ByteArray) (x1:List Int)  (k:ByteArray->Int->Option ByteArray) (v0:ByteArray) (v1:Int):Option ByteArray:=
 if decide (v1 < (x1.length:Int))=true then (
  (Z6 v0 (Zc [32])).bind λn0=>
  (idx x1 v1).bind λa0=>
  (W4 a0).bind λr0=>
  (Z6 (v0++(Zc [32])) r0).bind λn1=>
  k ((v0++(Zc [32]))++r0) (Zn v1 1))
 else (
  (Z6 v0 (Zc [10])).bind λn2=>
  some (v0++(Zc [10])))
def nL (x0:ByteArray) (x1:List Int)  : Nat->ByteArray->Int->Option ByteArray
 | 0,_,_=>none
 | m+1,v0,v1=>nK x0 x1  (nL x0 x1  m) v0 v1
def nM (x0:ByteArray) (x1:List Int):Option ByteArray:=
 if decide ((x1.length:Int)=0)=true then (
  some ByteArray.empty)
 else (
  nL x0 x1 FU x0 0)
def Znz (x0:Zb)  (k:ByteArray->Int->Option ByteArray) (v0:ByteArray) (v1:Int):Option ByteArray:=
 if decide (v1 < (x0.Al.length:Int))=true then (
  (idx x0.Al v1).bind λa0=>
  (aP a0.Bm).bind λr0=>
  if (r0.toList == ByteArray.empty.toList)=true then (
   some ByteArray.empty)
  else (
   (Z6 v0 (Zc [112,111,115,116,32])).bind λn0=>
   (W4 a0.at_).bind λr1=>
   (Z6 (v0++(Zc [112,111,115,116,32])) r1).bind λn1=>
   (Z6 ((v0++(Zc [112,111,115,116,32]))++r1) (Zc [32])).bind λn2=>
   (W4 a0.Ah).bind λr2=>
   (Z6 (((v0++(Zc [112,111,115,116,32]))++r1)++(Zc [32])) r2).bind λn3=>
   (Z6 ((((v0++(Zc [112,111,115,116,32]))++r1)++(Zc [32]))++r2) (Zc [32])).bind λn4=>
   (Z6 (((((v0++(Zc [112,111,115,116,32]))++r1)++(Zc [32]))++r2)++(Zc [32])) r0).bind λn5=>
   (Z6 ((((((v0++(Zc [112,111,115,116,32]))++r1)++(Zc [32]))++r2)++(Zc [32]))++r0) (Zc [10])).bind λn6=>
   k (((((((v0++(Zc [112,111,115,116,32]))++r1)++(Zc [32]))++r2)++(Zc [32]))++r0)++(Zc [10])) (Zn v1 1)))
 else (
  some v0)
def nN (x0:Zb)  : Nat->ByteArray->Int->Option ByteArray
 | 0,_,_=>none
 | m+1,v0,v1=>Znz x0  (nN x0  m) v0 v1
def Zxo (x0:Zb):Option ByteArray:=
 (nM (Zc [119,97,105,116,115]) x0.waits).bind λr3=>
 (nM (Zc [115,97,121,115]) x0.A4).bind λr4=>
 (Z6 r3 r4).bind λn7=>
 nN x0 FU (r3++r4) 0
def Ju (x0:ByteArray)  (k:Zb->(List ByteArray)->Int->Option (Zb×Bool)) (Ae:Zb) (v0:List ByteArray) (v1:Int):Option (Zb×Bool):=
 if decide (v1 < (v0.length:Int))=true then (
  (idx v0 v1).bind λa0=>
  (Wy a0 32).bind λr0=>
  (idx r0 0).bind λa1=>
  if (a1.toList == (Zc [119,97,105,116,115]).toList)=true then (
   (Yt r0 1 (r0.length:Int)).bind λs0=>
   (TS s0).bind λr1=>
   k {Ae with waits:=r1} v0 (Zn v1 1))
  else (
   if (a1.toList == (Zc [115,97,121,115]).toList)=true then (
    (Yt r0 1 (r0.length:Int)).bind λs1=>
    (TS s1).bind λr2=>
    k {Ae with A4:=r2} v0 (Zn v1 1))
   else (
    if decide ((r0.length:Int) > 3)=true then (
     (Yt r0 1 3).bind λs2=>
     (TS s2).bind λr3=>
     (idx r0 1).bind λa2=>
     (idx r0 2).bind λa3=>
     (Hs a0 (D2 (a0.size:Int) (Zn (Zn (Zn (a1.size:Int) (a2.size:Int)) (a3.size:Int)) 3)) (a0.size:Int)).bind λs3=>
     (aR s3).bind λr4=>
     (idx r3 0).bind λa4=>
     (idx r3 1).bind λa5=>
     (Yz 80 Ae.Al [(Zo.mk a4 a5 r4.1)]).bind λz0=>
     k {Ae with Al:=z0} v0 (Zn v1 1))
    else (
     k Ae v0 (Zn v1 1)))))
 else (
  (Zxo Ae).bind λr5=>
  if (!(r5.toList == x0.toList))=true then (
   some (Zb.z0,false))
  else (
   some (Ae,true)))
def TT (x0:ByteArray)  : Nat->Zb->(List ByteArray)->Int->Option (Zb×Bool)
 | 0,_,_,_=>none
 | m+1,Ae,v0,v1=>Ju x0  (TT x0  m) Ae v0 v1
def TU (x0:ByteArray):Option (Zb×Bool):=
 (Wy x0 10).bind λr6=>
 TT x0 FU Zb.z0 r6 0
def aS (x0:K6) (x1:ByteArray)  (v0:List ByteArray) (v1:Bool):Option (K6×ByteArray):=
 if v1=true then (
  (Z6 x1 (Zc [10])).bind λn0=>
  (TU (x1++(Zc [10]))).bind λr0=>
  if (!r0.2)=true then (
   some (x0,(Zc [110,111])))
  else (
   (idx v0 0).bind λa0=>
   if (a0.toList == (Zc [119,97,105,116,115]).toList)=true then (
    some ({x0 with s:={x0.s with waits:=r0.1.waits}},(Zc [111,107])))
   else (
    if (a0.toList == (Zc [115,97,121,115]).toList)=true then (
     some ({x0 with s:={x0.s with A4:=r0.1.A4}},(Zc [111,107])))
    else (
     (Yz 80 [] x0.s.Al).bind λz0=>
     (Yz 80 z0 r0.1.Al).bind λz1=>
     some ({x0 with s:={x0.s with Al:=z1}},(Zc [111,107]))))))
 else (
  some (x0,(Zc [119,104,97,116])))
def TV (x0:K6) (x1:ByteArray):Option (K6×ByteArray):=
 (Wy x1 32).bind λr1=>
 if decide ((r1.length:Int)=1)=true then (
  (Yab x0 x1).bind λr2=>
  some (r2.1,r2.2))
 else (
  (idx r1 0).bind λa1=>
  if (a1.toList == (Zc [99,111,110,102]).toList)=true then (
   (Hs x1 5 (x1.size:Int)).bind λs0=>
   (Ly s0).bind λr3=>
   if (!r3.2)=true then (
    some (x0,(Zc [110,111])))
   else (
    some ((K6.mk r3.1 Zb.z0 Za.z0 false),(Zc [111,107]))))
  else (
   if (a1.toList == (Zc [119,97,105,116,115]).toList)=true then (
    aS x0 x1 r1 (a1.toList == (Zc [119,97,105,116,115]).toList))
   else (
    if (a1.toList == (Zc [115,97,121,115]).toList)=true then (
     aS x0 x1 r1 (a1.toList == (Zc [115,97,121,115]).toList))
    else (
     aS x0 x1 r1 (a1.toList == (Zc [112,111,115,116]).toList)))))
def Zz7 (x0:ByteArray)  (k:K6->(List ByteArray)->ByteArray->Int->Option ByteArray) (Ae:K6) (v0:List ByteArray) (v1:ByteArray) (v2:Int):Option ByteArray:=
 if decide (v2 < (v0.length:Int))=true then (
  (idx v0 v2).bind λa0=>
  if (a0.toList == ByteArray.empty.toList)=true then (
   k Ae v0 v1 (Zn v2 1))
  else (
   (TV Ae a0).bind λr0=>
   (Z6 v1 r0.2).bind λn0=>
   (Z6 (v1++r0.2) (Zc [10])).bind λn1=>
   k r0.1 v0 ((v1++r0.2)++(Zc [10])) (Zn v2 1)))
 else (
  some v1)
def nO (x0:ByteArray)  : Nat->K6->(List ByteArray)->ByteArray->Int->Option ByteArray
 | 0,_,_,_,_=>none
 | m+1,Ae,v0,v1,v2=>Zz7 x0  (nO x0  m) Ae v0 v1 v2
def Ycj (x0:ByteArray)  (v0:List ByteArray) (v3:Bool):Option ByteArray:=
 if v3=true then (
  some ByteArray.empty)
 else (
  nO x0 FU K6.z0 v0 ByteArray.empty 0)
def TW (x0:ByteArray)  (v0:List ByteArray):Option ByteArray:=
 if decide ((x0.size:Int) > 3000)=true then (
  Ycj x0 v0 true)
 else (
  Ycj x0 v0 (decide ((v0.length:Int) > 60)))
def Ys5 (x0:ByteArray):Option ByteArray:=
 (Wy x0 10).bind λr1=>
 (idx r1 (Xf (r1.length:Int) 1)).bind λa1=>
 if (a1.toList == ByteArray.empty.toList)=true then (
  (Yt r1 0 (Xf (r1.length:Int) 1)).bind λs0=>
  TW x0 s0)
 else (
  TW x0 r1)
def Ky (x0:ByteArray) (x1:ByteArray):Option (List ByteArray):=if x0.size < 4294967281/\1<=x1.size then some (Lib.splitB x1 0 (Lib.countB x0 x1) x0) else none
def R9 (x0 x1:ByteArray):Option Bool:=if x0.size < 4294967281 then some (Lib.contains x0.data.toList x1.data.toList) else none
def MP (x0 x1:ByteArray):Option (ByteArray×ByteArray×Bool):=if x0.size < 4294967281 then some (⟨(Lib.cut x0.data.toList x1.data.toList).1.toArray⟩,⟨(Lib.cut x0.data.toList x1.data.toList).2.1.toArray⟩,(Lib.cut x0.data.toList x1.data.toList).2.2) else none
def Lz (x0:ByteArray) (x1:Int):Option (Int×Bool):=if x0.size<=281474976710656 then (match Lib.atoiAll x0.data.toList with
 | .ok v=>if Lib.itoa v=x0.data.toList/\((Lib.trimPrefix x0.data.toList [45]).length:Int)<=x1 then some (v,true) else some (0,false)
 | _=>some (0,false)) else none
def O4 (x0:List ByteArray)  (k:(List Int)->Int->Option (List Int×Bool)) (v0:List Int) (v1:Int):Option (List Int×Bool):=
 if decide (v1 < (x0.length:Int))=true then (
  (idx x0 v1).bind λa0=>
  (Lz a0 18).bind λr0=>
  if (!r0.2)=true then (
   some ([],false))
  else (
   (Yz 8 v0 [r0.1]).bind λz0=>
   k z0 (Zn v1 1)))
 else (
  some (v0,true))
def O5 (x0:List ByteArray)  : Nat->(List Int)->Int->Option (List Int×Bool)
 | 0,_,_=>none
 | m+1,v0,v1=>O4 x0  (O5 x0  m) v0 v1
def L0 (x0:List ByteArray):Option (List Int×Bool):=
 O5 x0 FU [] 0
def Yn (x0:Int) (x1:Int) (x2:Int):Option Bool:=
 if decide (x1<=x0)=true then (
  some (decide (x0<=x2)))
 else (
  some false)
def Zw6 (x0:Zi)  (v0:Bool):Option Int:=
 if v0=true then (
  some 0)
 else (
  some (Qo (Zn x0.Ao 2) (Zn x0.Au 6)))
def aT (x0:Zi):Option Int:=
 (Yn x0.Ao 0 3).bind λr0=>
 if (!r0)=true then (
  Zw6 x0 true)
 else (
  (Yn x0.Au 0 3).bind λr1=>
  Zw6 x0 (!r1))
def aU (x0:Zi):Option Int:=
 (aT x0).bind λr0=>
 if decide (r0=0)=true then (
  some 0)
 else (
  (Yn x0.Am 1 40).bind λr1=>
  if (!r1)=true then (
   some 0)
  else (
   (aT x0).bind λr2=>
   some (Zn (Qo 2 r2) x0.Am)))
def Zxi (x0:Zi)  (k:Int->Int->Option Int) (v0:Int) (v1:Int):Option Int:=
 if decide (v1 < (x0.Ab.length:Int))=true then (
  (idx x0.Ab v1).bind λa0=>
  if a0.prio=true then (
   k (Zn v0 1) (Zn v1 1))
  else (
   k v0 (Zn v1 1)))
 else (
  some v0)
def nP (x0:Zi)  : Nat->Int->Int->Option Int
 | 0,_,_=>none
 | m+1,v0,v1=>Zxi x0  (nP x0  m) v0 v1
def nQ (x0:Zi):Option Int:=
 nP x0 FU 0 0
def nR (x0:Zi):Option Int:=
 (aU x0).bind λr0=>
 (nQ x0).bind λr1=>
 some (Qo (Qo 2 r0) r1)
def nS (x0:Ze) (x1:Zi):Option Bool:=
 (Yn x0.weight 1 4).bind λr0=>
 if (!r0)=true then (
  some true)
 else (
  if x0.prio=true then (
   (nR x1).bind λr1=>
   (Yn x0.every r1 1000).bind λr2=>
   if (!r2)=true then (
    some true)
   else (
    (Yn x0.cap 1 8).bind λr3=>
    some (!r3)))
  else (
   if decide (x0.every≠0)=true then (
    some true)
   else (
    some (decide (x0.cap≠0)))))
def Qw (x0:List Ze) (Bf:Zi)  (k:Int->Option Int) (v0:Int):Option Int:=
 if decide (v0 < (x0.length:Int))=true then (
  (idx x0 v0).bind λa0=>
  (nS a0 Bf).bind λr0=>
  if r0=true then (
   some v0)
  else (
   k (Zn v0 1)))
 else (
  some (-1))
def Y6 (x0:List Ze) (Bf:Zi)  : Nat->Int->Option Int
 | 0,_=>none
 | m+1,v0=>Qw x0 Bf  (Y6 x0 Bf  m) v0
def Kt (x0:List Ze) (Bf:Zi):Option Int:=
 Y6 x0 Bf FU 0
def Wo (x0:List Ze) (Bf:Zi):Option Bool:=
 (Kt x0 Bf).bind λr0=>
 some (decide (r0≥0))
def L1 (x0:Zi):Option Bool:=
 (Yn (x0.Ab.length:Int) 1 4).bind λr0=>
 if (!r0)=true then (
  some false)
 else (
  (Yn x0.Aw 1 4).bind λr1=>
  if (!r1)=true then (
   some false)
  else (
   (Yn x0.Ar 1 12).bind λr2=>
   if (!r2)=true then (
    some false)
   else (
    (aU x0).bind λr3=>
    if decide (r3=0)=true then (
     some false)
    else (
     (Wo x0.Ab x0).bind λr4=>
     some (!r4)))))
def nT (x0:Int):Option ByteArray:=if -9223372036854775808<=x0/\x0<=9223372036854775807 then some ⟨(Lib.itoa x0).toArray⟩ else none
def FO (x0:Int):Option ByteArray:=
 (nT x0).bind λr0=>
 some r0
def nU (x0:List Int)  (k:(List ByteArray)->Int->Option (List ByteArray)) (v0:List ByteArray) (v1:Int):Option (List ByteArray):=
 if decide (v1 < (x0.length:Int))=true then (
  (idx x0 v1).bind λa0=>
  (FO a0).bind λr0=>
  (Yz 16 v0 [r0]).bind λz0=>
  k z0 (Zn v1 1))
 else (
  some v0)
def nV (x0:List Int)  : Nat->(List ByteArray)->Int->Option (List ByteArray)
 | 0,_,_=>none
 | m+1,v0,v1=>nU x0  (nV x0  m) v0 v1
def L2 (x0:List Int):Option (List ByteArray):=
 nV x0 FU [] 0
def Qn (x0:List ByteArray) (x1:ByteArray):Option ByteArray:=if x0.length<=140737488355328/\(Lib.join (x0.map (·.data.toList)) x1.data.toList).length<=140737488355328 then some ⟨(Lib.join (x0.map (·.data.toList)) x1.data.toList).toArray⟩ else none
def nX (x0:Zi)  (k:(List ByteArray)->Int->Option ByteArray) (v0:List ByteArray) (v1:Int):Option ByteArray:=
 if decide (v1 < (x0.Ab.length:Int))=true then (
  (idx x0.Ab v1).bind λa0=>
  (FO a0.weight).bind λr0=>
  if a0.prio=true then (
   (L2 [a0.weight,a0.every,a0.cap]).bind λr1=>
   (Qn r1 (Zc [58])).bind λr2=>
   (Yz 16 v0 [r2]).bind λz0=>
   k z0 (Zn v1 1))
  else (
   (Yz 16 v0 [r0]).bind λz0=>
   k z0 (Zn v1 1)))
 else (
  (Qn v0 (Zc [32])).bind λr3=>
  some r3)
def nY (x0:Zi)  : Nat->(List ByteArray)->Int->Option ByteArray
 | 0,_,_=>none
 | m+1,v0,v1=>nX x0  (nY x0  m) v0 v1
def RA (x0:Zi):Option ByteArray:=
 (L1 x0).bind λr4=>
 if (!r4)=true then (
  some ByteArray.empty)
 else (
  (L2 [x0.Aw,x0.Au,x0.Ao,x0.Ar,x0.Am]).bind λr5=>
  nY x0 FU r5 0)
def RB (x0:ByteArray) (AN:Zi->(List ByteArray)->Int->Int->Option (Zi×Bool)) (Ae:Zi) (v0:List Int) (v1:List ByteArray) (v2:Int) (v3:Int) (v4:Bool):Option (Zi×Bool):=
 if v4=true then (
  (idx v0 0).bind λa0=>
  (idx v0 1).bind λa1=>
  (idx v0 2).bind λa2=>
  (Yz 32 Ae.Ab [(Ze.mk a0 true a1 a2)]).bind λz0=>
  AN {Ae with Ab:=z0} v1 v2 (Zn v3 1))
 else (
  some (Zi.z0,false))
def RC (x0:ByteArray) (AN:Zi->(List ByteArray)->Int->Int->Option (Zi×Bool)) (Ae:Zi) (v0:List Int) (v5:Bool) (v1:List ByteArray) (v2:Int) (v3:Int) (v6:Bool):Option (Zi×Bool):=
 if v6=true then (
  (idx v0 0).bind λa3=>
  (Yz 32 Ae.Ab [(Ze.mk a3 false 0 0)]).bind λz1=>
  AN {Ae with Ab:=z1} v1 v2 (Zn v3 1))
 else (
  if v5=true then (
   RB x0 AN Ae v0 v1 v2 v3 (decide ((v0.length:Int)=3)))
  else (
   RB x0 AN Ae v0 v1 v2 v3 false))
def Kp (x0:ByteArray)  (k:Zi->(List ByteArray)->Int->Int->Option (Zi×Bool)) (Ae:Zi) (v1:List ByteArray) (v2:Int) (v3:Int):Option (Zi×Bool):=
 if decide (v3 < v2)=true then (
  (idx v1 v3).bind λa4=>
  (Ky a4 (Zc [58])).bind λr0=>
  (L0 r0).bind λr1=>
  if r1.2=true then (
   RC x0 k Ae r1.1 r1.2 v1 v2 v3 (decide ((r1.1.length:Int)=1)))
  else (
   RC x0 k Ae r1.1 r1.2 v1 v2 v3 false))
 else (
  (L1 Ae).bind λr2=>
  if (!r2)=true then (
   some (Zi.z0,false))
  else (
   (RA Ae).bind λr3=>
   if (!(r3.toList == x0.toList))=true then (
    some (Zi.z0,false))
   else (
    some (Ae,true))))
def Qt (x0:ByteArray)  : Nat->Zi->(List ByteArray)->Int->Int->Option (Zi×Bool)
 | 0,_,_,_,_=>none
 | m+1,Ae,v1,v2,v3=>Kp x0  (Qt x0  m) Ae v1 v2 v3
def TX (x0:ByteArray)  (v7:List ByteArray) (v8:Bool):Option (Zi×Bool):=
 if v8=true then (
  some (Zi.z0,false))
 else (
  (Yt v7 0 5).bind λs0=>
  (L0 s0).bind λr4=>
  if (!r4.2)=true then (
   some (Zi.z0,false))
  else (
   (idx r4.1 0).bind λa5=>
   (idx r4.1 1).bind λa6=>
   (idx r4.1 2).bind λa7=>
   (idx r4.1 3).bind λa8=>
   (idx r4.1 4).bind λa9=>
   (Yt v7 5 (v7.length:Int)).bind λs1=>
   Qt x0 FU (Zi.mk [] a5 a6 a7 a8 a9) s1 (s1.length:Int) 0))
def L3 (x0:ByteArray):Option (Zi×Bool):=
 (Ky x0 (Zc [32])).bind λr5=>
 if decide ((r5.length:Int) < 6)=true then (
  TX x0 r5 true)
 else (
  TX x0 r5 (decide ((r5.length:Int) > 9)))
def K9 (x0:ByteArray) (x1:ByteArray):Option ByteArray:=if x0.size<=9223372036854775807 then some ⟨(Lib.trimSuffix x0.data.toList x1.data.toList).toArray⟩ else none
def TY  : Option (List ByteArray):=
 some [(Zc [98,121,116,101]),(Zc [104,97,108,102]),(Zc [119,111,114,100])]
def Wk (x0:List ByteArray) (x1:ByteArray)  (k:Int->Option Int) (v0:Int):Option Int:=
 if decide (v0 < (x0.length:Int))=true then (
  (idx x0 v0).bind λa0=>
  if (x1.toList == a0.toList)=true then (
   some v0)
  else (
   k (Zn v0 1)))
 else (
  some (-1))
def Ws (x0:List ByteArray) (x1:ByteArray)  : Nat->Int->Option Int
 | 0,_=>none
 | m+1,v0=>Wk x0 x1  (Ws x0 x1  m) v0
def X3 (x0:List ByteArray) (x1:ByteArray):Option Int:=
 Ws x0 x1 FU 0
def TZ  : Option (List ByteArray):=
 some [(Zc [111,110,101]),(Zc [102,111,117,114]),(Zc [119,114,97,112]),(Zc [101,105,103,104,116])]
def RD (x0:Int):Option Int:=
 (Yn x0 0 3).bind λr0=>
 if (!r0)=true then (
  some 0)
 else (
  (idx [1,4,4,8] x0).bind λa0=>
  some a0)
def JG (x0:Int):Option Int:=
 (Yn x0 0 2).bind λr0=>
 if (!r0)=true then (
  some 0)
 else (
  (Lq x0).bind λn0=>
  some (Rl 1 x0))
def RE (x0:Int) (x1:Int):Option Bool:=
 (Yn x1 0 2).bind λr0=>
 if r0=true then (
  if decide (x0≥0)=true then (
   (JG x1).bind λr1=>
   (GJ r1).bind λn0=>
   some (decide ((K0 x0 r1)=0)))
  else (
   some false))
 else (
  some false)
def aV (x0:Int) (x1:Int) (x2:Int)  (v0:Bool):Option Int:=
 if v0=true then (
  some (-1))
 else (
  (JG x1).bind λr0=>
  (JG x1).bind λr1=>
  if decide (x2=2)=true then (
   (GJ (Qo 4 r1)).bind λn0=>
   if decide ((K0 (Zn x0 r0) (Qo 4 r1))=0)=true then (
    some (Xf (Zn x0 r0) (Qo 4 r1)))
   else (
    some (Zn x0 r0)))
  else (
   some (Zn x0 r0)))
def nZ (x0:Int) (x1:Int) (x2:Int):Option Int:=
 (RE x0 x1).bind λr2=>
 if (!r2)=true then (
  aV x0 x1 x2 true)
 else (
  if decide (x0≥512)=true then (
   aV x0 x1 x2 true)
  else (
   (RD x2).bind λr3=>
   aV x0 x1 x2 (decide (r3=0))))
def aW (x0:Int) (x1:Int) (x2:Int)  (k:Int->(List Int)->Int->Int->Option (List Int)) (v0:Int) (v1:List Int) (v2:Int) (v3:Int):Option (List Int):=
 if decide (v3 < v2)=true then (
  (nZ v0 x1 x2).bind λr0=>
  if decide (r0 < 0)=true then (
   some [])
  else (
   (Yz 8 v1 [v0]).bind λz0=>
   k r0 z0 v2 (Zn v3 1)))
 else (
  some v1)
def oA (x0:Int) (x1:Int) (x2:Int)  : Nat->Int->(List Int)->Int->Int->Option (List Int)
 | 0,_,_,_,_=>none
 | m+1,v0,v1,v2,v3=>aW x0 x1 x2  (oA x0 x1 x2  m) v0 v1 v2 v3
def aX (x0:Int) (x1:Int) (x2:Int):Option (List Int):=
 (RD x2).bind λr1=>
 oA x0 x1 x2 FU x0 [] r1 0
def Zt2 (x0:Int) (x1:Int) (x2:Int)  (k:(List Int)->Int->Int->Option Bool) (v0:List Int) (v1:Int) (v2:Int):Option Bool:=
 if decide (v2 < v1)=true then (
  (idx v0 v2).bind λa0=>
  (idx v0 0).bind λa1=>
  if decide ((Fw a0 64)≠(Fw a1 64))=true then (
   some false)
  else (
   k v0 v1 (Zn v2 1)))
 else (
  some (decide ((v0.length:Int) > 0)))
def oC (x0:Int) (x1:Int) (x2:Int)  : Nat->(List Int)->Int->Int->Option Bool
 | 0,_,_,_=>none
 | m+1,v0,v1,v2=>Zt2 x0 x1 x2  (oC x0 x1 x2  m) v0 v1 v2
def oD (x0:Int) (x1:Int) (x2:Int):Option Bool:=
 (aX x0 x1 x2).bind λr0=>
 oC x0 x1 x2 FU r0 (r0.length:Int) 0
def aY (x0:Int):Option Int:=
 (JG x0).bind λr0=>
 if decide (r0=0)=true then (
  some 0)
 else (
  (JG x0).bind λr1=>
  (Lq (Qo 8 r1)).bind λn0=>
  some (Rl 1 (Qo 8 r1)))
def L4 (x0:Int) (x1:Int):Option Bool:=
 (aY x1).bind λr0=>
 (Yn x0 0 (Xf r0 1)).bind λr1=>
 some r1
def oF (x0:Int) (x1:Zj):Option Bool:=
 (L4 x0 x1.size).bind λr0=>
 some (!r0)
def Zk9 (x0:List Int) (Bf:Zj)  (k:Int->Option Int) (v0:Int):Option Int:=
 if decide (v0 < (x0.length:Int))=true then (
  (idx x0 v0).bind λa0=>
  (oF a0 Bf).bind λr0=>
  if r0=true then (
   some v0)
  else (
   k (Zn v0 1)))
 else (
  some (-1))
def K2 (x0:List Int) (Bf:Zj)  : Nat->Int->Option Int
 | 0,_=>none
 | m+1,v0=>Zk9 x0 Bf  (K2 x0 Bf  m) v0
def J6 (x0:List Int) (Bf:Zj):Option Int:=
 K2 x0 Bf FU 0
def Qd (x0:List Int) (Bf:Zj):Option Bool:=
 (J6 x0 Bf).bind λr0=>
 some (decide (r0≥0))
def oG (x0:Zj)  (v0:Int):Option Bool:=
 (oD x0.addr x0.size x0.Ay).bind λr0=>
 if r0=true then (
  if decide ((x0.Aa.length:Int)=v0)=true then (
   (Qd x0.Aa x0).bind λr1=>
   some (!r1))
  else (
   some false))
 else (
  some false)
def O6 (x0:Zj):Option Bool:=
 if x0.write=true then (
  (RD x0.Ay).bind λr2=>
  oG x0 r2)
 else (
  oG x0 0)
def RG (x0:Bool):Option ByteArray:=
 if x0=true then (
  some (Zc [119,114,105,116,101]))
 else (
  some (Zc [114,101,97,100]))
def Ua (x0:Zj):Option ByteArray:=
 (O6 x0).bind λr0=>
 if (!r0)=true then (
  some ByteArray.empty)
 else (
  (RG x0.write).bind λr1=>
  (TY).bind λr2=>
  (idx r2 x0.size).bind λa0=>
  (TZ).bind λr3=>
  (idx r3 x0.Ay).bind λa1=>
  (FO x0.addr).bind λr4=>
  if x0.lock=true then (
   (Yz 16 [r1,a0,a1,r4] [(Zc [108,111,99,107])]).bind λz0=>
   (L2 x0.Aa).bind λr5=>
   (Yz 16 z0 r5).bind λz1=>
   (Qn z1 (Zc [32])).bind λr6=>
   some r6)
  else (
   (L2 x0.Aa).bind λr5=>
   (Yz 16 [r1,a0,a1,r4] r5).bind λz1=>
   (Qn z1 (Zc [32])).bind λr6=>
   some r6))
def RH (x0:ByteArray)  (Ae:Zj) (v0:List ByteArray) (v1:List ByteArray):Option (Zj×Bool):=
 (idx v0 3).bind λa0=>
 (Lz a0 18).bind λr0=>
 (L0 v1).bind λr1=>
 if (!r0.2)=true then (
  some (Zj.z0,false))
 else (
  if (!r1.2)=true then (
   some (Zj.z0,false))
  else (
   (O6 {Ae with addr:=r0.1,Aa:=r1.1}).bind λr2=>
   if (!r2)=true then (
    some (Zj.z0,false))
   else (
    (Ua {Ae with addr:=r0.1,Aa:=r1.1}).bind λr3=>
    if (!(r3.toList == x0.toList))=true then (
     some (Zj.z0,false))
    else (
     some ({Ae with addr:=r0.1,Aa:=r1.1},true)))))
def O7 (x0:ByteArray)  (Ae:Zj) (v0:List ByteArray) (v1:List ByteArray) (v2:Bool):Option (Zj×Bool):=
 if v2=true then (
  (Yt v1 1 (v1.length:Int)).bind λs0=>
  RH x0 {Ae with lock:=true} v0 s0)
 else (
  RH x0 Ae v0 v1)
def Ub (x0:ByteArray):Option (Zj×Bool):=
 (Ky x0 (Zc [32])).bind λr4=>
 if decide ((r4.length:Int) < 4)=true then (
  some (Zj.z0,false))
 else (
  (idx r4 0).bind λa1=>
  (TY).bind λr5=>
  (idx r4 1).bind λa2=>
  (X3 r5 a2).bind λr6=>
  (TZ).bind λr7=>
  (idx r4 2).bind λa3=>
  (X3 r7 a3).bind λr8=>
  (Yt r4 4 (r4.length:Int)).bind λs1=>
  if decide ((s1.length:Int) > 0)=true then (
   (idx s1 0).bind λa4=>
   O7 x0 (Zj.mk (a1.toList == (Zc [119,114,105,116,101]).toList) 0 r6 r8 false []) r4 s1 (a4.toList == (Zc [108,111,99,107]).toList))
  else (
   O7 x0 (Zj.mk (a1.toList == (Zc [119,114,105,116,101]).toList) 0 r6 r8 false []) r4 s1 false))
def aZ (x0:ByteArray) (x1:List Int):Option ByteArray:=
 if decide ((x1.length:Int)=0)=true then (
  some ByteArray.empty)
 else (
  (Z6 x0 (Zc [32])).bind λn0=>
  (L2 x1).bind λr0=>
  (Qn r0 (Zc [32])).bind λr1=>
  (Z6 (x0++(Zc [32])) r1).bind λn1=>
  (Z6 ((x0++(Zc [32]))++r1) (Zc [10])).bind λn2=>
  some (((x0++(Zc [32]))++r1)++(Zc [10])))
def Zn2 (x0:Zb)  (k:ByteArray->Int->Option ByteArray) (v0:ByteArray) (v1:Int):Option ByteArray:=
 if decide (v1 < (x0.Al.length:Int))=true then (
  (idx x0.Al v1).bind λa0=>
  (Ua a0.Bm).bind λr0=>
  if (r0.toList == ByteArray.empty.toList)=true then (
   some ByteArray.empty)
  else (
   (FO a0.at_).bind λr1=>
   (Z6 (Zc [112,111,115,116,32]) r1).bind λn0=>
   (Z6 ((Zc [112,111,115,116,32])++r1) (Zc [32])).bind λn1=>
   (FO a0.Ah).bind λr2=>
   (Z6 (((Zc [112,111,115,116,32])++r1)++(Zc [32])) r2).bind λn2=>
   (Z6 ((((Zc [112,111,115,116,32])++r1)++(Zc [32]))++r2) (Zc [32])).bind λn3=>
   (Z6 (((((Zc [112,111,115,116,32])++r1)++(Zc [32]))++r2)++(Zc [32])) r0).bind λn4=>
   (Z6 ((((((Zc [112,111,115,116,32])++r1)++(Zc [32]))++r2)++(Zc [32]))++r0) (Zc [10])).bind λn5=>
   (Z6 v0 (((((((Zc [112,111,115,116,32])++r1)++(Zc [32]))++r2)++(Zc [32]))++r0)++(Zc [10]))).bind λn6=>
   k (v0++(((((((Zc [112,111,115,116,32])++r1)++(Zc [32]))++r2)++(Zc [32]))++r0)++(Zc [10]))) (Zn v1 1)))
 else (
  some v0)
def bA (x0:Zb)  : Nat->ByteArray->Int->Option ByteArray
 | 0,_,_=>none
 | m+1,v0,v1=>Zn2 x0  (bA x0  m) v0 v1
def oH (x0:Zb):Option ByteArray:=
 (aZ (Zc [119,97,105,116,115]) x0.waits).bind λr3=>
 (aZ (Zc [115,97,121,115]) x0.A4).bind λr4=>
 (Z6 r3 r4).bind λn7=>
 bA x0 FU (r3++r4) 0
def bB (x0:ByteArray) (AN:Zb->(List ByteArray)->Int->Int->Option (Zb×Bool)) (Ae:Zb) (A1:Zj) (v0:List Int) (v1:List ByteArray) (v2:Int) (v3:Int) (v4:Bool):Option (Zb×Bool):=
 if v4=true then (
  some (Zb.z0,false))
 else (
  (idx v0 0).bind λa0=>
  (idx v0 1).bind λa1=>
  (Yz 80 Ae.Al [(Zo.mk a0 a1 A1)]).bind λz0=>
  AN {Ae with Al:=z0} v1 v2 (Zn v3 1))
def RI (x0:ByteArray) (AN:Zb->(List ByteArray)->Int->Int->Option (Zb×Bool)) (Ae:Zb) (v5:List ByteArray) (v1:List ByteArray) (v2:Int) (v3:Int) (v6:Bool):Option (Zb×Bool):=
 if v6=true then (
  (Yt v5 1 (v5.length:Int)).bind λs0=>
  (L0 s0).bind λr0=>
  if (!r0.2)=true then (
   some (Zb.z0,false))
  else (
   (idx v5 0).bind λa2=>
   if (a2.toList == (Zc [119,97,105,116,115]).toList)=true then (
    AN {Ae with waits:=r0.1} v1 v2 (Zn v3 1))
   else (
    AN {Ae with A4:=r0.1} v1 v2 (Zn v3 1))))
 else (
  AN Ae v1 v2 (Zn v3 1))
def Kc (x0:ByteArray) (AN:Zb->(List ByteArray)->Int->Int->Option (Zb×Bool)) (Ae:Zb) (v5:List ByteArray) (v1:List ByteArray) (v2:Int) (v3:Int) (v7:Bool):Option (Zb×Bool):=
 if v7=true then (
  (Yt v5 1 3).bind λs1=>
  (L0 s1).bind λr1=>
  (Yt v5 3 (v5.length:Int)).bind λs2=>
  (Qn s2 (Zc [32])).bind λr2=>
  (Ub r2).bind λr3=>
  if (!r1.2)=true then (
   bB x0 AN Ae r3.1 r1.1 v1 v2 v3 true)
  else (
   bB x0 AN Ae r3.1 r1.1 v1 v2 v3 (!r3.2)))
 else (
  (idx v5 0).bind λa3=>
  if (a3.toList == (Zc [119,97,105,116,115]).toList)=true then (
   RI x0 AN Ae v5 v1 v2 v3 true)
  else (
   RI x0 AN Ae v5 v1 v2 v3 (a3.toList == (Zc [115,97,121,115]).toList)))
def Jz (x0:ByteArray)  (k:Zb->(List ByteArray)->Int->Int->Option (Zb×Bool)) (Ae:Zb) (v1:List ByteArray) (v2:Int) (v3:Int):Option (Zb×Bool):=
 if decide (v3 < v2)=true then (
  (idx v1 v3).bind λa4=>
  (Ky a4 (Zc [32])).bind λr4=>
  (idx r4 0).bind λa5=>
  if (a5.toList == (Zc [112,111,115,116]).toList)=true then (
   Kc x0 k Ae r4 v1 v2 v3 (decide ((r4.length:Int) > 3)))
  else (
   Kc x0 k Ae r4 v1 v2 v3 false))
 else (
  (oH Ae).bind λr5=>
  if (!(r5.toList == x0.toList))=true then (
   some (Zb.z0,false))
  else (
   some (Ae,true)))
def Q6 (x0:ByteArray)  : Nat->Zb->(List ByteArray)->Int->Int->Option (Zb×Bool)
 | 0,_,_,_,_=>none
 | m+1,Ae,v1,v2,v3=>Jz x0  (Q6 x0  m) Ae v1 v2 v3
def MQ (x0:ByteArray):Option (Zb×Bool):=
 (K9 x0 (Zc [10])).bind λr6=>
 (Ky r6 (Zc [10])).bind λr7=>
 Q6 x0 FU Zb.z0 r7 (r7.length:Int) 0
def oI (As:Zi) (Aq:Zb) (x1:ByteArray)  (v0:ByteArray) (v1:Bool):Option (ByteArray×Z1):=
 if v1=true then (
  (Z6 x1 (Zc [10])).bind λn0=>
  (MQ (x1++(Zc [10]))).bind λr0=>
  if (!r0.2)=true then (
   some ((Zc [110,111]),(Z1.mk As Aq none)))
  else (
   if (v0.toList == (Zc [119,97,105,116,115]).toList)=true then (
    some ((Zc [111,107]),(Z1.mk As {Aq with waits:=r0.1.waits} none)))
   else (
    if (v0.toList == (Zc [115,97,121,115]).toList)=true then (
     some ((Zc [111,107]),(Z1.mk As {Aq with A4:=r0.1.A4} none)))
    else (
     (Yz 80 Aq.Al r0.1.Al).bind λz0=>
     some ((Zc [111,107]),(Z1.mk As {Aq with Al:=z0} none))))))
 else (
  some ((Zc [119,104,97,116]),(Z1.mk As Aq none)))
def oJ (As:Zi) (Aq:Zb) (x1:ByteArray):Option (ByteArray×Z1):=
 (MP x1 (Zc [32])).bind λr1=>
 if (r1.1.toList == (Zc [99,111,110,102]).toList)=true then (
  (L3 r1.2.1).bind λr2=>
  if (!r2.2)=true then (
   some ((Zc [110,111]),(Z1.mk As Aq none)))
  else (
   some ((Zc [111,107]),(Z1.mk r2.1 Zb.z0 none))))
 else (
  if (r1.1.toList == (Zc [119,97,105,116,115]).toList)=true then (
   oI As Aq x1 r1.1 (r1.1.toList == (Zc [119,97,105,116,115]).toList))
  else (
   if (r1.1.toList == (Zc [115,97,121,115]).toList)=true then (
    oI As Aq x1 r1.1 (r1.1.toList == (Zc [115,97,121,115]).toList))
   else (
    oI As Aq x1 r1.1 (r1.1.toList == (Zc [112,111,115,116]).toList))))
def oK (x0:List Ze):Option (List Ze):=Yz 32 [] x0
def bC (x0:Zi):Option Zi:=
 (oK x0.Ab).bind λr0=>
 some {x0 with Ab:=r0}
def Yjl  : Option Zl:=
 (Hr 8 4 0).bind λm0=>
 some (Zl.mk m0 0 [])
def bD  : Option Zf:=
 (Hr 8 192 0).bind λm0=>
 (Yjl).bind λr0=>
 some (Zf.mk m0 r0)
def oL (x0:Ze):Option Zk:=
 if (!x0.prio)=true then (
  some Zk.z0)
 else (
  some (Zk.mk (E7 x0.cap 0) 0))
def oM (x0:Zi)  (k:Za->Int->Option (Za×Bool)) (Ae:Za) (v0:Int):Option (Za×Bool):=
 if decide (v0 < (x0.Ab.length:Int))=true then (
  (idx x0.Ab v0).bind λa0=>
  (Yz 56 Ae.m [Zg.z0]).bind λz0=>
  (oL a0).bind λr0=>
  (Yz 16 Ae.buckets [r0]).bind λz1=>
  (Yz 8 Ae.splits [0]).bind λz2=>
  k {Ae with m:=z0,buckets:=z1,splits:=z2} (Zn v0 1))
 else (
  some (Ae,true))
def oN (x0:Zi)  : Nat->Za->Int->Option (Za×Bool)
 | 0,_,_=>none
 | m+1,Ae,v0=>oM x0  (oN x0  m) Ae v0
def bE (x0:Zi):Option (Za×Bool):=
 (L1 x0).bind λr1=>
 if (!r1)=true then (
  some (Za.z0,false))
 else (
  (bC x0).bind λr2=>
  (bD).bind λr3=>
  oN x0 FU (Za.mk r2 0 [] Ya.z0 [] [] (-1) 0 (-1) Zh.z0 Zh.z0 r3 0 []) 0)
def RJ (As:Zi) (Aq:Zb) (x1:ByteArray)  (v0:Bool):Option (ByteArray×Z1):=
 if v0=true then (
  some ((Zc [110,111,110,101]),(Z1.mk As Aq none)))
 else (
  some ((Zc [119,104,97,116]),(Z1.mk As Aq none)))
def bF (As:Zi) (Aq:Zb) (x1:ByteArray):Option (ByteArray×Z1):=
 if (x1.toList == (Zc [110,101,119]).toList)=true then (
  (bE As).bind λr0=>
  if (!r0.2)=true then (
   some ((Zc [110,111]),(Z1.mk As Aq none)))
  else (
   some ((Zc [111,107]),(Z1.mk As Aq (some r0.1)))))
 else (
  if (x1.toList == (Zc [99,111,110,102]).toList)=true then (
   (RA As).bind λr1=>
   if (!(r1.toList == ByteArray.empty.toList))=true then (
    some (r1,(Z1.mk As Aq none)))
   else (
    some ((Zc [110,111,110,101]),(Z1.mk As Aq none))))
  else (
   if (x1.toList == (Zc [115,116,101,112]).toList)=true then (
    RJ As Aq x1 (x1.toList == (Zc [115,116,101,112]).toList))
   else (
    if (x1.toList == (Zc [111,117,116]).toList)=true then (
     RJ As Aq x1 (x1.toList == (Zc [111,117,116]).toList))
    else (
     if (x1.toList == (Zc [105,100,108,101]).toList)=true then (
      RJ As Aq x1 (x1.toList == (Zc [105,100,108,101]).toList))
     else (
      if (x1.toList == (Zc [111,107]).toList)=true then (
       RJ As Aq x1 (x1.toList == (Zc [111,107]).toList))
      else (
       RJ As Aq x1 (x1.toList == (Zc [108,111,103]).toList)))))))
def oO (As:Zi) (Aq:Zb) (AF:Za) (x1:ByteArray)  (v0:ByteArray) (v1:Bool):Option (ByteArray×Z1):=
 if v1=true then (
  (Z6 x1 (Zc [10])).bind λn0=>
  (MQ (x1++(Zc [10]))).bind λr0=>
  if (!r0.2)=true then (
   some ((Zc [110,111]),(Z1.mk As Aq (some AF))))
  else (
   if (v0.toList == (Zc [119,97,105,116,115]).toList)=true then (
    some ((Zc [111,107]),(Z1.mk As {Aq with waits:=r0.1.waits} (some AF))))
   else (
    if (v0.toList == (Zc [115,97,121,115]).toList)=true then (
     some ((Zc [111,107]),(Z1.mk As {Aq with A4:=r0.1.A4} (some AF))))
    else (
     (Yz 80 Aq.Al r0.1.Al).bind λz0=>
     some ((Zc [111,107]),(Z1.mk As {Aq with Al:=z0} (some AF)))))))
 else (
  some ((Zc [119,104,97,116]),(Z1.mk As Aq (some AF))))
def oP (As:Zi) (Aq:Zb) (AF:Za) (x1:ByteArray):Option (ByteArray×Z1):=
 (MP x1 (Zc [32])).bind λr1=>
 if (r1.1.toList == (Zc [99,111,110,102]).toList)=true then (
  (L3 r1.2.1).bind λr2=>
  if (!r2.2)=true then (
   some ((Zc [110,111]),(Z1.mk As Aq (some AF))))
  else (
   some ((Zc [111,107]),(Z1.mk r2.1 Zb.z0 none))))
 else (
  if (r1.1.toList == (Zc [119,97,105,116,115]).toList)=true then (
   oO As Aq AF x1 r1.1 (r1.1.toList == (Zc [119,97,105,116,115]).toList))
  else (
   if (r1.1.toList == (Zc [115,97,121,115]).toList)=true then (
    oO As Aq AF x1 r1.1 (r1.1.toList == (Zc [115,97,121,115]).toList))
   else (
    oO As Aq AF x1 r1.1 (r1.1.toList == (Zc [112,111,115,116]).toList))))
def oQ (x0:Zj):Option Bool:=
 (O6 x0).bind λr0=>
 some (!r0)
def Zgp (x0:List Zj)  (k:Int->Option Int) (v0:Int):Option Int:=
 if decide (v0 < (x0.length:Int))=true then (
  (idx x0 v0).bind λa0=>
  (oQ a0).bind λr0=>
  if r0=true then (
   some v0)
  else (
   k (Zn v0 1)))
 else (
  some (-1))
def Qs (x0:List Zj)  : Nat->Int->Option Int
 | 0,_=>none
 | m+1,v0=>Zgp x0  (Qs x0  m) v0
def Kg (x0:List Zj):Option Int:=
 Qs x0 FU 0
def Wh (x0:List Zj):Option Bool:=
 (Kg x0).bind λr0=>
 some (decide (r0≥0))
def O8 (x0:Zg):Option Int:=
 if decide ((x0.queue.length:Int)=0)=true then (
  some 0)
 else (
  (idx x0.queue 0).bind λa0=>
  (RD a0.Ay).bind λr0=>
  some r0)
def Qh (x0:Zg)  (v0:Bool):Option Bool:=
 if v0=true then (
  some false)
 else (
  if decide ((x0.queue.length:Int)=0)=true then (
   if decide (x0.An=0)=true then (
    if decide (x0.done=0)=true then (
     if decide (x0.tries=0)=true then (
      if (!x0.Ax)=true then (
       some (!x0.broken))
      else (
       some false))
     else (
      some false))
    else (
     some false))
   else (
    some false))
  else (
   (O8 x0).bind λr0=>
   (Yn x0.done 0 (Xf r0 1)).bind λr1=>
   if r1=true then (
    (O8 x0).bind λr2=>
    (Yn x0.An x0.done (D2 (Zn x0.done 2) r2)).bind λr3=>
    some r3)
   else (
    some false)))
def Jd (x0:Zg):Option Bool:=
 if decide ((x0.queue.length:Int) > 4)=true then (
  Qh x0 true)
 else (
  if decide (x0.tries < 0)=true then (
   Qh x0 true)
  else (
   (Wh x0.queue).bind λr4=>
   Qh x0 r4))
def oR (x0:Zg) (x1:Int)  (v0:Bool):Option Int:=
 if v0=true then (
  some (-1))
 else (
  (idx x0.queue 0).bind λa0=>
  (aX a0.addr a0.size a0.Ay).bind λr0=>
  (idx r0 x1).bind λa1=>
  some a1)
def O9 (x0:Zg) (x1:Int):Option Int:=
 (Jd x0).bind λr1=>
 if (!r1)=true then (
  oR x0 x1 true)
 else (
  (O8 x0).bind λr2=>
  (Yn x1 0 (Xf r2 1)).bind λr3=>
  oR x0 x1 (!r3))
def Xi (x0:List Int):Option (List Int):=Yz 8 [] x0
def RL (x0:Zj):Option Zj:=
 (Xi x0.Aa).bind λr0=>
 some {x0 with Aa:=r0}
def oS (x0:Zb) (x1:Int)  (k:(List Zo)->Int->Option (List Zo)) (v0:List Zo) (v1:Int):Option (List Zo):=
 if decide (v1 < (x0.Al.length:Int))=true then (
  (idx x0.Al v1).bind λa0=>
  if decide (a0.at_=x1)=true then (
   (RL a0.Bm).bind λr0=>
   (Yz 80 v0 [{a0 with Bm:=r0}]).bind λz0=>
   k z0 (Zn v1 1))
  else (
   k v0 (Zn v1 1)))
 else (
  some v0)
def oT (x0:Zb) (x1:Int)  : Nat->(List Zo)->Int->Option (List Zo)
 | 0,_,_=>none
 | m+1,v0,v1=>oS x0 x1  (oT x0 x1  m) v0 v1
def oU (x0:Zb) (x1:Int):Option (List Zo):=
 oT x0 x1 FU [] 0
def JH (x0:Zi) (x1:Int):Option Bool:=
 (Yn x1 0 (Xf (x0.Ab.length:Int) 1)).bind λr0=>
 some r0
def Yjq (x0:Zg)  (k:(List Zj)->Int->Option Zg) (v0:List Zj) (v1:Int):Option Zg:=
 if decide (v1 < (x0.queue.length:Int))=true then (
  (idx x0.queue v1).bind λa0=>
  (RL a0).bind λr0=>
  (Yz 64 v0 [r0]).bind λz0=>
  k z0 (Zn v1 1))
 else (
  some {x0 with queue:=v0})
def oW (x0:Zg)  : Nat->(List Zj)->Int->Option Zg
 | 0,_,_=>none
 | m+1,v0,v1=>Yjq x0  (oW x0  m) v0 v1
def OA (x0:Zg):Option Zg:=
 oW x0 FU [] 0
def bG (x0:Zg) (x1:Zj)  (Ae:Zg) (v0:Bool):Option (Zg×Bool):=
 if v0=true then (
  some (Ae,false))
 else (
  (RL x1).bind λr0=>
  (Yz 64 Ae.queue [r0]).bind λz0=>
  some ({Ae with queue:=z0},true))
def oX (x0:Zg) (x1:Zj):Option (Zg×Bool):=
 (OA x0).bind λr1=>
 (Jd x0).bind λr2=>
 if (!r2)=true then (
  bG x0 x1 r1 true)
 else (
  (O6 x1).bind λr3=>
  if (!r3)=true then (
   bG x0 x1 r1 true)
  else (
   bG x0 x1 r1 (decide ((x0.queue.length:Int)=4))))
def bH (x0:Zk) (x1:Ze):Option Bool:=
 if (!x1.prio)=true then (
  some (decide (x0.tokens=0)&&(decide (x0.count=0)&&true)))
 else (
  (Yn x0.tokens 0 x1.cap).bind λr0=>
  if r0=true then (
   if decide (x0.count≥0)=true then (
    some (decide (x0.count < x1.every)))
   else (
    some false))
  else (
   some false))
def Uc (x0:Zk) (x1:Ze):Option Bool:=
 if x1.prio=true then (
  (bH x0 x1).bind λr0=>
  some r0)
 else (
  some false)
def oY (x0:Zk) (x1:Ze):Option Zk:=
 (Uc x0 x1).bind λr0=>
 if (!r0)=true then (
  some x0)
 else (
  if decide ((Zn x0.count 1)=x1.every)=true then (
   some (Zk.mk (D2 (Zn x0.tokens 1) x1.cap) 0))
  else (
   some (Zk.mk x0.tokens (Zn x0.count 1))))
def oZ (x0:Zg)  (Ae:Zg) (v0:Bool):Option (Zg×Bool):=
 if v0=true then (
  some (Ae,false))
 else (
  some ({Ae with An:=(Xf Ae.An 1)},true))
def o4 (x0:Zg):Option (Zg×Bool):=
 (OA x0).bind λr0=>
 (Jd x0).bind λr1=>
 if (!r1)=true then (
  oZ x0 r0 true)
 else (
  oZ x0 r0 (decide (x0.An=x0.done)))
def o5 (x0:Zk) (x1:Ze):Option Zk:=
 (Uc x0 x1).bind λr0=>
 if r0=true then (
  if decide (x0.tokens < x1.cap)=true then (
   some (Zk.mk (Zn x0.tokens 1) x0.count))
  else (
   some x0))
 else (
  some x0)
def Zxh (x0:Zi) (x1:Int)  (v0:Bool):Option Int:=
 if v0=true then (
  some 0)
 else (
  (idx x0.Ab x1).bind λa0=>
  some (Qo a0.weight x0.Aw))
def Ud (x0:Zi) (x1:Int):Option Int:=
 (L1 x0).bind λr0=>
 if (!r0)=true then (
  Zxh x0 x1 true)
 else (
  (JH x0 x1).bind λr1=>
  Zxh x0 x1 (!r1))
def RM (x0:Ya) (x1:Zi):Option Bool:=
 (L1 x1).bind λr0=>
 if r0=true then (
  (JH x1 x0.at_).bind λr1=>
  if r1=true then (
   (Ud x1 x0.at_).bind λr2=>
   (Yn x0.Be 0 r2).bind λr3=>
   some r3)
  else (
   some false))
 else (
  some false)
def o6 (x0:Ya) (x1:Zi) (x2:Int)  (v0:Bool):Option Ya:=
 if v0=true then (
  (Ud x1 x2).bind λr0=>
  some (Ya.mk x0.at_ (D2 (Zn x0.Be 1) r0)))
 else (
  some x0)
def o7 (x0:Ya) (x1:Zi) (x2:Int):Option Ya:=
 (RM x0 x1).bind λr1=>
 if r1=true then (
  o6 x0 x1 x2 (decide (x2=x0.at_)))
 else (
  o6 x0 x1 x2 false)
def Ue (x0:Za) (x1:Zh):Option Za:=
 (idx x0.m x1.Ah).bind λa0=>
 (o4 a0).bind λr0=>
 (Jv x0.m x1.Ah r0.1).bind λy0=>
 if decide (x1.B6=1)=true then (
  (idx x0.buckets x1.Ah).bind λa1=>
  (idx x0.Ad.Ab x1.Ah).bind λa2=>
  (o5 a1 a2).bind λr1=>
  (Jv x0.buckets x1.Ah r1).bind λy1=>
  some {x0 with m:=y0,buckets:=y1})
 else (
  if decide (x1.B6=2)=true then (
   (o7 x0.Bq x0.Ad x1.Ah).bind λr2=>
   some {x0 with m:=y0,Bq:=r2})
  else (
   some {x0 with m:=y0}))
def o8 (x0:List Int) (x1:Int)  (v0:Bool):Option Int:=
 if v0=true then (
  some 0)
 else (
  (GJ (x0.length:Int)).bind λn0=>
  (idx x0 (K0 x1 (x0.length:Int))).bind λa0=>
  some a0)
def Uf (x0:List Int) (x1:Int):Option Int:=
 if decide ((x0.length:Int)=0)=true then (
  o8 x0 x1 true)
 else (
  o8 x0 x1 (decide (x1 < 0)))
def o9 (x0:Zi) (x1:Zb) (x2:Int):Option Int:=
 (Uf x1.waits x2).bind λr0=>
 some (E7 1 (D2 (Zn (E7 0 (D2 r0 99)) 1) x0.Ar))
def pA (x0:Zg) (x1:Int):Option Int:=
 (idx x0.queue 0).bind λa0=>
 if a0.write=true then (
  (idx a0.Aa x1).bind λa1=>
  some a1)
 else (
  some 0)
def bI (x0:Zl):Option Zl:=
 (Xi x0.AH).bind λr0=>
 (Xi x0.A2).bind λr1=>
 some (Zl.mk r0 x0.timer r1)
def Ug (x0:Zf):Option Zf:=
 (Xi x0.mem).bind λr0=>
 (bI x0.dev).bind λr1=>
 some (Zf.mk r0 r1)
def pB (x0:Int):Option Bool:=
 (Yn x0 0 255).bind λr0=>
 some (!r0)
def Zle (x0:List Int)  (k:Int->Option Int) (v0:Int):Option Int:=
 if decide (v0 < (x0.length:Int))=true then (
  (idx x0 v0).bind λa0=>
  (pB a0).bind λr0=>
  if r0=true then (
   some v0)
  else (
   k (Zn v0 1)))
 else (
  some (-1))
def Ja (x0:List Int)  : Nat->Int->Option Int
 | 0,_=>none
 | m+1,v0=>Zle x0  (Ja x0  m) v0
def Zai (x0:List Int):Option Int:=
 Ja x0 FU 0
def Qr (x0:List Int):Option Bool:=
 (Zai x0).bind λr0=>
 some (decide (r0≥0))
def Uh (x0:List Int) (x1:Int) (x2:Int):Option Bool:=
 if decide ((x0.length:Int)<=512)=true then (
  (Qr x0).bind λr0=>
  if (!r0)=true then (
   (RE x1 x2).bind λr1=>
   if r1=true then (
    (JG x2).bind λr2=>
    some (decide (x1<=(Xf (x0.length:Int) r2))))
   else (
    some false))
  else (
   some false))
 else (
  some false)
def pC (x0:Int):Option Bool:=
 (L4 x0 2).bind λr0=>
 some (!r0)
def Zlb (x0:List Int)  (k:Int->Option Int) (v0:Int):Option Int:=
 if decide (v0 < (x0.length:Int))=true then (
  (idx x0 v0).bind λa0=>
  (pC a0).bind λr0=>
  if r0=true then (
   some v0)
  else (
   k (Zn v0 1)))
 else (
  some (-1))
def K1 (x0:List Int)  : Nat->Int->Option Int
 | 0,_=>none
 | m+1,v0=>Zlb x0  (K1 x0  m) v0
def J7 (x0:List Int):Option Int:=
 K1 x0 FU 0
def Wd (x0:List Int):Option Bool:=
 (J7 x0).bind λr0=>
 some (decide (r0≥0))
def bJ (x0:Zl):Option Bool:=
 if decide ((x0.AH.length:Int)=4)=true then (
  if decide ((x0.A2.length:Int)<=4)=true then (
   (Wd x0.AH).bind λr0=>
   if (!r0)=true then (
    (Wd x0.A2).bind λr1=>
    if (!r1)=true then (
     (L4 x0.timer 2).bind λr2=>
     some r2)
    else (
     some false))
   else (
    some false))
  else (
   some false))
 else (
  some false)
def RN (x0:Zf):Option Bool:=
 if decide ((x0.mem.length:Int)=192)=true then (
  (Uh x0.mem 0 0).bind λr0=>
  if r0=true then (
   (bJ x0.dev).bind λr1=>
   some r1)
  else (
   some false))
 else (
  some false)
def pD (x0:Int)  (v0:Bool):Option Int:=
 if v0=true then (
  some 0)
 else (
  if decide (x0 < 128)=true then (
   some 1)
  else (
   if decide (x0 < 192)=true then (
    some 2)
   else (
    some 3)))
def bK (x0:Int):Option Int:=
 if decide (x0 < 0)=true then (
  pD x0 true)
 else (
  pD x0 (decide (x0≥224)))
def bL (x0:Zl) (x1:Bool) (x2:Int) (x3:Int)  (Ae:Zl) (v0:Bool):Option (Zl×Int×Bool):=
 if v0=true then (
  some (Ae,0,false))
 else (
  if x1=true then (
   (idx Ae.AH (Fw x2 4)).bind λa0=>
   (Jv Ae.AH (Fw x2 4) x3).bind λy0=>
   some ({Ae with AH:=y0},x3,true))
  else (
   (idx x0.AH (Fw x2 4)).bind λa1=>
   some (Ae,a1,true)))
def bM (x0:Zl) (x1:Bool) (x2:Int) (x3:Int)  (Ae:Zl) (v1:Bool):Option (Zl×Int×Bool):=
 if v1=true then (
  (idx x0.A2 0).bind λa2=>
  (Yt x0.A2 1 (x0.A2.length:Int)).bind λs0=>
  (Xi s0).bind λr0=>
  some ({Ae with A2:=r0},a2,true))
 else (
  if decide (x2≥16)=true then (
   bL x0 x1 x2 x3 Ae true)
  else (
   if decide (x2 < 0)=true then (
    bL x0 x1 x2 x3 Ae true)
   else (
    bL x0 x1 x2 x3 Ae (decide ((K0 x2 4)≠0)))))
def bN (x0:Zl) (x1:Bool) (x2:Int) (x3:Int)  (Ae:Zl) (v2:Bool):Option (Zl×Int×Bool):=
 if v2=true then (
  (Yz 8 Ae.A2 [x3]).bind λz0=>
  some ({Ae with A2:=z0},x3,true))
 else (
  if decide (x2=20)=true then (
   if (!x1)=true then (
    bM x0 x1 x2 x3 Ae (decide ((x0.A2.length:Int) > 0)))
   else (
    bM x0 x1 x2 x3 Ae false))
  else (
   bM x0 x1 x2 x3 Ae false))
def pE (x0:Zl) (x1:Bool) (x2:Int) (x3:Int)  (Ae:Zl) (v3:Bool):Option (Zl×Int×Bool):=
 if v3=true then (
  some ({Ae with timer:=x3},x3,true))
 else (
  if decide (x2=16)=true then (
   (aY 2).bind λr1=>
   (GJ r1).bind λn0=>
   some ({Ae with timer:=(K0 (Zn x0.timer 1) r1)},x0.timer,true))
  else (
   if decide (x2=20)=true then (
    if x1=true then (
     bN x0 x1 x2 x3 Ae (decide ((x0.A2.length:Int) < 4)))
    else (
     bN x0 x1 x2 x3 Ae false))
   else (
    bN x0 x1 x2 x3 Ae false)))
def RO (x0:Zl) (x1:Bool) (x2:Int) (x3:Int)  (Ae:Zl) (v4:Bool):Option (Zl×Int×Bool):=
 if v4=true then (
  some (Ae,0,false))
 else (
  if decide (x2=16)=true then (
   pE x0 x1 x2 x3 Ae x1)
  else (
   pE x0 x1 x2 x3 Ae false))
def pF (x0:Zl) (x1:Bool) (x2:Int) (x3:Int):Option (Zl×Int×Bool):=
 (bI x0).bind λr2=>
 (bJ x0).bind λr3=>
 if (!r3)=true then (
  RO x0 x1 x2 x3 r2 true)
 else (
  if x1=true then (
   (L4 x3 2).bind λr4=>
   RO x0 x1 x2 x3 r2 (!r4))
  else (
   RO x0 x1 x2 x3 r2 false))
def bO (x0:List Int) (x1:Int) (x2:Int) (x3:Int)  (k:(List Int)->Int->Int->Option (List Int×Bool)) (v0:List Int) (v1:Int) (v2:Int):Option (List Int×Bool):=
 if decide (v2 < v1)=true then (
  (Lq (Qo 8 v2)).bind λn0=>
  (idx v0 (Zn x1 v2)).bind λa0=>
  (Jv v0 (Zn x1 v2) (Rk (Rm x3 (Qo 8 v2)) 255)).bind λy0=>
  k y0 v1 (Zn v2 1))
 else (
  some (v0,true))
def pG (x0:List Int) (x1:Int) (x2:Int) (x3:Int)  : Nat->(List Int)->Int->Int->Option (List Int×Bool)
 | 0,_,_,_=>none
 | m+1,v0,v1,v2=>bO x0 x1 x2 x3  (pG x0 x1 x2 x3  m) v0 v1 v2
def pH (x0:List Int) (x1:Int) (x2:Int) (x3:Int)  (v0:List Int) (v3:Bool):Option (List Int×Bool):=
 if v3=true then (
  some (v0,false))
 else (
  (JG x2).bind λr0=>
  pG x0 x1 x2 x3 FU v0 r0 0)
def pI (x0:List Int) (x1:Int) (x2:Int) (x3:Int):Option (List Int×Bool):=
 (Xi x0).bind λr1=>
 (Uh x0 x1 x2).bind λr2=>
 if (!r2)=true then (
  pH x0 x1 x2 x3 r1 true)
 else (
  (L4 x3 x2).bind λr3=>
  pH x0 x1 x2 x3 r1 (!r3))
def bP (x0:List Int) (x1:Int) (x2:Int)  (k:Int->Int->Int->Option (Int×Bool)) (v0:Int) (v1:Int) (v2:Int):Option (Int×Bool):=
 if decide (v2 < v1)=true then (
  (idx x0 (Zn x1 v2)).bind λa0=>
  (Lq (Qo 8 v2)).bind λn0=>
  k (zA v0 (Rl a0 (Qo 8 v2))) v1 (Zn v2 1))
 else (
  some (v0,true))
def pJ (x0:List Int) (x1:Int) (x2:Int)  : Nat->Int->Int->Int->Option (Int×Bool)
 | 0,_,_,_=>none
 | m+1,v0,v1,v2=>bP x0 x1 x2  (pJ x0 x1 x2  m) v0 v1 v2
def pK (x0:List Int) (x1:Int) (x2:Int):Option (Int×Bool):=
 (Uh x0 x1 x2).bind λr0=>
 if (!r0)=true then (
  some (0,false))
 else (
  (JG x2).bind λr1=>
  pJ x0 x1 x2 FU 0 r1 0)
def Ui (x0:Zf) (x1:Bool) (x2:Int) (x3:Int) (x4:Int)  (Ae:Zf) (v0:Int) (v1:Bool):Option (Zf×Int×Int):=
 if (!v1)=true then (
  (Ug x0).bind λr0=>
  some (r0,0,1))
 else (
  some (Ae,v0,0))
def pL (x0:Zf) (x1:Bool) (x2:Int) (x3:Int) (x4:Int)  (Ae:Zf) (v2:Bool):Option (Zf×Int×Int):=
 if v2=true then (
  if x1=true then (
   (pI x0.mem x2 x3 x4).bind λr1=>
   Ui x0 x1 x2 x3 x4 (Zf.mk r1.1 Ae.dev) x4 r1.2)
  else (
   (pK x0.mem x2 x3).bind λr2=>
   Ui x0 x1 x2 x3 x4 Ae r2.1 r2.2))
 else (
  Ui x0 x1 x2 x3 x4 Ae x4 false)
def pM (x0:Zf) (x1:Bool) (x2:Int) (x3:Int) (x4:Int)  (Ae:Zf) (v3:Int) (v4:Bool):Option (Zf×Int×Int):=
 if v4=true then (
  (pF x0.dev x1 (Xf x2 192) x4).bind λr3=>
  Ui x0 x1 x2 x3 x4 (Zf.mk Ae.mem r3.1) r3.2.1 r3.2.2)
 else (
  if decide (v3=1)=true then (
   pL x0 x1 x2 x3 x4 Ae true)
  else (
   pL x0 x1 x2 x3 x4 Ae (decide (v3=2))))
def J2 (x0:Zf) (x1:Bool) (x2:Int) (x3:Int) (x4:Int)  (Ae:Zf) (v5:Bool):Option (Zf×Int×Int):=
 if v5=true then (
  some (Ae,0,1))
 else (
  (bK x2).bind λr4=>
  if decide (r4=3)=true then (
   pM x0 x1 x2 x3 x4 Ae r4 (decide (x3=2)))
  else (
   pM x0 x1 x2 x3 x4 Ae r4 false))
def bQ (x0:Zf) (x1:Bool) (x2:Int) (x3:Int) (x4:Int):Option (Zf×Int×Int):=
 (Ug x0).bind λr5=>
 (RN x0).bind λr6=>
 if (!r6)=true then (
  J2 x0 x1 x2 x3 x4 r5 true)
 else (
  (RE x2 x3).bind λr7=>
  if (!r7)=true then (
   J2 x0 x1 x2 x3 x4 r5 true)
  else (
   if x1=true then (
    (L4 x4 x3).bind λr8=>
    J2 x0 x1 x2 x3 x4 r5 (!r8))
   else (
    J2 x0 x1 x2 x3 x4 r5 false)))
def bR (x0:Za) (x1:Zh):Option (Zf×Int×Int):=
 (idx x0.m x1.Ah).bind λa0=>
 (idx a0.queue 0).bind λa1=>
 (O9 a0 x1.An).bind λr0=>
 (pA a0 x1.An).bind λr1=>
 (bQ x0.model a1.write r0 a1.size r1).bind λr2=>
 some (r2.1,r2.2.1,r2.2.2)
def pN (x0:Zg)  (Ae:Zg) (v0:Bool):Option (Zg×Bool):=
 if v0=true then (
  some (Ae,false))
 else (
  (O8 {Ae with done:=(Zn Ae.done 1)}).bind λr0=>
  if decide ((Zn Ae.done 1)=r0)=true then (
   (Yt Ae.queue 1 (Ae.queue.length:Int)).bind λs0=>
   some ((Zg.mk s0 0 0 0 false false),true))
  else (
   some ((Zg.mk Ae.queue Ae.An (Zn Ae.done 1) 0 false Ae.broken),true)))
def pO (x0:Zg):Option (Zg×Bool):=
 (OA x0).bind λr1=>
 (Jd x0).bind λr2=>
 if (!r2)=true then (
  pN x0 r1 true)
 else (
  pN x0 r1 (decide (x0.An=x0.done)))
def bS (x0:Za):Option Za:=
 some {x0 with Af:=(-1),held:=0}
def pP (x0:Za) (x1:Zh)  (Ae:Za) (A1:Zg):Option Za:=
 (idx Ae.m x1.Ah).bind λa0=>
 (Jv Ae.m x1.Ah A1).bind λy0=>
 some {Ae with m:=y0}
def pQ (x0:Za) (x1:Zh)  (Ae:Za) (A1:Zg) (v0:Bool):Option Za:=
 if v0=true then (
  (bS Ae).bind λr0=>
  pP x0 x1 r0 A1)
 else (
  pP x0 x1 Ae A1)
def bT (x0:Za) (x1:Zh)  (Ae:Za) (A1:Zg) (AI:Zs):Option Za:=
 (Yz 56 Ae.log [AI]).bind λz0=>
 (pO A1).bind λr1=>
 if decide (Ae.Af=x1.Ah)=true then (
  pQ x0 x1 {Ae with log:=z0} r1.1 (decide ((r1.1.queue.length:Int) < (A1.queue.length:Int))))
 else (
  pQ x0 x1 {Ae with log:=z0} r1.1 false)
def pR (x0:Za) (x1:Zh):Option Za:=
 (idx x0.m x1.Ah).bind λa1=>
 (idx a1.queue 0).bind λa2=>
 (O9 a1 x1.An).bind λr2=>
 if decide (x1.Ap=0)=true then (
  (bR x0 x1).bind λr3=>
  bT x0 x1 {x0 with model:=r3.1} a1 (Zs.mk x0.now x1.Ah a2.write r2 a2.size r3.2.1 x1.Ap))
 else (
  bT x0 x1 x0 a1 (Zs.mk x0.now x1.Ah a2.write r2 a2.size 0 x1.Ap))
def pS (x0:Za) (x1:Zb) (x2:Zp)  (Ae:Za):Option (Bool×Za×Zp):=
 some (false,Ae,{x2 with Ap:=x0.Aa.Ap})
def Uj (x0:Za) (x1:Zb) (x2:Zp)  (v0:Bool):Option (Bool×Za×Zp):=
 if v0=true then (
  if x0.addr.live=true then (
   (Ue {x0 with Aa:={x0.Aa with second:=true}} x0.addr).bind λr0=>
   pS x0 x1 x2 {r0 with addr:=Zh.z0})
  else (
   pS x0 x1 x2 {x0 with Aa:={x0.Aa with second:=true}}))
 else (
  if decide (x0.Aa.Ap=2)=true then (
   (idx x0.m x0.Aa.Ah).bind λa0=>
   (Jv x0.m x0.Aa.Ah {a0 with tries:=(Zn a0.tries 1)}).bind λy0=>
   (Ue {x0 with m:=y0,Aa:=Zh.z0} x0.Aa).bind λr1=>
   some (true,r1,{x2 with Ap:=x0.Aa.Ap}))
  else (
   if decide (x0.Aa.Ap=3)=true then (
    (idx x0.m x0.Aa.Ah).bind λa1=>
    (Jv x0.m x0.Aa.Ah {a1 with Ax:=true}).bind λy1=>
    (o9 x0.Ad x1 x0.At).bind λr2=>
    (idx x0.splits x0.Aa.Ah).bind λa2=>
    (Jv x0.splits x0.Aa.Ah r2).bind λy2=>
    (Ue {x0 with m:=y1,splits:=y2,Aa:=Zh.z0} x0.Aa).bind λr3=>
    some (true,r3,{x2 with Ap:=x0.Aa.Ap}))
   else (
    (pR {x0 with Aa:=Zh.z0} x0.Aa).bind λr4=>
    some (true,r4,{x2 with Ap:=x0.Aa.Ap}))))
def pT (x0:Za) (x1:Zb) (x2:Zp):Option (Bool×Za×Zp):=
 if (!x0.Aa.live)=true then (
  some (true,x0,x2))
 else (
  if decide (x0.Aa.left > 0)=true then (
   some (false,{x0 with Aa:={x0.Aa with left:=(Xf x0.Aa.left 1)}},x2))
  else (
   if decide (x0.Aa.Ap≠0)=true then (
    Uj x0 x1 x2 (!x0.Aa.second))
   else (
    Uj x0 x1 x2 false)))
def pU (x0:Zi) (x1:Zb) (x2:Int):Option Int:=
 (Uf x1.waits x2).bind λr0=>
 some (E7 0 (D2 r0 x0.Au))
def pV (x0:Zb) (x1:Int):Option Int:=
 (Uf x0.A4 x1).bind λr0=>
 if decide (r0=2)=true then (
  some r0)
 else (
  if decide (r0=3)=true then (
   some r0)
  else (
   some 0))
def K5 (x0:Za) (x1:Zb) (x2:Zh)  (Ae:Zg) (v0:Int) (v1:Int) (v2:Int) (v3:Int) (v4:Bool):Option (Int×Int):=
 if v4=true then (
  some (2,v2))
 else (
  if decide (v3=3)=true then (
   if decide (v0=2)=true then (
    if (!Ae.Ax)=true then (
     if decide (x2.Ah≠x0.Af)=true then (
      some (3,v2))
     else (
      some (v1,v2)))
    else (
     some (v1,v2)))
   else (
    some (v1,v2)))
  else (
   some (v1,v2)))
def bU (x0:Za) (x1:Zb) (x2:Zh)  (A1:Zg) (v0:Int) (v1:Int) (v2:Int):Option (Int×Int):=
 (pV x1 x0.At).bind λr0=>
 if decide (r0=2)=true then (
  if decide (v0≠3)=true then (
   K5 x0 x1 x2 A1 v0 v1 v2 r0 (decide (A1.tries < x0.Ad.Ao)))
  else (
   K5 x0 x1 x2 A1 v0 v1 v2 r0 false))
 else (
  K5 x0 x1 x2 A1 v0 v1 v2 r0 false)
def RP (x0:Za) (x1:Zb) (x2:Zh)  (A1:Zg) (v0:Int) (v5:Bool):Option (Int×Int):=
 if v5=true then (
  some (1,0))
 else (
  (bR x0 x2).bind λr1=>
  (pU x0.Ad x1 x0.At).bind λr2=>
  if decide (v0=3)=true then (
   bU x0 x1 x2 A1 v0 r1.2.2 (Zn r2 2))
  else (
   bU x0 x1 x2 A1 v0 r1.2.2 r2))
def pW (x0:Za) (x1:Zb) (x2:Zh):Option (Int×Int):=
 (idx x0.m x2.Ah).bind λa0=>
 (O9 a0 x2.An).bind λr3=>
 (bK r3).bind λr4=>
 if a0.broken=true then (
  RP x0 x1 x2 a0 r4 true)
 else (
  RP x0 x1 x2 a0 r4 (decide (r4=0)))
def bV (x0:Zg):Option Bool:=
 (Jd x0).bind λr0=>
 if r0=true then (
  (O8 x0).bind λr1=>
  some (decide (x0.An < r1)))
 else (
  some false)
def pX (x0:Zk) (x1:Ze)  (v0:Bool):Option (Zk×Bool):=
 if v0=true then (
  some (x0,false))
 else (
  some ((Zk.mk (Xf x0.tokens 1) x0.count),true))
def pY (x0:Zk) (x1:Ze):Option (Zk×Bool):=
 (Uc x0 x1).bind λr0=>
 if (!r0)=true then (
  pX x0 x1 true)
 else (
  pX x0 x1 (decide (x0.tokens=0)))
def Ztx (x0:Ya) (x1:Zi) (x2:List Bool)  (k:Int->Option (Ya×Int)) (v0:Int):Option (Ya×Int):=
 if decide (v0<=(x1.Ab.length:Int))=true then (
  (GJ (x1.Ab.length:Int)).bind λn0=>
  (idx x2 (K0 (Zn x0.at_ v0) (x1.Ab.length:Int))).bind λa0=>
  if a0=true then (
   (Ud x1 (K0 (Zn x0.at_ v0) (x1.Ab.length:Int))).bind λr0=>
   some ((Ya.mk (K0 (Zn x0.at_ v0) (x1.Ab.length:Int)) (Xf r0 1)),(K0 (Zn x0.at_ v0) (x1.Ab.length:Int))))
  else (
   k (Zn v0 1)))
 else (
  some ((Ya.mk x0.at_ 0),(-1)))
def pZ (x0:Ya) (x1:Zi) (x2:List Bool)  : Nat->Int->Option (Ya×Int)
 | 0,_=>none
 | m+1,v0=>Ztx x0 x1 x2  (pZ x0 x1 x2  m) v0
def p5 (x0:Ya) (x1:Zi) (x2:List Bool)  (v1:Bool):Option (Ya×Int):=
 if v1=true then (
  some ((Ya.mk x0.at_ (Xf x0.Be 1)),x0.at_))
 else (
  pZ x0 x1 x2 FU 1)
def p6 (x0:Ya) (x1:Zi) (x2:List Bool)  (v2:Bool):Option (Ya×Int):=
 if v2=true then (
  some (x0,(-1)))
 else (
  if decide (x0.Be > 0)=true then (
   (idx x2 x0.at_).bind λa1=>
   p5 x0 x1 x2 a1)
  else (
   p5 x0 x1 x2 false))
def p7 (x0:Ya) (x1:Zi) (x2:List Bool):Option (Ya×Int):=
 (RM x0 x1).bind λr1=>
 if (!r1)=true then (
  p6 x0 x1 x2 true)
 else (
  p6 x0 x1 x2 (decide ((x2.length:Int)≠(x1.Ab.length:Int))))
def bX (x0:Za)  (k:(List Bool)->Int->Int->Option (Int×Int×Za)) (v0:List Bool) (v1:Int) (v2:Int):Option (Int×Int×Za):=
 if decide (v2 < v1)=true then (
  (idx v0 v2).bind λa0=>
  if (!a0)=true then (
   k v0 v1 (Zn v2 1))
  else (
   (idx x0.buckets v2).bind λa1=>
   (idx x0.Ad.Ab v2).bind λa2=>
   (pY a1 a2).bind λr0=>
   if r0.2=true then (
    (Jv x0.buckets v2 r0.1).bind λy0=>
    some (v2,1,{x0 with buckets:=y0}))
   else (
    k v0 v1 (Zn v2 1))))
 else (
  if decide (x0.Af≠(-1))=true then (
   some ((-1),0,x0))
  else (
   (p7 x0.Bq x0.Ad v0).bind λr1=>
   some (r1.2,2,{x0 with Bq:=r1.1})))
def bY (x0:Za)  : Nat->(List Bool)->Int->Int->Option (Int×Int×Za)
 | 0,_,_,_=>none
 | m+1,v0,v1,v2=>bX x0  (bY x0  m) v0 v1 v2
def p8 (x0:Za)  (v0:List Bool) (v3:Bool):Option (Int×Int×Za):=
 if v3=true then (
  some (x0.Af,3,x0))
 else (
  bY x0 FU v0 (v0.length:Int) 0)
def p9 (x0:Za)  (k:(List Bool)->Int->Option (Int×Int×Za)) (v0:List Bool) (v4:Int):Option (Int×Int×Za):=
 if decide (v4 < (x0.m.length:Int))=true then (
  (idx x0.m v4).bind λa3=>
  (bV a3).bind λr2=>
  if r2=true then (
   (idx x0.splits v4).bind λa4=>
   if decide (a4=0)=true then (
    if decide (x0.Af=(-1))=true then (
     (Yz 1 v0 [true]).bind λz0=>
     k z0 (Zn v4 1))
    else (
     (Yz 1 v0 [decide (x0.Af=v4)]).bind λz0=>
     k z0 (Zn v4 1)))
   else (
    (Yz 1 v0 [false]).bind λz0=>
    k z0 (Zn v4 1)))
  else (
   (Yz 1 v0 [false]).bind λz0=>
   k z0 (Zn v4 1)))
 else (
  if decide (x0.Af≠(-1))=true then (
   (idx v0 x0.Af).bind λa5=>
   p8 x0 v0 a5)
  else (
   p8 x0 v0 false))
def qA (x0:Za)  : Nat->(List Bool)->Int->Option (Int×Int×Za)
 | 0,_,_=>none
 | m+1,v0,v4=>p9 x0  (qA x0  m) v0 v4
def qB (x0:Za):Option (Int×Int×Za):=
 qA x0 FU [] 0
def Uk (x0:Zg):Option Bool:=
 if decide ((x0.queue.length:Int) > 0)=true then (
  (idx x0.queue 0).bind λa0=>
  if a0.lock=true then (
   some (!x0.broken))
  else (
   some false))
 else (
  some false)
def qC (x0:Zg)  (Ae:Zg) (v0:Bool):Option (Zg×Bool):=
 if v0=true then (
  some (Ae,false))
 else (
  some ({Ae with An:=(Zn Ae.An 1)},true))
def qD (x0:Zg):Option (Zg×Bool):=
 (OA x0).bind λr0=>
 (bV x0).bind λr1=>
 if (!r1)=true then (
  qC x0 r0 true)
 else (
  qC x0 r0 (decide (x0.An=(Zn x0.done 2))))
def qE (x0:Za)  (Ae:Za) (A1:Zg) (v0:Int):Option (Int×Za):=
 (qD A1).bind λr0=>
 (idx Ae.m v0).bind λa0=>
 (Jv Ae.m v0 r0.1).bind λy0=>
 some (v0,{Ae with m:=y0,last:=v0})
def qF (x0:Za)  (Ae:Za) (A1:Zg) (v0:Int) (v1:Bool):Option (Int×Za):=
 if v1=true then (
  qE x0 {Ae with Af:=v0,held:=0} A1 v0)
 else (
  qE x0 Ae A1 v0)
def RQ (x0:Za)  (Ae:Za) (A1:Zg) (v0:Int):Option (Int×Za):=
 (Uk A1).bind λr1=>
 if r1=true then (
  qF x0 Ae A1 v0 (decide (Ae.Af=(-1))))
 else (
  qF x0 Ae A1 v0 false)
def qG (x0:Za):Option (Int×Za):=
 (qB x0).bind λr2=>
 if decide (r2.1 < 0)=true then (
  some ((-1),r2.2.2))
 else (
  (idx r2.2.2.m r2.1).bind λa1=>
  if decide (a1.An=0)=true then (
   RQ x0 {r2.2.2 with addr:=(Zh.mk true r2.1 a1.An true r2.2.1 0 0 false)} a1 r2.1)
  else (
   RQ x0 {r2.2.2 with addr:=(Zh.mk true r2.1 a1.An (decide (r2.2.2.last≠r2.1)) r2.2.1 0 0 false)} a1 r2.1))
def bZ (x0:Za) (x1:Zb)  (Ae:Za) (A1:Zp):Option (Zp×Za):=
 some (A1,{Ae with now:=(Zn Ae.now 1)})
def b4 (x0:Za) (x1:Zb)  (Ae:Za) (A1:Zp):Option (Zp×Za):=
 (qG Ae).bind λr0=>
 bZ x0 x1 r0.2 {A1 with C0:=r0.1}
def Ul (x0:Za) (x1:Zb)  (Ae:Za) (AI:Zp):Option (Zp×Za):=
 if Ae.addr.live=true then (
  (pW Ae x1 Ae.addr).bind λr1=>
  b4 x0 x1 {Ae with addr:=Zh.z0,Aa:={Ae.addr with left:=r1.2,Ap:=r1.1},At:=(Zn Ae.At 1)} AI)
 else (
  b4 x0 x1 Ae AI)
def OB (x0:Za) (x1:Zb)  (Ae:Za) (AI:Zp) (v0:Bool):Option (Zp×Za):=
 if v0=true then (
  (idx Ae.m Ae.Af).bind λa0=>
  (Jv Ae.m Ae.Af {a0 with broken:=true}).bind λy0=>
  (bS {Ae with m:=y0}).bind λr2=>
  Ul x0 x1 r2 AI)
 else (
  Ul x0 x1 Ae AI)
def OC (x0:Za) (x1:Zb)  (Ae:Za) (AI:Zp):Option (Zp×Za):=
 (pT Ae x1 AI).bind λr3=>
 if r3.1=true then (
  if decide (r3.2.1.Af≠(-1))=true then (
   OB x0 x1 r3.2.1 {r3.2.2 with ready:=r3.1} (decide (r3.2.1.held=r3.2.1.Ad.Am)))
  else (
   OB x0 x1 r3.2.1 {r3.2.2 with ready:=r3.1} false))
 else (
  bZ x0 x1 r3.2.1 {r3.2.2 with ready:=r3.1})
def qH (x0:Za) (x1:Zb)  (k:Za->Zp->Int->Int->Option (Zp×Za)) (Ae:Za) (AI:Zp) (v1:Int) (v2:Int):Option (Zp×Za):=
 if decide (v2 < v1)=true then (
  (idx Ae.splits v2).bind λa1=>
  (Jv Ae.splits v2 (E7 (Xf a1 1) 0)).bind λy1=>
  (idx Ae.buckets v2).bind λa2=>
  (idx Ae.Ad.Ab v2).bind λa3=>
  (oY a2 a3).bind λr4=>
  (Jv Ae.buckets v2 r4).bind λy2=>
  k {Ae with buckets:=y2,splits:=y1} AI v1 (Zn v2 1))
 else (
  if decide (Ae.Af≠(-1))=true then (
   OC x0 x1 {Ae with held:=(D2 (Zn Ae.held 1) Ae.Ad.Am)} AI)
  else (
   OC x0 x1 Ae AI))
def RR (x0:Za) (x1:Zb)  : Nat->Za->Zp->Int->Int->Option (Zp×Za)
 | 0,_,_,_,_=>none
 | m+1,Ae,AI,v1,v2=>qH x0 x1  (RR x0 x1  m) Ae AI v1 v2
def qI (x0:Za) (x1:Zb)  (k:Za->Zp->(List Zo)->Int->Int->Option (Zp×Za)) (Ae:Za) (AI:Zp) (v3:List Zo) (v4:Int) (v5:Int):Option (Zp×Za):=
 if decide (v5 < v4)=true then (
  (idx v3 v5).bind λa4=>
  (JH Ae.Ad a4.Ah).bind λr5=>
  if r5=true then (
   (idx Ae.m a4.Ah).bind λa5=>
   (oX a5 a4.Bm).bind λr6=>
   (Jv Ae.m a4.Ah r6.1).bind λy3=>
   k {Ae with m:=y3} AI v3 v4 (Zn v5 1))
  else (
   k Ae AI v3 v4 (Zn v5 1)))
 else (
  RR x0 x1 FU Ae AI (Ae.splits.length:Int) 0)
def b6 (x0:Za) (x1:Zb)  : Nat->Za->Zp->(List Zo)->Int->Int->Option (Zp×Za)
 | 0,_,_,_,_,_=>none
 | m+1,Ae,AI,v3,v4,v5=>qI x0 x1  (b6 x0 x1  m) Ae AI v3 v4 v5
def b7 (x0:Za) (x1:Zb)  (AI:Zp):Option (Zp×Za):=
 (oU x1 x0.now).bind λr7=>
 b6 x0 x1 FU x0 AI r7 (r7.length:Int) 0
def b8 (x0:Za) (x1:Zb)  (AI:Zp):Option (Zp×Za):=
 if x0.Aa.live=true then (
  (idx x0.m x0.Aa.Ah).bind λa6=>
  (O9 a6 x0.Aa.An).bind λr8=>
  b7 x0 x1 {AI with Aa:=r8,from_:=x0.Aa.Ah})
 else (
  b7 x0 x1 AI)
def RS (x0:Za) (x1:Zb):Option (Zp×Za):=
 if x0.addr.live=true then (
  (idx x0.m x0.addr.Ah).bind λa7=>
  (O9 a7 x0.addr.An).bind λr9=>
  if x0.addr.first=true then (
   b8 x0 x1 (Zp.mk x0.now r9 2 x0.addr.Ah (-1) (-1) true 0 (-1)))
  else (
   b8 x0 x1 (Zp.mk x0.now r9 3 x0.addr.Ah (-1) (-1) true 0 (-1))))
 else (
  b8 x0 x1 (Zp.mk x0.now (-1) 0 (-1) (-1) (-1) true 0 (-1)))
def RT (x0:Int) (x1:List ByteArray):Option ByteArray:=
 (Yn x0 0 (Xf (x1.length:Int) 1)).bind λr0=>
 if (!r0)=true then (
  some ByteArray.empty)
 else (
  (idx x1 x0).bind λa0=>
  some a0)
def b9 (x0:Int):Option ByteArray:=
 (RT x0 [(Zc [105,100,108,101]),ByteArray.empty,(Zc [102,105,114,115,116]),(Zc [110,101,120,116])]).bind λr0=>
 some r0
def MR (x0:Int):Option ByteArray:=
 if decide (x0 < 0)=true then (
  some (Zc [45]))
 else (
  (FO x0).bind λr0=>
  some r0)
def Um (x0:Int):Option ByteArray:=
 (RT x0 [(Zc [111,107,97,121]),(Zc [101,114,114,111,114]),(Zc [114,101,116,114,121]),(Zc [115,112,108,105,116])]).bind λr0=>
 some r0
def cA (x0:Zp)  (v0:ByteArray):Option ByteArray:=
 (FO x0.A3).bind λr0=>
 (b9 x0.kind).bind λr1=>
 (MR x0.Ah).bind λr2=>
 (Z6 r2 (Zc [58])).bind λn0=>
 (MR x0.addr).bind λr3=>
 (Z6 (r2++(Zc [58])) r3).bind λn1=>
 (MR x0.from_).bind λr4=>
 (Z6 r4 (Zc [58])).bind λn2=>
 (MR x0.Aa).bind λr5=>
 (Z6 (r4++(Zc [58])) r5).bind λn3=>
 (Um x0.Ap).bind λr6=>
 (MR x0.C0).bind λr7=>
 (Qn [r0,r1,((r2++(Zc [58]))++r3),((r4++(Zc [58]))++r5),v0,r6,r7] (Zc [32])).bind λr8=>
 some r8
def qJ (x0:Zp):Option ByteArray:=
 if x0.ready=true then (
  cA x0 (Zc [114,101,97,100,121]))
 else (
  cA x0 (Zc [119,97,105,116]))
def qK (x0:List Zk):Option (List Zk):=Yz 16 [] x0
def qL (x0:List Zs):Option (List Zs):=Yz 56 [] x0
def qM (x0:Za)  (k:Za->(List Zg)->Int->Option Za) (Ae:Za) (v0:List Zg) (v1:Int):Option Za:=
 if decide (v1 < (x0.m.length:Int))=true then (
  (idx x0.m v1).bind λa0=>
  (OA a0).bind λr0=>
  (Yz 56 v0 [r0]).bind λz0=>
  k Ae z0 (Zn v1 1))
 else (
  (qK Ae.buckets).bind λr1=>
  (Xi Ae.splits).bind λr2=>
  (Ug Ae.model).bind λr3=>
  (qL Ae.log).bind λr4=>
  some {Ae with m:=v0,buckets:=r1,splits:=r2,model:=r3,log:=r4})
def cB (x0:Za)  : Nat->Za->(List Zg)->Int->Option Za
 | 0,_,_,_=>none
 | m+1,Ae,v0,v1=>qM x0  (cB x0  m) Ae v0 v1
def cC (x0:Za):Option Za:=
 (bC x0.Ad).bind λr5=>
 cB x0 FU {x0 with Ad:=r5} [] 0
def qN (x0:Za)  (k:Int->Option Bool) (v0:Int):Option Bool:=
 if decide (v0 < (x0.m.length:Int))=true then (
  (idx x0.m v0).bind λa0=>
  (Jd a0).bind λr0=>
  if (!r0)=true then (
   some false)
  else (
   if decide (a0.tries > x0.Ad.Ao)=true then (
    some false)
   else (
    (idx x0.buckets v0).bind λa1=>
    (idx x0.Ad.Ab v0).bind λa2=>
    (bH a1 a2).bind λr1=>
    if (!r1)=true then (
     some false)
    else (
     (idx x0.splits v0).bind λa3=>
     (Yn a3 0 x0.Ad.Ar).bind λr2=>
     if (!r2)=true then (
      some false)
     else (
      k (Zn v0 1))))))
 else (
  some true)
def Zj0 (x0:Za)  : Nat->Int->Option Bool
 | 0,_=>none
 | m+1,v0=>qN x0  (Zj0 x0  m) v0
def Kh (x0:Za)  (v1:Bool):Option Bool:=
 if v1=true then (
  some false)
 else (
  Zj0 x0 FU 0)
def qO (x0:Za):Option Bool:=
 if decide ((x0.m.length:Int)≠(x0.Ad.Ab.length:Int))=true then (
  Kh x0 true)
 else (
  if decide ((x0.buckets.length:Int)≠(x0.Ad.Ab.length:Int))=true then (
   Kh x0 true)
  else (
   Kh x0 (decide ((x0.splits.length:Int)≠(x0.Ad.Ab.length:Int)))))
def qP (x0:Zh):Option Bool:=
 some (!x0.live)
def Zhp (x0:List Zh)  (k:Int->Option Int) (v0:Int):Option Int:=
 if decide (v0 < (x0.length:Int))=true then (
  (idx x0 v0).bind λa0=>
  (qP a0).bind λr0=>
  if r0=true then (
   some v0)
  else (
   k (Zn v0 1)))
 else (
  some (-1))
def Q1 (x0:List Zh)  : Nat->Int->Option Int
 | 0,_=>none
 | m+1,v0=>Zhp x0  (Q1 x0  m) v0
def Ku (x0:List Zh):Option Int:=
 Q1 x0 FU 0
def Zhc (x0:List Zh)  (k:(List Zh)->Int->Int->Option (List Zh)) (v0:List Zh) (v1:Int) (v2:Int):Option (List Zh):=
 if decide (v2 < (v0.length:Int))=true then (
  (idx v0 v2).bind λa0=>
  (qP a0).bind λr0=>
  if (!r0)=true then (
   (idx v0 v1).bind λa1=>
   (Jv v0 v1 a0).bind λy0=>
   k y0 (Zn v1 1) (Zn v2 1))
  else (
   k v0 v1 (Zn v2 1)))
 else (
  (Yt v0 v1 (v0.length:Int)).bind λs0=>
  (Lp Zh.z0 v0 v1 (v0.length:Int)).bind λy1=>
  (Yt y1 0 v1).bind λs1=>
  some s1)
def Qz (x0:List Zh)  : Nat->(List Zh)->Int->Int->Option (List Zh)
 | 0,_,_,_=>none
 | m+1,v0,v1,v2=>Zhc x0  (Qz x0  m) v0 v1 v2
def W0 (x0:List Zh):Option (List Zh):=
 (Ku x0).bind λr1=>
 if decide (r1=(-1))=true then (
  some x0)
 else (
  Qz x0 FU x0 r1 (Zn r1 1))
def qQ (x0:Za):Option (List Zh):=
 (W0 [x0.addr,x0.Aa]).bind λr0=>
 some r0
def Ji (x0:Za) (AN:(List Int)->(List Zh)->Int->Int->Option Bool) (Ae:Zh) (v0:List Int) (v1:List Zh) (v2:Int) (v3:Int) (v4:Bool):Option Bool:=
 if v4=true then (
  some false)
 else (
  (idx v0 Ae.Ah).bind λa0=>
  (Jv v0 Ae.Ah (Zn a0 1)).bind λy0=>
  AN y0 v1 v2 (Zn v3 1))
def Q7 (x0:Za)  (v5:Bool):Option Bool:=
 if v5=true then (
  some false)
 else (
  if (!x0.Aa.second)=true then (
   some true)
  else (
   if decide (x0.Aa.left=0)=true then (
    if decide (x0.Aa.Ap≠0)=true then (
     some (!x0.addr.live))
    else (
     some false))
   else (
    some false)))
def cE (x0:Za)  (A1:Zg) (v6:Bool):Option Bool:=
 if v6=true then (
  some false)
 else (
  if decide (x0.Aa.Ap=3)=true then (
   if A1.Ax=true then (
    Q7 x0 true)
   else (
    Q7 x0 (decide (x0.Aa.Ah=x0.Af))))
  else (
   Q7 x0 false))
def Un (x0:Za)  (A1:Zg) (v7:Bool):Option Bool:=
 if v7=true then (
  some false)
 else (
  if decide (x0.Aa.Ap=2)=true then (
   cE x0 A1 (decide (A1.tries≥x0.Ad.Ao)))
  else (
   cE x0 A1 false))
def Xk (x0:Za)  (v8:Bool):Option Bool:=
 if v8=true then (
  some false)
 else (
  if (!x0.Aa.live)=true then (
   some ((x0.Aa.live == false)&&(decide (x0.Aa.Ah=0)&&(decide (x0.Aa.An=0)&&((x0.Aa.first == false)&&(decide (x0.Aa.B6=0)&&(decide (x0.Aa.left=0)&&(decide (x0.Aa.Ap=0)&&((x0.Aa.second == false)&&true)))))))))
  else (
   (idx x0.m x0.Aa.Ah).bind λa1=>
   if decide (x0.Aa.An≠a1.done)=true then (
    Un x0 a1 true)
   else (
    (Yn x0.Aa.left 0 (Zn x0.Ad.Au 2)).bind λr0=>
    if (!r0)=true then (
     Un x0 a1 true)
    else (
     (Yn x0.Aa.Ap 0 3).bind λr1=>
     Un x0 a1 (!r1)))))
def W1 (x0:Za)  (k:(List Int)->Int->Option Bool) (v0:List Int) (v9:Int):Option Bool:=
 if decide (v9 < (x0.m.length:Int))=true then (
  (idx x0.m v9).bind λa2=>
  (idx v0 v9).bind λa3=>
  if decide ((Xf a2.An a2.done)≠a3)=true then (
   some false)
  else (
   k v0 (Zn v9 1)))
 else (
  if x0.addr.live=true then (
   (idx x0.m x0.addr.Ah).bind λa4=>
   if decide (x0.addr.An≠(Xf a4.An 1))=true then (
    Xk x0 true)
   else (
    if decide (x0.addr.left≠0)=true then (
     Xk x0 true)
    else (
     if decide (x0.addr.Ap≠0)=true then (
      Xk x0 true)
     else (
      if x0.addr.second=true then (
       Xk x0 true)
      else (
       if (!x0.addr.live)=true then (
        Xk x0 (!((x0.addr.live == false)&&(decide (x0.addr.Ah=0)&&(decide (x0.addr.An=0)&&((x0.addr.first == false)&&(decide (x0.addr.B6=0)&&(decide (x0.addr.left=0)&&(decide (x0.addr.Ap=0)&&((x0.addr.second == false)&&true))))))))))
       else (
        Xk x0 false))))))
  else (
   if (!x0.addr.live)=true then (
    Xk x0 (!((x0.addr.live == false)&&(decide (x0.addr.Ah=0)&&(decide (x0.addr.An=0)&&((x0.addr.first == false)&&(decide (x0.addr.B6=0)&&(decide (x0.addr.left=0)&&(decide (x0.addr.Ap=0)&&((x0.addr.second == false)&&true))))))))))
   else (
    Xk x0 false)))
def cF (x0:Za)  : Nat->(List Int)->Int->Option Bool
 | 0,_,_=>none
 | m+1,v0,v9=>W1 x0  (cF x0  m) v0 v9
def W5 (x0:Za)  (k:(List Int)->(List Zh)->Int->Int->Option Bool) (v0:List Int) (v1:List Zh) (v2:Int) (v3:Int):Option Bool:=
 if decide (v3 < v2)=true then (
  (idx v1 v3).bind λa5=>
  (JH x0.Ad a5.Ah).bind λr2=>
  if (!r2)=true then (
   Ji x0 k a5 v0 v1 v2 v3 true)
  else (
   (Yn a5.B6 1 3).bind λr3=>
   if (!r3)=true then (
    Ji x0 k a5 v0 v1 v2 v3 true)
   else (
    (idx x0.splits a5.Ah).bind λa6=>
    Ji x0 k a5 v0 v1 v2 v3 (decide (a6≠0)))))
 else (
  cF x0 FU v0 0)
def qR (x0:Za)  : Nat->(List Int)->(List Zh)->Int->Int->Option Bool
 | 0,_,_,_,_=>none
 | m+1,v0,v1,v2,v3=>W5 x0  (qR x0  m) v0 v1 v2 v3
def Uo (x0:Za):Option Bool:=
 (Hr 8 (x0.m.length:Int) 0).bind λm0=>
 (qQ x0).bind λr4=>
 qR x0 FU m0 r4 (r4.length:Int) 0
def qS (x0:Za)  (k:Int->Option Bool) (v0:Int):Option Bool:=
 if decide (v0 < (x0.m.length:Int))=true then (
  (idx x0.m v0).bind λa0=>
  if decide (a0.An > 0)=true then (
   (Uk a0).bind λr0=>
   if r0=true then (
    if decide (x0.Af≠v0)=true then (
     some false)
    else (
     k (Zn v0 1)))
   else (
    k (Zn v0 1)))
  else (
   k (Zn v0 1)))
 else (
  if decide (x0.Af=(-1))=true then (
   some (decide (x0.held=0)))
  else (
   (JH x0.Ad x0.Af).bind λr1=>
   if r1=true then (
    (idx x0.m x0.Af).bind λa1=>
    (Uk a1).bind λr2=>
    if r2=true then (
     (idx x0.splits x0.Af).bind λa2=>
     if decide (a2=0)=true then (
      (Yn x0.held 0 x0.Ad.Am).bind λr3=>
      some r3)
     else (
      some false))
    else (
     some false))
   else (
    some false)))
def Zqc (x0:Za)  : Nat->Int->Option Bool
 | 0,_=>none
 | m+1,v0=>qS x0  (Zqc x0  m) v0
def Up (x0:Za):Option Bool:=
 Zqc x0 FU 0
def qT (x0:Za)  (k:Int->Int->Option Bool) (v0:Int) (v1:Int):Option Bool:=
 if decide (v1 < (x0.log.length:Int))=true then (
  (idx x0.log v1).bind λa0=>
  if decide (a0.A3<=v0)=true then (
   some false)
  else (
   if decide (a0.A3≥x0.now)=true then (
    some false)
   else (
    (JH x0.Ad a0.Ah).bind λr0=>
    if (!r0)=true then (
     some false)
    else (
     (RE a0.addr a0.size).bind λr1=>
     if (!r1)=true then (
      some false)
     else (
      if decide (a0.addr≥512)=true then (
       some false)
      else (
       (L4 a0.value a0.size).bind λr2=>
       if (!r2)=true then (
        some false)
       else (
        if decide (a0.Ap≠0)=true then (
         if decide (a0.Ap≠1)=true then (
          some false)
         else (
          k a0.A3 (Zn v1 1)))
        else (
         k a0.A3 (Zn v1 1)))))))))
 else (
  some true)
def qU (x0:Za)  : Nat->Int->Int->Option Bool
 | 0,_,_=>none
 | m+1,v0,v1=>qT x0  (qU x0  m) v0 v1
def Uq (x0:Za):Option Bool:=
 qU x0 FU (-1) 0
def Ur (x0:Za):Option Bool:=
 (L1 x0.Ad).bind λr0=>
 if r0=true then (
  (Yn x0.now 0 4000).bind λr1=>
  if r1=true then (
   (qO x0).bind λr2=>
   if r2=true then (
    (RM x0.Bq x0.Ad).bind λr3=>
    if r3=true then (
     if decide (x0.last=(-1))=true then (
      (RN x0.model).bind λr4=>
      if r4=true then (
       (Yn x0.At 0 x0.now).bind λr5=>
       if r5=true then (
        (Uo x0).bind λr6=>
        if r6=true then (
         (Up x0).bind λr7=>
         if r7=true then (
          (Uq x0).bind λr8=>
          some r8)
         else (
          some false))
        else (
         some false))
       else (
        some false))
      else (
       some false))
     else (
      (JH x0.Ad x0.last).bind λr9=>
      if r9=true then (
       (RN x0.model).bind λr4=>
       if r4=true then (
        (Yn x0.At 0 x0.now).bind λr5=>
        if r5=true then (
         (Uo x0).bind λr6=>
         if r6=true then (
          (Up x0).bind λr7=>
          if r7=true then (
           (Uq x0).bind λr8=>
           some r8)
          else (
           some false))
         else (
          some false))
        else (
         some false))
       else (
        some false))
      else (
       some false)))
    else (
     some false))
   else (
    some false))
  else (
   some false))
 else (
  some false)
def Yfv (x0:Zb)  (k:Int->Int->Option Int) (v0:Int) (v1:Int):Option Int:=
 if decide (v1 < (x0.Al.length:Int))=true then (
  (idx x0.Al v1).bind λa0=>
  k (E7 v0 a0.at_) (Zn v1 1))
 else (
  some v0)
def qV (x0:Zb)  : Nat->Int->Int->Option Int
 | 0,_,_=>none
 | m+1,v0,v1=>Yfv x0  (qV x0  m) v0 v1
def qW (x0:Zb):Option Int:=
 qV x0 FU (-1) 0
def cG (x0:Zg):Option Bool:=
 some (decide ((x0.queue.length:Int) > 0))
def Zho (x0:List Zg)  (k:Int->Option Int) (v0:Int):Option Int:=
 if decide (v0 < (x0.length:Int))=true then (
  (idx x0 v0).bind λa0=>
  (cG a0).bind λr0=>
  if r0=true then (
   some v0)
  else (
   k (Zn v0 1)))
 else (
  some (-1))
def Wm (x0:List Zg)  : Nat->Int->Option Int
 | 0,_=>none
 | m+1,v0=>Zho x0  (Wm x0  m) v0
def Kr (x0:List Zg):Option Int:=
 Wm x0 FU 0
def Q9 (x0:List Zg):Option Bool:=
 (Kr x0).bind λr0=>
 some (decide (r0≥0))
def cH (x0:Za):Option Bool:=
 (Q9 x0.m).bind λr0=>
 some (!r0)
def cI (x0:Za) (x1:Zb)  (Ae:Za):Option (Za×Int):=
 (cC Ae).bind λr0=>
 some (r0,(Xf Ae.now x0.now))
def cJ (x0:Za) (x1:Zb)  (k:Za->Int->Option (Za×Int)) (A1:Za) (v0:Int):Option (Za×Int):=
 if decide (A1.now < 4000)=true then (
  (cH A1).bind λr1=>
  if (!r1)=true then (
   (RS A1 x1).bind λr2=>
   k r2.2 v0)
  else (
   if decide (A1.now<=v0)=true then (
    (RS A1 x1).bind λr2=>
    k r2.2 v0)
   else (
    cI x0 x1 A1)))
 else (
  cI x0 x1 A1)
def RU (x0:Za) (x1:Zb)  : Nat->Za->Int->Option (Za×Int)
 | 0,_,_=>none
 | m+1,A1,v0=>cJ x0 x1  (RU x0 x1  m) A1 v0
def qX (x0:Za) (x1:Zb):Option (Za×Int):=
 (cC x0).bind λr3=>
 (Ur x0).bind λr4=>
 if (!r4)=true then (
  some (r3,0))
 else (
  (qW x1).bind λr5=>
  RU x0 x1 FU r3 r5)
def Zuz (x0:List Zs)  (k:Zf->Int->Option (Zf×Int)) (Ae:Zf) (v0:Int):Option (Zf×Int):=
 if decide (v0 < (x0.length:Int))=true then (
  (idx x0 v0).bind λa0=>
  if decide (a0.Ap=1)=true then (
   k Ae (Zn v0 1))
  else (
   (bQ Ae a0.write a0.addr a0.size a0.value).bind λr0=>
   if decide (r0.2.2≠a0.Ap)=true then (
    some (Ae,v0))
   else (
    if decide (r0.2.1≠a0.value)=true then (
     some (Ae,v0))
    else (
     k r0.1 (Zn v0 1)))))
 else (
  some (Ae,(-1)))
def cK (x0:List Zs)  : Nat->Zf->Int->Option (Zf×Int)
 | 0,_,_=>none
 | m+1,Ae,v0=>Zuz x0  (cK x0  m) Ae v0
def qY (x0:List Zs):Option (Zf×Int):=
 (bD).bind λr1=>
 cK x0 FU r1 0
def qZ (x0:Zs):Option ByteArray:=
 (FO x0.A3).bind λr0=>
 (FO x0.Ah).bind λr1=>
 (RG x0.write).bind λr2=>
 (FO x0.addr).bind λr3=>
 (FO x0.value).bind λr4=>
 (Um x0.Ap).bind λr5=>
 (Qn [r0,r1,r2,r3,r4,r5] (Zc [32])).bind λr6=>
 some r6
def q6 (As:Zi) (Aq:Zb) (AF:Za) (x1:ByteArray):Option (ByteArray×Z1):=
 if (x1.toList == (Zc [115,116,101,112]).toList)=true then (
  if decide (AF.now=4000)=true then (
   some ((Zc [101,110,100]),(Z1.mk As Aq (some AF))))
  else (
   (RS AF Aq).bind λr0=>
   (qJ r0.1).bind λr1=>
   some (r1,(Z1.mk As Aq (some r0.2)))))
 else (
  if (x1.toList == (Zc [111,117,116]).toList)=true then (
   (qX AF Aq).bind λr2=>
   (FO r2.2).bind λr3=>
   some (r3,(Z1.mk As Aq (some r2.1))))
  else (
   if (x1.toList == (Zc [105,100,108,101]).toList)=true then (
    (cH AF).bind λr4=>
    if r4=true then (
     some ((Zc [121,101,115]),(Z1.mk As Aq (some AF))))
    else (
     some ((Zc [110,111]),(Z1.mk As Aq (some AF)))))
   else (
    if (x1.toList == (Zc [111,107]).toList)=true then (
     (qY AF.log).bind λr5=>
     (MR r5.2).bind λr6=>
     some (r6,(Z1.mk As Aq (some AF))))
    else (
     if decide ((AF.log.length:Int)=0)=true then (
      some ((Zc [45]),(Z1.mk As Aq (some AF))))
     else (
      (idx AF.log (Xf (AF.log.length:Int) 1)).bind λa0=>
      (qZ a0).bind λr7=>
      (Z6 r7 (Zc [32,111,102,32])).bind λn0=>
      (FO (AF.log.length:Int)).bind λr8=>
      (Z6 (r7++(Zc [32,111,102,32])) r8).bind λn1=>
      some (((r7++(Zc [32,111,102,32]))++r8),(Z1.mk As Aq (some AF))))))))
def Jy (As:Zi) (Aq:Zb) (AF:Za) (x1:ByteArray)  (v0:Bool):Option (ByteArray×Z1):=
 if v0=true then (
  (q6 As Aq AF x1).bind λr0=>
  match r0 with
  | (z0,⟨z1,z2,none⟩)=>(
   some (z0,(Z1.mk z1 z2 none)))
  | (z0,⟨z1,z2,some z3⟩)=>(
   some (z0,(Z1.mk z1 z2 (some z3)))))
 else (
  some ((Zc [119,104,97,116]),(Z1.mk As Aq (some AF))))
def cL (As:Zi) (Aq:Zb) (AF:Za) (x1:ByteArray):Option (ByteArray×Z1):=
 if (x1.toList == (Zc [110,101,119]).toList)=true then (
  (bE As).bind λr1=>
  if (!r1.2)=true then (
   some ((Zc [110,111]),(Z1.mk As Aq (some AF))))
  else (
   some ((Zc [111,107]),(Z1.mk As Aq (some r1.1)))))
 else (
  if (x1.toList == (Zc [99,111,110,102]).toList)=true then (
   (RA As).bind λr2=>
   if (!(r2.toList == ByteArray.empty.toList))=true then (
    some (r2,(Z1.mk As Aq (some AF))))
   else (
    some ((Zc [110,111,110,101]),(Z1.mk As Aq (some AF)))))
  else (
   if (x1.toList == (Zc [115,116,101,112]).toList)=true then (
    Jy As Aq AF x1 (x1.toList == (Zc [115,116,101,112]).toList))
   else (
    if (x1.toList == (Zc [111,117,116]).toList)=true then (
     Jy As Aq AF x1 (x1.toList == (Zc [111,117,116]).toList))
    else (
     if (x1.toList == (Zc [105,100,108,101]).toList)=true then (
      Jy As Aq AF x1 (x1.toList == (Zc [105,100,108,101]).toList))
     else (
      if (x1.toList == (Zc [111,107]).toList)=true then (
       Jy As Aq AF x1 (x1.toList == (Zc [111,107]).toList))
      else (
       Jy As Aq AF x1 (x1.toList == (Zc [108,111,103]).toList)))))))
def q7 (x0:ByteArray)  (k:Z1->ByteArray->(List ByteArray)->Int->Int->Option ByteArray) (Ae:Z1) (v0:ByteArray) (v1:List ByteArray) (v2:Int) (v3:Int):Option ByteArray:=
 match Ae with
 | ⟨z0,z1,none⟩=>(
  if decide (v3 < v2)=true then (
   (idx v1 v3).bind λa0=>
   if (a0.toList == ByteArray.empty.toList)=true then (
    k (Z1.mk z0 z1 none) v0 v1 v2 (Zn v3 1))
   else (
    (R9 a0 (Zc [32])).bind λr0=>
    if r0=true then (
     (oJ z0 z1 a0).bind λr1=>
     match r1 with
     | (z2,⟨z3,z4,none⟩)=>(
      (Z6 z2 (Zc [10])).bind λn0=>
      (Z6 v0 (z2++(Zc [10]))).bind λn1=>
      k (Z1.mk z3 z4 none) (v0++(z2++(Zc [10]))) v1 v2 (Zn v3 1))
     | (z2,⟨z3,z4,some z5⟩)=>(
      (Z6 z2 (Zc [10])).bind λn0=>
      (Z6 v0 (z2++(Zc [10]))).bind λn1=>
      k (Z1.mk z3 z4 (some z5)) (v0++(z2++(Zc [10]))) v1 v2 (Zn v3 1)))
    else (
     (bF z0 z1 a0).bind λr2=>
     match r2 with
     | (z6,⟨z7,z8,none⟩)=>(
      (Z6 z6 (Zc [10])).bind λn2=>
      (Z6 v0 (z6++(Zc [10]))).bind λn3=>
      k (Z1.mk z7 z8 none) (v0++(z6++(Zc [10]))) v1 v2 (Zn v3 1))
     | (z6,⟨z7,z8,some z9⟩)=>(
      (Z6 z6 (Zc [10])).bind λn2=>
      (Z6 v0 (z6++(Zc [10]))).bind λn3=>
      k (Z1.mk z7 z8 (some z9)) (v0++(z6++(Zc [10]))) v1 v2 (Zn v3 1)))))
  else (
   some v0))
 | ⟨z0,z1,some RV⟩=>(
  if decide (v3 < v2)=true then (
   (idx v1 v3).bind λa0=>
   if (a0.toList == ByteArray.empty.toList)=true then (
    k (Z1.mk z0 z1 (some RV)) v0 v1 v2 (Zn v3 1))
   else (
    (R9 a0 (Zc [32])).bind λr0=>
    if r0=true then (
     (oP z0 z1 RV a0).bind λr1=>
     match r1 with
     | (z2,⟨z3,z4,none⟩)=>(
      (Z6 z2 (Zc [10])).bind λn0=>
      (Z6 v0 (z2++(Zc [10]))).bind λn1=>
      k (Z1.mk z3 z4 none) (v0++(z2++(Zc [10]))) v1 v2 (Zn v3 1))
     | (z2,⟨z3,z4,some z5⟩)=>(
      (Z6 z2 (Zc [10])).bind λn0=>
      (Z6 v0 (z2++(Zc [10]))).bind λn1=>
      k (Z1.mk z3 z4 (some z5)) (v0++(z2++(Zc [10]))) v1 v2 (Zn v3 1)))
    else (
     (cL z0 z1 RV a0).bind λr2=>
     match r2 with
     | (z6,⟨z7,z8,none⟩)=>(
      (Z6 z6 (Zc [10])).bind λn2=>
      (Z6 v0 (z6++(Zc [10]))).bind λn3=>
      k (Z1.mk z7 z8 none) (v0++(z6++(Zc [10]))) v1 v2 (Zn v3 1))
     | (z6,⟨z7,z8,some z9⟩)=>(
      (Z6 z6 (Zc [10])).bind λn2=>
      (Z6 v0 (z6++(Zc [10]))).bind λn3=>
      k (Z1.mk z7 z8 (some z9)) (v0++(z6++(Zc [10]))) v1 v2 (Zn v3 1)))))
  else (
   some v0))
def Jp (x0:ByteArray)  : Nat->Z1->ByteArray->(List ByteArray)->Int->Int->Option ByteArray
 | 0,_,_,_,_,_=>none
 | m+1,Ae,v0,v1,v2,v3=>q7 x0  (Jp x0  m) Ae v0 v1 v2 v3
def Z2u (x0:ByteArray)  (v4:List ByteArray) (v5:Bool):Option ByteArray:=
 if v5=true then (
  some ByteArray.empty)
 else (
  Jp x0 FU Z1.z0 ByteArray.empty v4 (v4.length:Int) 0)
def RW (x0:ByteArray)  (v4:List ByteArray):Option ByteArray:=
 if decide ((x0.size:Int) > 3000)=true then (
  Z2u x0 v4 true)
 else (
  Z2u x0 v4 (decide ((v4.length:Int) > 60)))
def cM (x0:ByteArray):Option ByteArray:=
 (Ky x0 (Zc [10])).bind λr3=>
 (idx r3 (Xf (r3.length:Int) 1)).bind λa1=>
 if (a1.toList == ByteArray.empty.toList)=true then (
  (Yt r3 0 (Xf (r3.length:Int) 1)).bind λs0=>
  RW x0 s0)
 else (
  RW x0 r3)
def Ym3 (x0:List Int):Option Bool:=
 some (decide ((x0.length:Int) > 1048576))
def MS (x0:List Int) (x1:Int):Option Int:=
 if decide (x1 < (x0.length:Int))=true then (
  (idx x0 x1).bind λa0=>
  some (MF a0))
 else (
  some (K0 (Zn (Qo x1 37) (Qo (x0.length:Int) 11)) 256))
def Ydg (x0:List Zs) (x1:Int)  (k:Int->Int->Option Int) (v0:Int) (v1:Int):Option Int:=
 if decide (v1 < (x0.length:Int))=true then (
  (idx x0 v1).bind λa0=>
  if decide (a0.Ah=x1)=true then (
   k (E7 v0 a0.A3) (Zn v1 1))
  else (
   k v0 (Zn v1 1)))
 else (
  some v0)
def Zr4 (x0:List Zs) (x1:Int)  : Nat->Int->Int->Option Int
 | 0,_,_=>none
 | m+1,v0,v1=>Ydg x0 x1  (Zr4 x0 x1  m) v0 v1
def cN (x0:List Zs) (x1:Int):Option Int:=
 Zr4 x0 x1 FU (-1) 0
def Zwi (x0:List Int):Option Bool:=
 (Ym3 x0).bind λr0=>
 if r0=true then (
  some true)
 else (
  (MS x0 0).bind λr1=>
  (W4 r1).bind λr2=>
  (MS x0 1).bind λr3=>
  (W4 (Qo 4 (K0 r3 48))).bind λr4=>
  (Z6 (Zc [99,111,110,102,32,49,32,49,32,49,32,50,32,52,32,49,32,50,10,119,97,105,116,115,32,49,32,48,10,115,97,121,115,32,50,32,48,32,51,10,112,111,115,116,32,48,32,48,32,119,114,105,116,101,32,119,111,114,100,32,111,110,101,32]) r4).bind λn0=>
  (Z6 ((Zc [99,111,110,102,32,49,32,49,32,49,32,50,32,52,32,49,32,50,10,119,97,105,116,115,32,49,32,48,10,115,97,121,115,32,50,32,48,32,51,10,112,111,115,116,32,48,32,48,32,119,114,105,116,101,32,119,111,114,100,32,111,110,101,32])++r4) (Zc [32])).bind λn1=>
  (Z6 (((Zc [99,111,110,102,32,49,32,49,32,49,32,50,32,52,32,49,32,50,10,119,97,105,116,115,32,49,32,48,10,115,97,121,115,32,50,32,48,32,51,10,112,111,115,116,32,48,32,48,32,119,114,105,116,101,32,119,111,114,100,32,111,110,101,32])++r4)++(Zc [32])) r2).bind λn2=>
  (Z6 ((((Zc [99,111,110,102,32,49,32,49,32,49,32,50,32,52,32,49,32,50,10,119,97,105,116,115,32,49,32,48,10,115,97,121,115,32,50,32,48,32,51,10,112,111,115,116,32,48,32,48,32,119,114,105,116,101,32,119,111,114,100,32,111,110,101,32])++r4)++(Zc [32]))++r2) (Zc [10,112,111,115,116,32,48,32,48,32,114,101,97,100,32,119,111,114,100,32,111,110,101,32])).bind λn3=>
  (Z6 (((((Zc [99,111,110,102,32,49,32,49,32,49,32,50,32,52,32,49,32,50,10,119,97,105,116,115,32,49,32,48,10,115,97,121,115,32,50,32,48,32,51,10,112,111,115,116,32,48,32,48,32,119,114,105,116,101,32,119,111,114,100,32,111,110,101,32])++r4)++(Zc [32]))++r2)++(Zc [10,112,111,115,116,32,48,32,48,32,114,101,97,100,32,119,111,114,100,32,111,110,101,32])) r4).bind λn4=>
  (Z6 ((((((Zc [99,111,110,102,32,49,32,49,32,49,32,50,32,52,32,49,32,50,10,119,97,105,116,115,32,49,32,48,10,115,97,121,115,32,50,32,48,32,51,10,112,111,115,116,32,48,32,48,32,119,114,105,116,101,32,119,111,114,100,32,111,110,101,32])++r4)++(Zc [32]))++r2)++(Zc [10,112,111,115,116,32,48,32,48,32,114,101,97,100,32,119,111,114,100,32,111,110,101,32]))++r4) (Zc [10,110,101,119,10,111,117,116,10,108,111,103,10,111,107,10,105,100,108,101,10])).bind λn5=>
  (Ly (Zc [49,32,49,32,49,32,50,32,52,32,49,32,50])).bind λr5=>
  (MS x0 1).bind λr6=>
  (MS x0 0).bind λr7=>
  (Rp r5.1).bind λr8=>
  (R2 r8.1 (Zb.mk [(Zo.mk 0 0 (Zj.mk true (Qo 4 (K0 r6 48)) 2 0 false [r7])),(Zo.mk 0 0 (Zj.mk false (Qo 4 (K0 r6 48)) 2 0 false []))] [1,0] [2,0,3])).bind λr9=>
  (cN r9.1.log 0).bind λMN=>
  (cM (((((((Zc [99,111,110,102,32,49,32,49,32,49,32,50,32,52,32,49,32,50,10,119,97,105,116,115,32,49,32,48,10,115,97,121,115,32,50,32,48,32,51,10,112,111,115,116,32,48,32,48,32,119,114,105,116,101,32,119,111,114,100,32,111,110,101,32])++r4)++(Zc [32]))++r2)++(Zc [10,112,111,115,116,32,48,32,48,32,114,101,97,100,32,119,111,114,100,32,111,110,101,32]))++r4)++(Zc [10,110,101,119,10,111,117,116,10,108,111,103,10,111,107,10,105,100,108,101,10]))).bind λTB=>
  (W4 r9.2).bind λJF=>
  (Z6 (Zc [111,107,10,111,107,10,111,107,10,111,107,10,111,107,10,111,107,10]) JF).bind λn6=>
  (Z6 ((Zc [111,107,10,111,107,10,111,107,10,111,107,10,111,107,10,111,107,10])++JF) (Zc [10])).bind λn7=>
  (W4 MN).bind λRX=>
  (Z6 (((Zc [111,107,10,111,107,10,111,107,10,111,107,10,111,107,10,111,107,10])++JF)++(Zc [10])) RX).bind λn8=>
  (Z6 ((((Zc [111,107,10,111,107,10,111,107,10,111,107,10,111,107,10,111,107,10])++JF)++(Zc [10]))++RX) (Zc [32,48,32,114,101,97,100,32])).bind λn9=>
  (Z6 (((((Zc [111,107,10,111,107,10,111,107,10,111,107,10,111,107,10,111,107,10])++JF)++(Zc [10]))++RX)++(Zc [32,48,32,114,101,97,100,32])) r4).bind λn10=>
  (Z6 ((((((Zc [111,107,10,111,107,10,111,107,10,111,107,10,111,107,10,111,107,10])++JF)++(Zc [10]))++RX)++(Zc [32,48,32,114,101,97,100,32]))++r4) (Zc [32])).bind λn11=>
  (Z6 (((((((Zc [111,107,10,111,107,10,111,107,10,111,107,10,111,107,10,111,107,10])++JF)++(Zc [10]))++RX)++(Zc [32,48,32,114,101,97,100,32]))++r4)++(Zc [32])) r2).bind λn12=>
  (Z6 ((((((((Zc [111,107,10,111,107,10,111,107,10,111,107,10,111,107,10,111,107,10])++JF)++(Zc [10]))++RX)++(Zc [32,48,32,114,101,97,100,32]))++r4)++(Zc [32]))++r2) (Zc [32,111,107,97,121,32,111,102,32,50,10,45,10,121,101,115,10])).bind λn13=>
  some (TB.toList == (((((((((Zc [111,107,10,111,107,10,111,107,10,111,107,10,111,107,10,111,107,10])++JF)++(Zc [10]))++RX)++(Zc [32,48,32,114,101,97,100,32]))++r4)++(Zc [32]))++r2)++(Zc [32,111,107,97,121,32,111,102,32,50,10,45,10,121,101,115,10])).toList))
end Go.Proofs.YthdljdelfgofdaaGreatDoor.Ev
