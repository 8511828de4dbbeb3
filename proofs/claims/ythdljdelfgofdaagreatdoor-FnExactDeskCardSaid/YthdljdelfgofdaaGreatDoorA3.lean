/- A part of the proof of FnExactDesk: see the text YthdljdelfgofdaaGreatDoorLawFnExactDesk for what is proved and its conditions. Conditions here: those in each line. -/
import Derived.Test.YthdljdelfgofdaaGreatDoorA2
import Derived.KernelRfl
import Derived.Lib.AtoiAll
import Derived.Lib.ItoaNum
import Derived.Lib.Join
import Derived.Lib.Split
import Derived.Lib.Strings
import GoSem.ClaimData
set_option linter.unusedSimpArgs false
set_option linter.unusedVariables false
set_option linter.unusedSectionVars false
namespace Go.Proofs.YthdljdelfgofdaaGreatDoor.Ev
open Go Go.RowKit
variable [Anchor]
inductive O where
 | t (b:Bool)
 | k
 | row (n:Nat) (r:List V)
 | cell (r:List V)
 | put (r:List V) (R:List (List V))
 | num (l h n:Nat) (R:List (List V))
 | app (m:List (List V)) (lb:Bool) (R:List (List V)) (n:Nat)
 | mk (n:Nat) (R:List (List V))
 | res (r:V) (os:List V)
 | val (v:V)
 | stop
 | enter
 | B8
def NL:List Prop->Prop
 | []=>True
 | p::ps=>p/\NL ps
theorem NL.app {a b:List Prop} (h:NL (a++b)):NL a/\NL b:=by
 induction a with
 | nil=>exact⟨trivial,h⟩
 | cons p a ih=>exact⟨⟨h.1,(ih h.2).1⟩,(ih h.2).2⟩
abbrev KM (α:Type):=List O->Option (α×List Prop×List O)
namespace KM
def ret {α:Type} (a:α):KM α:=λq=>some (a,[],q)
def AD {α β:Type} (x:KM α) (f:α->KM β):KM β:=λq=>match x q with
 | some (a,o1,q1)=>match f a q1 with
  | some (b,o2,q2)=>some (b,o1++o2,q2)
  | none=>none
 | none=>none
def opt {α:Type} (x:Option α):KM α:=λq=>match x with|some a=>some (a,[],q)|none=>none
def B8 (p:Prop):KM Unit:=λq=>some ((),[p],q)
def BS:KM O:=λq=>match q with|o::q=>some (o,[],q)|[]=>none
def fail {α:Type}:KM α:=λ_=>none
end KM
def KS {α:Type} (x:KM α) (y:Option α):Prop:=∀q a E1 q',x q=some (a,E1,q')->NL E1->y=some a
def KP {α:Type} (x:KM α) (Q:α->Prop):Prop:=∀q a E1 q',x q=some (a,E1,q')->NL E1->Q a
section
variable {α β:Type}
theorem KS.kp {x:KM α} {y:Option α} (h:KS x y):KP x (λa=>y=some a):=h
theorem KP.mono {x:KM α} {Q Q':α->Prop} (h:KP x Q) (hq:∀a,Q a->Q' a):KP x Q':=λq a E1 q' e ho=>hq a (h q a E1 q' e ho)
theorem Yc {a:α} {Q:α->Prop} (h:Q a):KP (KM.ret a) Q:=λq b E1 q' e ho=>by
 simp only[KM.ret,AE,A6] at e;obtain⟨rfl,_⟩:=e;exact h
theorem Zv {Q:α->Prop}:KP (KM.fail:KM α) Q:=λq b E1 q' e ho=>by cases e
theorem Zs {x:KM α} {f:α->KM β} {Q:α->Prop} {R:β->Prop} (h:KP x Q) (hf:∀a,Q a->KP (f a) R):KP (KM.AD x f) R:=λq b E1 q' e ho=>by
 simp only[KM.AD] at e;split at e
 .rename_i a o1 q1 h1
  split at e
  .rename_i b' o2 q2 h2
   simp only[AE,A6] at e;obtain⟨rfl,rfl,rfl⟩:=e;obtain⟨a1,a2⟩:=ho.app;exact hf a (h q a o1 q1 h1 a1) q1 b' o2 q2 h2 a2
  .cases e
 .cases e
theorem Fq {x:Option α}:KP (KM.opt x) (λa=>x=some a):=λq b E1 q' e ho=>by
 simp only[KM.opt] at e;split at e
 .simp only[AE,A6] at e
  obtain⟨rfl,_⟩:=e;rfl
 .cases e
theorem Yo {p:Prop}:KP (KM.B8 p) (λ_=>p):=λq b E1 q' e ho=>by
 simp only[KM.B8,AE,A6] at e;obtain⟨_,rfl,_⟩:=e;exact ho.1
theorem Kp:KP KM.BS (λ_=>True):=λ_ _ _ _ _ _=>trivial
theorem W5 {c:Prop} [Decidable c] {x y:KM α} {Q:α->Prop} (h1:c->KP x Q) (h2:¬c->KP y Q):KP (if c then x else y) Q:=by
 by_cases hc:c
 .rw[Ah hc];exact h1 hc
 .rw[Ai hc];exact h2 hc
theorem Q8 {a:α}:KS (KM.ret a) (some a):=Yc rfl
theorem GD {x:KM α} {y:Option α} {f:α->KM β} {g:α->Option β} (h:KS x y) (hf:∀a,KS (f a) (g a)):KS (KM.AD x f) (y.bind g):=
 Zs h (λa e q b E1 q' e2 ho=>by rw[e];exact hf a q b E1 q' e2 ho)
theorem W8 {x:KM α} {y:Option α} {f:α->β} (h:KS x y):KS (KM.AD x λa=>KM.ret (f a)) (y.map f):=
 Zs h (λa e=>by rw[e];exact Yc rfl)
theorem NM {x:Option α}:KS (KM.opt x) x:=Fq
end
open KM
def ID:Nat->Nat->Nat
 | 0,n=>n
 | m+1,n=>m+1+n
theorem Y0t (m n:Nat):ID m n=m+n:=by cases m<;>simp[ID]
def iF (rows:List (List V)) (off len:Nat):KM (List (List V)):=AD BS λo=>match o with
 | .k=>match off with
  | 0=>AD (B8 (len=rows.length)) λ_=>ret rows
  | _=>fail
 | .mk _ R=>AD (B8 (off+len<=rows.length)) λ_=>AD (B8 ((rows.drop off).take len=R)) λ_=>ret R
 | _=>fail
theorem Yu4 {rows:List (List V)} {off len:Nat}:KP (iF rows off len) (λr=>off+len<=rows.length/\r=(rows.drop off).take len):=by
 unfold iF;refine Zs Kp (λo _=>?_);split
 .split
  .refine Zs Yo (λ_ h=>Yc ⟨by omega,?_⟩)
   rw[h];simp
  .exact Zv
 .exact Zs Yo (λ_ h1=>Zs Yo (λ_ h2=>Yc ⟨h1,h2.symm⟩))
 .exact Zv
def IE (s:St):V->KM (List (List V))
 | .sl id off len=>match s.heap id with
  | some b=>if b.box=false then iF b.rows off len else fail
  | none=>fail
 | .tr rows|.vw rows=>ret rows
 | .lit (.slice none 0 0)=>ret []
 | _=>fail
theorem KO {s:St} {x:V}:KS (IE s x) (s.rowsOf x):=by
 unfold IE;split
 .rename_i id off len
  simp only[St.rowsOf];split
  .rename_i b hb
   refine W5 (λhx=>?_) (λ_=>Zv);rw[hb,Ag];refine Yu4.mono λr hr=>?_;rw[Ah ⟨hx,hr.1⟩,hr.2]
  .exact Zv
 .exact Q8
 .exact Q8
 .exact Q8
 .exact Zv
def Td (s:St) (id:Id) (off len:Nat):KM (TypeId×List (List V)):=
 match s.heap id with
 | some b=>if b.box=false/\b.own=true/\b.cl=true then AD (iF b.rows off len) λr=>ret (b.el,r) else fail
 | none=>fail
theorem iG {s:St} {id:Id} {off len:Nat}:KS (Td s id off len) (s.whole id off len):=by
 unfold Td St.whole;split
 .rename_i b hb
  refine W5 (λhx=>?_) (λ_=>Zv);rw[hb,Ag];refine Zs Yu4 (λr hr=>Yc ?_);rw[Ah ⟨hx.1,hx.2.1,hx.2.2,hr.1⟩,hr.2]
 .exact Zv
def iH (s:St):V->KM V
 | .lit (.slice none 0 0)=>ret (.tr [])
 | .lit v=>ret (.lit v)
 | .tr rows=>ret (.tr rows)
 | .vw rows=>ret (.tr rows)
 | .sl id off len=>AD (IE s (.sl id off len)) λr=>ret (.tr r)
 | .rp _ row off=>ret (.rp true row off)
 | _=>fail
theorem Yly {s:St} {x:V}:KS (iH s x) (s.BA x):=by
 unfold iH;split
 .exact Q8
 .rename_i v hv
  have:s.BA (.lit v)=some (.lit v):=by
   unfold St.BA;split<;>simp_all
  rw[this];exact Q8
 .exact Q8
 .exact Q8
 .exact W8 KO
 .exact Q8
 .exact Zv
def XM (s:St):List V->KM (List V)
 | []=>ret []
 | x::r=>AD (iH s x) λy=>AD (XM s r) λz=>ret (y::z)
theorem xF {s:St}:∀{xs:List V},KS (XM s xs) (s.B0 xs):=by
 intro xs
 induction xs with
 | nil=>exact Q8
 | cons x xs ih=>exact GD Yly λy=>W8 ih
def iI (s:St):V->KM V
 | .ptr id i off=>match s.heap id with
  | some b=>if b.own=true then (match b.box,b.rows,i with
   | true,[row],0=>AD (XM s row) λcs=>ret (.rp true cs off)
   | _,_,_=>AD BS λo=>match o with
    | .cell row=>AD (B8 (b.rows[i]?=some row)) λ_=>AD (XM s row) λcs=>ret (.rp true cs off)
    | _=>fail) else fail
  | none=>fail
 | x=>iH s x
theorem Yhs {s:St} {x:V}:KS (iI s x) (s.Br x):=by
 unfold iI;split
 .rename_i id i off
  simp only[St.Br];split
  .rename_i b hb
   refine W5 (λhx=>?_) (λ_=>Zv);rw[hb,Ag,Ah hx];split
   .rename_i row h1 h2
    rw[h2];exact W8 xF
   .refine Zs Kp (λo _=>?_)
    split
    .refine Zs Yo (λ_ h=>?_)
     rw[h];exact W8 xF
    .exact Zv
  .exact Zv
 .rename_i _ hx
  have:s.Br x=s.BA x:=by
   unfold St.Br;split<;>simp_all
  rw[this];exact Yly
def xG (s:St):List V->KM (List V)
 | []=>ret []
 | x::r=>AD (iI s x) λy=>AD (xG s r) λz=>ret (y::z)
theorem Yup {s:St}:∀{xs:List V},KS (xG s xs) (s.Bz xs):=by
 intro xs
 induction xs with
 | nil=>exact Q8
 | cons x xs ih=>exact GD Yhs λy=>W8 ih
def xH (s:St):V->KM V
 | .agg cs=>AD (XM s cs) λy=>ret (.agg y)
 | .fn f Bu=>AD (xG s Bu) λy=>ret (.fn f y)
 | x=>iI s x
theorem Y7g {s:St} {x:V}:KS (xH s x) (s.C1 x):=by
 unfold xH;split
 .exact W8 xF
 .exact W8 Yup
 .rename_i _ h1 h2
  have:s.C1 x=s.Br x:=by
   unfold St.C1;split<;>simp_all
  rw[this];exact Yhs
def iJ (s:St):List Yt->List V->KM (List V)
 | _,[]=>ret []
 | ms,x::r=>AD (match ms.headD .rd with|.rd=>xH s x|_=>ret x) λy=>AD (iJ s ms.tail r) λz=>ret (y::z)
theorem Y67 {s:St}:∀{xs:List V} {ms:List Yt},KS (iJ s ms xs) (s.BL ms xs):=by
 intro xs
 induction xs with
 | nil=>intro ms;exact Q8
 | cons x xs ih=>
  intro ms;simp only[iJ,St.BL];refine GD ?_ λy=>W8 ih;unfold St.Cm;cases ms.headD .rd<;>simp only<;>first|exact Y7g|exact Q8
def Te (s:St) (t:Option TypeId):V->KM (V×St)
 | .lit (.slice none 0 0)=>AD (opt t) λe=>ret (.own e [],s)
 | .lit v=>ret (.lit v,s)
 | .tr rows=>ret (.tr rows,s)
 | .vw rows=>ret (.tr rows,s)
 | .sl id off len=>AD (Td s id off len) λer=>ret (.own er.1 er.2,s.kill id)
 | _=>fail
theorem iK {s:St} {t:Option TypeId} {x:V}:KS (Te s t x) (s.AA t x):=by
 unfold Te;split
 .exact W8 NM
 .rename_i v hv
  have:s.AA t (.lit v)=some (.lit v,s):=by
   unfold St.AA;split<;>simp_all
  rw[this];exact Q8
 .exact Q8
 .exact Q8
 .exact W8 iG
 .exact Zv
def XN:List (Option TypeId)->List V->(s:St)->KM (List V×St)
 | _,[],s=>ret ([],s)
 | ts,x::r,s=>AD (Te s (ts.headD none) x) λy=>AD (XN ts.tail r y.2) λz=>ret (y.1::z.1,z.2)
theorem xI:∀{xs:List V} {s:St} {ts:List (Option TypeId)},KS (XN ts xs s) (s.AK ts xs):=by
 intro xs
 induction xs with
 | nil=>intro s ts;exact Q8
 | cons x xs ih=>intro s ts;exact GD iK λy=>W8 ih
def iL (s:St) (ts:List (Option TypeId)):V->KM (V×St)
 | .agg cs=>AD (XN ts cs s) λy=>ret (.agg y.1,y.2)
 | x=>Te s (ts.headD none) x
theorem Ygo {s:St} {ts:List (Option TypeId)} {x:V}:KS (iL s ts x) (s.Ba ts x):=by
 unfold iL;split
 .exact W8 xI
 .rename_i _ h1
  have:s.Ba ts x=s.AA (ts.headD none) x:=by
   unfold St.Ba;split<;>simp_all
  rw[this];exact iK
def iM (s:St) (ts:List (Option TypeId)) (id:Id):KM (List V×St):=
 match s.heap id with
 | some b=>if b.box=true/\b.own=true then (match b.rows with
  | [row]=>XN ts row (s.kill id)
  | _=>fail) else fail
 | none=>fail
theorem Ygq {s:St} {ts:List (Option TypeId)} {id:Id}:KS (iM s ts id) (s.Bv ts id):=by
 unfold iM St.Bv;split
 .rename_i b hb
  refine W5 (λhx=>?_) (λ_=>Zv);rw[hb,Ag,Ah hx];split
  .rename_i row Xg
   rw[Xg];exact xI
  .exact Zv
 .exact Zv
def xJ (s:St) (t:Option TypeId) (x:V):KM (V×St):=match x with
 | .ptr id 0 0=>AD (iM s [] id) λy=>ret (.CM y.1,y.2)
 | x=>Te s t x
theorem Yr3 {s:St} {t:Option TypeId} {x:V}:KS (xJ s t x) (s.Bh t x):=by
 unfold xJ;split
 .exact W8 Ygq
 .rename_i Yh
  have e:s.Bh t x=s.AA t x:=by
   unfold St.Bh;split
   .exact absurd rfl (Yh _)
   .rfl
  rw[e];exact iK
def xK:List (Option TypeId)->List V->(s:St)->KM (List V×St)
 | _,[],s=>ret ([],s)
 | ts,x::r,s=>AD (xJ s (ts.headD none) x) λy=>AD (xK ts.tail r y.2) λz=>ret (y.1::z.1,z.2)
theorem Yn1:∀{xs:List V} {s:St} {ts:List (Option TypeId)},KS (xK ts xs s) (s.AQ ts xs):=by
 intro xs
 induction xs with
 | nil=>intro s ts;exact Q8
 | cons x xs ih=>intro s ts;exact GD Yr3 λy=>W8 ih
def iN (s:St) (ts:List (Option TypeId)) (id:Id):KM (List V×St):=
 match s.heap id with
 | some b=>if b.box=true/\b.own=true then (match b.rows with
  | [row]=>xK ts row (s.kill id)
  | _=>fail) else fail
 | none=>fail
theorem Yc9 {s:St} {ts:List (Option TypeId)} {id:Id}:KS (iN s ts id) (s.Be ts id):=by
 unfold iN St.Be;split
 .rename_i b hb
  refine W5 (λhx=>?_) (λ_=>Zv);rw[hb,Ag,Ah hx];split
  .rename_i row Xg
   rw[Xg];exact Yn1
  .exact Zv
 .exact Zv
def xL:V->KM V
 | .sl id off len=>AD BS λo=>match o with
  | .t true=>AD (B8 (len=0)) λ_=>ret (.tr [])
  | .t false=>AD (B8 (len≠0)) λ_=>ret (.sl id off len)
  | _=>fail
 | x=>ret x
theorem Ypf {x:V}:KP (xL x) (λy=>BU x=y):=by
 cases x with
 | sl id off len=>
  refine Zs Kp (λo _=>?_);cases o with
  | t b=>cases b with
   | true=>exact Zs Yo (λ_ h=>Yc (by subst h;rfl))
   | false=>exact Zs Yo (λ_ h=>Yc (by cases len with|zero=>exact absurd rfl h|succ n=>rfl))
  | _=>exact Zv
 | _=>exact Yc rfl
def xM:List V->KM (List V)
 | []=>ret []
 | x::xs=>AD (xL x) λy=>AD (xM xs) λys=>ret (y::ys)
theorem Y49:∀{xs:List V},KP (xM xs) (λys=>xs.map BU=ys):=by
 intro xs
 induction xs with
 | nil=>exact Yc rfl
 | cons x xs ih=>exact Zs Ypf (λy hy=>Zs ih (λys QG=>Yc (by rw[<-hy,<-QG];rfl)))
def iO:V->KM V
 | .agg cs=>AD (xM cs) λys=>ret (.agg ys)
 | x=>xL x
theorem Ysy {x:V}:KP (iO x) (λy=>thin x=y):=by
 cases x with
 | agg cs=>exact Zs Y49 (λys h=>Yc (by rw[<-h];rfl))
 | _=>simp only[iO,thin];exact Ypf
def xN (ts:List (Option TypeId)) (m:Yt) (x:V) (s:St):KM (V×St):=
 match m with
 | .rd=>ret (x,s)
 | .io=>match x with
  | .ptr id 0 0=>AD (iN s ts id) λy=>ret (.agg y.1,y.2)
  | _=>fail
 | .mv=>iL s ts x
 | .Er=>AD (iO x) λy=>iL s ts y
theorem Y9s {s:St} {ts:List (Option TypeId)} {m:Yt} {x:V}:KS (xN ts m x s) (s.Db ts m x):=by
 unfold xN St.Db;cases m
 .exact Q8
 .simp only
  split
  .exact W8 Yc9
  .exact Zv
 .exact Ygo
 .refine Zs Ysy (λy hy=>?_)
  rw[<-hy];exact Ygo
def xO (s:St) (m:Yt) (e k:Nat) (x o:V):KM St:=match m with
 | .Er=>AD (iO x) λy=>opt (match y,o with
  | .agg cs,.agg ns=>s.AO cs ns
  | x,o=>s.AO [x] [o])
 | .rd=>ret s
 | .mv=>ret s
 | .io=>opt (s.back .io e k x o)
theorem Y8h {s:St} {m:Yt} {e k:Nat} {x o:V}:KS (xO s m e k x o) (s.back m e k x o):=by
 cases m
 .exact Q8
 .exact NM
 .exact Q8
 .simp only[xO,St.back]
  refine Zs Ysy (λy hy=>?_);rw[hy];exact NM
def xP (e:Nat):List Yt->(k:Nat)->List V->List V->(s:St)->KM St
 | _,_,[],_,s=>ret s
 | ms,k,x::xs,o::os,s=>AD (xO s (ms.headD .rd) e k x o) λs=>xP e ms.tail (k+1) xs os s
 | _,_,_::_,[],_=>fail
theorem Y64 {e:Nat}:∀{xs:List V} {s:St} {ms:List Yt} {k:Nat} {os:List V},KS (xP e ms k xs os s) (s.BF e ms k xs os):=by
 intro xs
 induction xs with
 | nil=>intro s ms k os;exact Q8
 | cons x xs ih=>
  intro s ms k os;cases os with
  | nil=>exact Zv
  | cons o os=>exact GD Y8h λs=>ih
def xQ (P:Program):List TypeId->List Yt->List V->(s:St)->KM (List V×St)
 | _,_,[],s=>ret ([],s)
 | ts,ms,x::r,s=>AD (xN (SG P (ts.headD 0)) (ms.headD .rd) x s) λy=>AD (xQ P ts.tail ms.tail r y.2) λz=>ret (y.1::z.1,z.2)
theorem Y6q {P:Program}:∀{xs:List V} {s:St} {ts:List TypeId} {ms:List Yt},KS (xQ P ts ms xs s) (s.Bs P ts ms xs):=by
 intro xs
 induction xs with
 | nil=>intro s ts ms;exact Q8
 | cons x xs ih=>intro s ts ms;exact GD Y9s λy=>W8 ih
def Mm:List V->(s:St)->KM (List V×Bool×St)
 | [],s=>ret ([],true,s)
 | x::r,s=>
  match x with
  | .lit (.slice none 0 0)=>AD (Mm r s) λy=>ret (.tr []::y.1,y.2)
  | .lit v=>AD (Mm r s) λy=>ret (.lit v::y.1,y.2)
  | .tr rows|.vw rows=>AD (Mm r s) λy=>ret (.tr rows::y.1,false,y.2.2)
  | .sl id off len=>match s.heap id with
   | some b=>if b.own=true/\b.box=false/\b.cl=true then AD (Td s id off len) λer=>AD (Mm r (s.kill id)) λy=>ret (.tr er.2::y.1,y.2)
    else if b.own=false then AD (IE s (.sl id off len)) λrows=>AD (Mm r s) λy=>ret (.tr rows::y.1,false,y.2.2) else fail
   | none=>fail
  | _=>fail
def xR:List (List V)->(s:St)->KM (List (List V)×Bool×St)
 | [],s=>ret ([],true,s)
 | row::r,s=>AD (Mm row s) λy=>AD (xR r y.2.2) λz=>ret (y.1::z.1,y.2.1&&z.2.1,z.2.2)
theorem Yu8:∀{xs:List V} {s:St},KS (Mm xs s) (s.sink xs):=by
 intro xs
 induction xs with
 | nil=>intro s;exact Q8
 | cons x xs ih=>
  intro s;unfold Mm;split
  .exact W8 ih
  .rename_i v hv
   have:s.sink (.lit v::xs)=(s.sink xs).map λy=>(.lit v::y.1,y.2):=by
    conv=>lhs;unfold St.sink
    split<;>simp_all
   rw[this];exact W8 ih
  .exact W8 ih
  .exact W8 ih
  .rename_i id off len
   simp only[St.sink];split
   .rename_i b hb
    refine W5 (λhx=>?_) (λhn=>W5 (λho=>?_) (λ_=>Zv))
    .refine Zs iG (λer he=>?_)
     rw[he];exact W8 ih
    .refine Zs KO (λrows hr=>?_)
     have hw:s.whole id off len=none:=by
      unfold St.whole;rw[hb,Ag,Ai (λh=>by rw[ho] at h;cases h.2.1)]
     simp only[hw,hb,ho,if_true];rw[hr,Ag];exact W8 ih
   .exact Zv
  .exact Zv
theorem Ytl:∀{xs:List (List V)} {s:St},KS (xR xs s) (s.Bp xs):=by
 intro xs
 induction xs with
 | nil=>intro s;exact Q8
 | cons x xs ih=>intro s;exact GD Yu8 λy=>W8 ih
end Go.Proofs.YthdljdelfgofdaaGreatDoor.Ev
namespace Go.Proofs.YthdljdelfgofdaaGreatDoor.Ev
open Go Go.RowKit KM
variable [Anchor]
section
variable {P:Program} {M:X2}
def xS (ts:List (Option TypeId)) (x:V) (s:St):KM (V×St):=
 match x with
 | .agg cs=>AD (XN ts cs s) λy=>ret (.agg y.1,y.2)
 | .ptr id 0 0=>AD (iM s ts id) λy=>ret (.CM y.1,y.2)
 | x=>Te s (ts.headD none) x
theorem Yx7 {s:St} {ts:List (Option TypeId)} {x:V}:KS (xS ts x s) (s.BD ts x):=by
 unfold xS;split
 .exact W8 xI
 .exact W8 Ygq
 .rename_i _ h1 h2
  have:s.BD ts x=s.AA (ts.headD none) x:=by
   unfold St.BD;split<;>simp_all
  rw[this];exact iK
def xT (P:Program):List TypeId->List V->(s:St)->KM (List V×St)
 | _,[],s=>ret ([],s)
 | ts,x::r,s=>AD (xS (SG P (ts.headD 0)) x s) λy=>AD (xT P ts.tail r y.2) λz=>ret (y.1::z.1,z.2)
theorem Yxl:∀{xs:List V} {s:St} {ts:List TypeId},KS (xT P ts xs s) (s.liftAll P ts xs):=by
 intro xs
 induction xs with
 | nil=>intro s ts;exact Q8
 | cons x xs ih=>intro s ts;exact GD Yx7 λy=>W8 ih
def QH (p:Nat):(k:Nat)->List V->(s:St)->KM (List V×St)
 | _,[],s=>ret ([],s)
 | k,x::r,s=>match x with
  | .own e rows=>AD (Td s (0,64*p+k) 0 rows.length) λer=>if er.1=e then AD (QH p (k+1) r (s.kill (0,64*p+k))) λz=>ret (.own er.1 er.2::z.1,z.2) else fail
  | _=>AD (QH p (k+1) r s) λz=>ret (.undef::z.1,z.2)
theorem Yc5 {p:Nat}:∀{xs:List V} {k:Nat} {s:St},KS (QH p k xs s) (s.AZ p k xs):=by
 intro xs
 induction xs with
 | nil=>intro k s;exact Q8
 | cons x xs ih=>
  intro k s;cases x with
  | own e rows=>
   simp only[QH,St.AZ];refine Zs iG (λer he=>?_);rw[he,Ag];refine W5 (λhx=>?_) (λ_=>Zv);rw[Ah hx];exact W8 ih
  | _=>
   simp only[QH,St.AZ];exact W8 ih
def Mn (p:Nat) (ts:List (Option TypeId)) (m:Yt) (x:V) (s:St):KM (V×St):=
 match m with
 | .rd|.mv=>ret (.undef,s)
 | .io=>match x with
  | .agg cs=>AD (iN s ts (0,64*p+63)) λy=>if y.1.length=cs.length then ret (.agg y.1,y.2) else fail
  | _=>fail
 | .Er=>match x with
  | .agg cs=>AD (QH p 0 cs s) λy=>ret (.agg y.1,y.2)
  | x=>AD (QH p 0 [x] s) λy=>AD (opt y.1.head?) λv=>ret (v,y.2)
theorem Xa2 {s:St} {p:Nat} {ts:List (Option TypeId)} {m:Yt} {x:V}:KS (Mn p ts m x s) (s.out p ts m x):=by
 cases m
 .exact Q8
 .cases x with
  | agg cs=>
   simp only[Mn,St.out];refine Zs Yc9 (λy hy=>?_);rw[hy];simp only[Ag];refine W5 (λhx=>?_) (λ_=>Zv);rw[Ah hx];exact Yc rfl
  | _=>exact Zv
 .exact Q8
 .cases x with
  | agg cs=>exact W8 Yc5
  | _=>simp only[Mn,St.out];exact GD Yc5 λy=>W8 NM
def xU (P:Program):(p:Nat)->List TypeId->List Yt->List V->(s:St)->KM (List V)
 | _,_,_,[],s=>ret []
 | p,ts,ms,x::r,s=>AD (Mn p (SG P (ts.headD 0)) (ms.headD .rd) x s) λy=>AD (xU P (p+1) ts.tail ms.tail r y.2) λz=>ret (y.1::z)
theorem Y9b:∀{xs:List V} {s:St} {p:Nat} {ts:List TypeId} {ms:List Yt},KS (xU P p ts ms xs s) (s.outs P p ts ms xs):=by
 intro xs
 induction xs with
 | nil=>intro s p ts ms;exact Q8
 | cons x xs ih=>intro s p ts ms;exact GD Xa2 λy=>W8 ih
def QI (P:Program) (M:X2) (f:FuncId) (fn:Func) (xs:List V) (s:St):KM (V×List V):=
 AD (opt (Gz P s fn.results.toList)) λvs=>AD (xT P fn.resultTypes.toList vs s) λz=>AD (xU P 0 fn.params.toList (M.AU f) xs z.2) λos=>ret (UZ z.1,os)
theorem Y02 {f:FuncId} {fn:Func} {xs:List V} {s:St}:KS (QI P M f fn xs s) ((Gz P s fn.results.toList).bind λvs=>(s.liftAll P fn.resultTypes.toList vs).bind λz=>(z.2.outs P 0 fn.params.toList (M.AU f) xs).map λos=>(UZ z.1,os)):=
 GD NM λvs=>GD Yxl λz=>W8 Y9b
def xV (P:Program) (M:X2) (s:St) (k:Nat) (g:FuncId) (args:List V):KM (V×St):=
 if args.length<=8 then AD (xQ P (((P.funcs[g]?).map (·.params.toList)).getD []) (M.AU g) args s) λy=>AD (iJ y.2 (M.AU g) y.1) λxs=>AD BS λo=>match o with
  | .res r os=>AD (B8 (Zr P M (g,xs,r,os))) λ_=>if ((Pb r||os.any H4)&&!Ia (M.AU g) args)=true then fail else
   AD (xP s.ep (M.AU g) (16*k+8) args os y.2) λs'=>opt (s'.BB s.ep (16*k) r)
  | _=>fail
 else fail
theorem Y9z (hP:X7 P) {s:St} {k:Nat} {g:FuncId} {args:List V}:KP (xV P M s k g args) (λy=>∃C,HB P M C/\JQ P M C s k g args=some y):=by
 unfold xV;refine W5 (λh8=>?_) (λ_=>Zv);refine Zs Y6q (λy hy=>Zs Y67 (λxs hx=>Zs Kp (λo _=>?_)));split
 .rename_i r os
  refine Zs Yo (λ_ hf=>W5 (λ_=>Zv) (λht=>Zs Y64 (λs' hs=>Fq.mono λz hz=>⟨one (g,xs,r,os),PY hP hf,?_⟩)));unfold JQ;rw[Ah h8,hy,Ag,hx,Ag];have h1:one (g,xs,r,os) g xs=some (r,os):=by unfold one;rw[Ah ⟨rfl,rfl⟩]
  rw[h1,Ag];simp only;rw[Ai ht,hs,Ag,hz]
 .exact Zv
def xW (s:St) (all:Bool) (x:V) (m:List (List V)) (lb:Bool):KM St:=
 match x with
 | .sl id off len=>if id.1=s.ep\/all=true then (if lb=true then AD (Td s id off len) λer=>AD (B8 (er.2=m)) λ_=>ret (s.kill id) else match s.heap id with
   | some b=>if b.cl=false then AD (IE s (.sl id off len)) λrows=>AD (B8 (rows=m)) λ_=>AD (B8 (Fa m=lb)) λ_=>ret s else fail
   | none=>fail)
  else AD (IE s x) λrows=>AD (B8 (rows=m)) λ_=>AD (B8 (Fa m=lb)) λ_=>ret s
 | x=>AD (IE s x) λrows=>AD (B8 (rows=m)) λ_=>AD (B8 (Fa m=lb)) λ_=>ret s
theorem Y46 {s:St} {all:Bool} {x:V} {m:List (List V)} {lb:Bool}:KP (xW s all x m lb) (λs1=>s.Cp all x=some (m,lb,s1)):=by
 unfold xW;split
 .rename_i id off len
  simp only[St.Cp];refine W5 (λhx=>W5 (λhl=>?_) (λ_=>?_)) (λhn=>?_)
  .refine Zs iG (λer he=>Zs Yo (λ_ hm=>Yc ?_))
   rw[Ah hx,he,hl];simp only[hm]
  .split
   .rename_i b hb
    refine W5 (λhc=>?_) (λ_=>Zv);refine Zs KO (λrows hr=>Zs Yo (λ_ hm=>Zs Yo (λ_ hl=>Yc ?_)));have hw:s.whole id off len=none:=by
     unfold St.whole;rw[hb,Ag,Ai (λh=>by rw[hc] at h;cases h.2.2.1)]
    rw[Ah hx,hw,hr];simp only[D8,hm,hl]
   .exact Zv
  .refine Zs KO (λrows hr=>Zs Yo (λ_ hm=>Zs Yo (λ_ hl=>Yc ?_)))
   rw[Ai hn,hr];simp only[D8,hm,hl]
 .rename_i _ Yh
  refine Zs KO (λrows hr=>Zs Yo (λ_ hm=>Zs Yo (λ_ hl=>Yc ?_)));have:s.Cp all x=(s.rowsOf x).map λrows=>(rows,Fa rows,s):=by
   unfold St.Cp;split<;>simp_all
  rw[this,hr];simp only[D8,hm,hl]
def QJ (P:Program) (all:Bool) (s:St) (id:Id) (t:TypeId) (b x:V):KM (V×St):=
 AD (opt (Qo P t)) λe=>AD BS λo=>match o with
 | .app m lb R n=>AD (xW s all x m lb) λs1=>if Z2 P e≠0/\LD P e=true then AD (B8 (GZ (Z2 P e) m=true)) λ_=>
  match b with
  | .lit (.slice none 0 0)=>AD (B8 (m.length*P.bytesOf e<=140737488355328/\m.length<=9223372036854775807)) λ_=>AD (B8 (m=R)) λ_=>AD (B8 (n=R.length)) λ_=>ret (.sl id 0 n,s1.A5 id ⟨false,true,lb,e,R⟩)
  | .sl i 0 len=>match s1.heap i with
   | some k=>if k.box=false/\k.own=true/\k.el=e then AD (B8 (len=k.rows.length)) λ_=>AD (B8 ((len+m.length)*P.bytesOf e<=140737488355328/\len+m.length<=9223372036854775807)) λ_=>
     AD (B8 (k.rows++m=R)) λ_=>AD (B8 (n=R.length)) λ_=>ret (.sl id 0 n,(s1.kill i).A5 id ⟨false,true,k.cl&&lb,e,R⟩) else fail
   | none=>fail
  | _=>fail
  else fail
 | _=>fail
theorem Xbw {all:Bool} {s:St} {id:Id} {t:TypeId} {b x:V}:KS (QJ P all s id t b x) (Nn P all s id t b x):=by
 unfold QJ Nn;refine GD NM λe=>Zs Kp (λo _=>?_);split
 .rename_i m lb R n
  refine Zs Y46 (λs1 hm=>W5 (λhz=>Zs Yo (λ_ ha=>?_)) (λ_=>Zv));rw[hm,Ag,Ah ⟨ha,hz.1,hz.2⟩];split
  .refine Zs Yo (λ_ h1=>Zs Yo (λ_ h2=>Zs Yo (λ_ h3=>Yc ?_)))
   rw[Ah h1,h3,h2];rfl
  .rename_i i len
   simp only;split
   .rename_i k hk
    refine W5 (λhx=>?_) (λ_=>Zv);refine Zs Yo (λ_ h0=>Zs Yo (λ_ h1=>Zs Yo (λ_ h2=>Zs Yo (λ_ h3=>Yc ?_))));rw[hk,Ag,Ah ⟨hx.1,hx.2.1,by omega,hx.2.2,h1⟩,h3,<-h2,L4,Cw,h0]
   .exact Zv
  .exact Zv
 .exact Zv
def iP (c:Bool):KM Bool:=AD BS λo=>match o with
 | .t e=>AD (B8 (c=e)) λ_=>ret e
 | .k=>ret c
 | _=>fail
theorem Yu3 {c:Bool}:KP (iP c) (λe=>c=e):=by
 unfold iP;refine Zs Kp (λo _=>?_);split
 .exact Zs Yo (λ_ h=>Yc h)
 .exact Yc rfl
 .exact Zv
def QK (p:Prop) [Decidable p]:KM Unit:=AD BS λo=>match o with
 | .k=>if p then ret () else fail
 | .B8=>B8 p
 | _=>fail
theorem XO {p:Prop} [Decidable p]:KP (QK p) (λ_=>p):=by
 unfold QK;refine Zs Kp (λo _=>?_);split
 .exact W5 (λh=>Yc h) (λ_=>Zv)
 .exact Yo
 .exact Zv
def xX (op:BinOp) (k k':IntKind) (a b:Int):KM V:=
 match op with
 | .shl=>AD (QK (0<=b)) λ_=>ret (.lit (.int k (k.wrap (a*2^min b.toNat k.bits))))
 | .shr=>AD (QK (0<=b)) λ_=>ret (.lit (.int k (a.fdiv (2^min b.toNat k.bits))))
 | .quo=>if k=k' then AD (QK (b≠0)) λ_=>ret (.lit (.int k (k.wrap (a.tdiv b)))) else fail
 | .rem=>if k=k' then AD (QK (b≠0)) λ_=>ret (.lit (.int k (a.tmod b))) else fail
 | op=>opt (Mc op k k' a b)
theorem Y7x {op:BinOp} {k k':IntKind} {a b:Int}:KS (xX op k k' a b) (Mc op k k' a b):=by
 unfold xX;split
 .refine Zs XO (λ_ h=>Yc ?_)
  simp only[Mc];rw[Ai (by omega)]
 .refine Zs XO (λ_ h=>Yc ?_)
  simp only[Mc];rw[Ai (by omega)]
 .refine W5 (λhk=>Zs XO (λ_ h=>Yc ?_)) (λ_=>Zv)
  simp only[Mc];rw[Ah hk,Ai h]
 .refine W5 (λhk=>Zs XO (λ_ h=>Yc ?_)) (λ_=>Zv)
  simp only[Mc];rw[Ah hk,Ai h]
 .exact NM
def xY (op:BinOp) (a b:ByteArray):KM V:=
 match op with
 | .add=>AD (QK (¬((a.size+b.size:Nat):Int) > IntKind.i64.max)) λ_=>ret (.lit (.string (a++b)))
 | op=>opt (I5 op a b)
theorem Y89 {op:BinOp} {a b:ByteArray}:KS (xY op a b) (I5 op a b):=by
 unfold xY;split
 .refine Zs XO (λ_ h=>Yc ?_)
  simp only[I5];rw[Ai h]
 .exact NM
def Dk (P:Program) (M:X2) (f:Operand->V) (s:St) (k:Nat) (o:Oper):KM (V×St):=
 match o.op with
 | .binOp op t x y yt=>match f x,f y with
  | .lit (.int k1 a),.lit (.int k2 b)=>AD (xX op k1 k2 a b) λv=>ret (v,s)
  | .lit (.string a),.lit (.string b)=>AD (xY op a b) λv=>ret (v,s)
  | .lit (.bool a),.lit (.bool b)=>match op,P.underlying t with
   | .eql,some .bool=>ret (.lit (.bool (a == b)),s)
   | .neq,some .bool=>ret (.lit (.bool (a != b)),s)
   | _,_=>fail
  | .agg xs,.agg ys=>if (EE xs).isSome=true/\(EE ys).isSome=true/\QF P t xs=true then AD (opt (FK xs ys)) λb=>match op with
   | .eql=>ret (.lit (.bool b),s)
   | .neq=>ret (.lit (.bool (!b)),s)
   | _=>fail
   else fail
  | a,.lit (.slice none 0 0)=>match a with
   | .sl ..|.tr _|.vw _=>if (Qo P t).isSome=true then AD (IE s a) λrows=>AD (B8 (rows≠[])) λ_=>match op with
    | .eql=>ret (.lit (.bool false),s)
    | .neq=>ret (.lit (.bool true),s)
    | _=>fail
    else fail
   | _=>opt (Xj P M Xx f s k o)
  | _,_=>opt (Xj P M Xx f s k o)
 | .buildSlice t n parts=>AD (opt (Qo P t)) λe=>AD (opt (if n*Z2 P e=0 then some [] else EZ P e)) λz=>
  if Z2 P e=0\/n*Z2 P e > 1048576\/LD P e=false then fail else
  AD (opt (HX P (λi=>some (i*Z2 P e,Z2 P e)) (List.replicate n z).flatten (parts.toList.map λp=>(p.1,f p.2)))) λcs=>
   AD (xR (HY (Z2 P e) n cs) s) λy=>ret (.sl (s.ep,1024*k) 0 n,y.2.2.A5 (s.ep,1024*k) ⟨false,true,y.2.1,e,y.1⟩)
 | .pick c a b=>match f c with
  | .lit (.bool t)=>AD (iP t) λe=>if e then ret (f a,s) else ret (f b,s)
  | _=>fail
 | .indexAddr t x ix=>AD (opt (Qo P t)) λe=>if Z2 P e=0 then fail else AD BS λq=>match q with
  | .row n r=>if r.length=Z2 P e then AD (B8 (Wv (f ix)=some n)) λ_=>match f x with
   | .sl i off len=>AD (B8 (n < len)) λ_=>match s.heap i with
    | some b=>AD (B8 (b.rows[ID off n]?=some r)) λ_=>ret (.ptr i (ID off n) 0,s)
    | none=>fail
   | .tr rows=>AD (B8 (rows[n]?=some r)) λ_=>ret (.rp true r 0,s)
   | .vw rows=>AD (B8 (rows[n]?=some r)) λ_=>ret (.rp false r 0,s)
   | _=>fail
   else fail
  | _=>fail
 | .load t a=>match f a with
  | .ptr i j n=>match s.heap i with
   | some b=>match b.box with
    | true=>opt (Xj P M Xx f s k o)
    | false=>AD BS λq=>match q with
     | .cell row=>AD (B8 (b.rows[j]?=some row)) λ_=>if n+Z2 P t<=row.length then AD (opt (JO P t ((row.drop n).take (Z2 P t)))) λv=>ret (v,s) else fail
     | _=>fail
   | none=>fail
  | _=>opt (Xj P M Xx f s k o)
 | .store t a x=>match f a with
  | .ptr i j n=>match s.heap i with
   | some b=>match b.box with
    | true=>opt (Xj P M Xx f s k o)
    | false=>AD BS λq=>match q with
     | .put row R=>AD (B8 (b.rows[j]?=some row)) λ_=>AD (opt (LB (f x))) λcs=>if b.own=true/\cs.length=Z2 P t/\n+Z2 P t<=row.length/\Z2 P t≠0 then
       AD (Mm cs s) λy=>match y.2.2.heap i with
        | some b=>AD (B8 (b.rows.set j (Dg row n y.1)=R)) λ_=>ret (.undef,y.2.2.A5 i ⟨b.box,b.own,b.cl&&y.2.1,b.el,R⟩)
        | none=>fail
       else fail
     | _=>fail
   | none=>fail
  | _=>fail
 | .slice t x lo hi none=>match f x with
  | .sl id off len=>AD BS λq=>match q with
   | .num l h n R=>AD (opt (Qo P t)) λe=>AD (IE s (f x)) λrows=>AD (B8 (match lo with|some z=>Wv (f z)=some l|none=>l=0)) λ_=>AD (B8 (match hi with|some z=>Wv (f z)=some h|none=>rows.length=h)) λ_=>
    AD (B8 (l<=h/\h<=rows.length)) λ_=>AD (B8 (GZ (Z2 P e) rows=true)) λ_=>AD (B8 (n=h - l)) λ_=>if Z2 P e≠0 then ret (.sl id (ID off l) n,s) else fail
   | _=>fail
  | .tr _|.vw _=>AD BS λq=>match q with
   | .num l h n R=>AD (opt (Qo P t)) λe=>AD (IE s (f x)) λrows=>AD (B8 (match lo with|some z=>Wv (f z)=some l|none=>l=0)) λ_=>AD (B8 (match hi with|some z=>Wv (f z)=some h|none=>rows.length=h)) λ_=>
    AD (B8 (l<=h/\h<=rows.length)) λ_=>AD (B8 (GZ (Z2 P e) rows=true)) λ_=>AD (B8 ((rows.drop l).take (h - l)=R)) λ_=>if Z2 P e≠0 then ret ((match f x with|.tr _=>.tr R|_=>.vw R),s) else fail
   | _=>fail
  | .lit (.string b)=>match P.underlying t with
   | some .string=>AD BS λq=>match q with
    | .val (.lit (.string c))=>AD (B8 (PU b (lo.map f) (hi.map f)=some c)) λ_=>ret (.lit (.string c),s)
    | _=>fail
   | _=>fail
  | _=>opt (Xj P M Xx f s k o)
 | .index t x ix=>match f x with
  | .lit (.string b)=>match P.underlying t with
   | some .string=>AD BS λq=>match q with
    | .val (.lit (.int _ m))=>AD (B8 (I6 b (f ix)=some m)) λ_=>ret (.lit (.int .u8 m),s)
    | _=>fail
   | _=>fail
  | _=>opt (Xj P M Xx f s k o)
 | .convert src dst x=>match f x with
  | .sl ..|.tr _|.vw _=>match P.underlying src,P.underlying dst with
   | some (.slice e),some .string=>match P.underlying e with
    | some (.int .u8)=>AD (IE s (f x)) λrows=>AD BS λq=>match q with
     | .val (.lit (.string c))=>AD (B8 (Md rows=some c)) λ_=>ret (.lit (.string c),s)
     | _=>fail
    | _=>fail
   | _,_=>fail
  | _=>opt (Xj P M Xx f s k o)
 | .makeSlice t l c=>AD BS λq=>match q with
  | .mk n R=>AD (opt (Qo P t)) λe=>AD (opt (EZ P e)) λz=>AD (B8 (Wv (f l)=some n)) λ_=>AD (B8 (Wv (f c)=some n)) λ_=>AD (B8 (n*P.bytesOf e<=70368744177664/\n<=9223372036854775807)) λ_=>
   AD (B8 (List.replicate n (z.map EF)=R)) λ_=>if z.length=Z2 P e/\Z2 P e≠0 then ret (.sl (s.ep,1024*k) 0 R.length,s.A5 (s.ep,1024*k) ⟨false,true,true,e,R⟩) else fail
  | _=>fail
 | .call c=>match c.callee with
  | .value g=>match f g with
   | .fn g Bu=>xV P M s k g (c.args.toList.map f++Bu)
   | _=>fail
  | .builtin .append=>match c.args.toList,c.argTypes.toList with
   | [b,x],[t,t']=>if t=t' then QJ P (M.mv o.pos) s (s.ep,1024*k) t (f b) (f x) else fail
   | _,_=>fail
  | .builtin .len=>match c.args.toList,c.argTypes.toList with
   | [x],[t]=>match f x with
    | .sl _ _ n=>AD BS λq=>match q with
     | .num m _ _ _=>AD (B8 (n=m)) λ_=>if (Qo P t).isSome=true then ret (.lit (.int .i64 m),s) else fail
     | _=>fail
    | .tr rows|.vw rows=>AD BS λq=>match q with
     | .num m _ _ _=>AD (B8 (rows.length=m)) λ_=>if (Qo P t).isSome=true then ret (.lit (.int .i64 m),s) else fail
     | _=>fail
    | _=>opt (Xj P M Xx f s k o)
   | _,_=>fail
  | .builtin .clear=>match c.args.toList,c.argTypes.toList with
   | [x],[t]=>AD (opt (Qo P t)) λe=>AD (opt (EZ P e)) λz=>match f x with
    | .sl i off n=>match s.heap i with
     | some b=>AD BS λq=>match q with
      | .app R _ _ _=>if b.own=true/\b.box=false/\b.el=e/\z.length=Z2 P e/\Z2 P e≠0 then AD (B8 (off+n<=b.rows.length)) λ_=>
        AD (B8 (b.rows.take off++List.replicate n (z.map EF)++b.rows.drop (off+n)=R)) λ_=>ret (.AW [],s.A5 i ⟨b.box,b.own,b.cl,b.el,R⟩) else fail
      | _=>fail
     | none=>fail
    | _=>fail
   | _,_=>fail
  | _=>opt (Xj P M Xx f s k o)
 | _=>opt (Xj P M Xx f s k o)
end
section
variable {P:Program} {M:X2}
def Hi (P:Program) (M:X2) (f:Operand->V) (s:St) (k:Nat) (o:Oper) (y:V×St):Prop:=∃C,HB P M C/\Xj P M C f s k o=some y
theorem HD (hP:X7 P) {f:Operand->V} {s:St} {k:Nat} {o:Oper}:KP (opt (Xj P M Xx f s k o)) (Hi P M f s k o):=Fq.mono λy h=>⟨Xx,Wf hP,h⟩
theorem Y5q (hP:X7 P) {f:Operand->V} {s:St} {k:Nat} {d:Option Tmp} {ty t yt:TypeId} {pos:String} {af:Array Edge} {g:Option (Nat×Bool)} {op:BinOp} {x y:Operand}:KP (Dk P M f s k ⟨d,.binOp op t x y yt,ty,pos,af,g⟩) (Hi P M f s k ⟨d,.binOp op t x y yt,ty,pos,af,g⟩):=by
 have base:∀{v:V},EL P op t x y (f x) (f y)=some v->(∃a b,f x=.lit a/\f y=.lit b)->Xj P M Xx f s k ⟨d,.binOp op t x y yt,ty,pos,af,g⟩=some (v,s):=λ{v} h ⟨a,b,h1,h2⟩=>by
  have e:W6 P f ⟨d,.binOp op t x y yt,ty,pos,af,g⟩=some v:=by rw[Y5r];exact h
  simp only[Xj,h1,h2,e,D8]
 have NN:∀{v:V},EL P op t x y (f x) (f y)=some v->(∃a b,f x=.agg a/\f y=.agg b)->Xj P M Xx f s k ⟨d,.binOp op t x y yt,ty,pos,af,g⟩=some (v,s):=λ{v} h ⟨a,b,h1,h2⟩=>by
  have e:W6 P f ⟨d,.binOp op t x y yt,ty,pos,af,g⟩=some v:=by rw[Y5r];exact h
  simp only[Xj,h1,h2,e,D8]
 simp only[Dk];split
 .rename_i k1 a k2 b h1 h2
  refine Zs Y7x (λv hv=>Yc ⟨Xx,Wf hP,base ?_ ⟨_,_,h1,h2⟩⟩);rw[h1,h2,Y9p];exact hv
 .rename_i a b h1 h2
  refine Zs Y89 (λv hv=>Yc ⟨Xx,Wf hP,base ?_ ⟨_,_,h1,h2⟩⟩);rw[h1,h2,Y71];exact hv
 .rename_i a b h1 h2
  split
  .rename_i h3
   refine Yc ⟨Xx,Wf hP,base ?_ ⟨_,_,h1,h2⟩⟩;rw[h1,h2,Y78 h3]
  .rename_i h3
   refine Yc ⟨Xx,Wf hP,base ?_ ⟨_,_,h1,h2⟩⟩;rw[h1,h2,Y9d h3]
  .exact Zv
 .rename_i xs ys h1 h2
  refine W5 (λhc=>Zs Fq (λb hb=>?_)) (λ_=>Zv);split
  .exact Yc ⟨Xx,Wf hP,NN (by rw[h1,h2,Y6m hc.1 hc.2.1 hc.2.2 hb]) ⟨_,_,h1,h2⟩⟩
  .exact Yc ⟨Xx,Wf hP,NN (by rw[h1,h2,Y68 hc.1 hc.2.1 hc.2.2 hb]) ⟨_,_,h1,h2⟩⟩
  .exact Zv
 .rename_i hy
  split
  all_goals first
   | exact HD hP
   | (
     rename_i hx;refine W5 (λhe=>Zs KO (λrows hr=>Zs Yo (λ_ hn=>?_))) (λ_=>Zv);obtain⟨r,l,rfl⟩:=List.exists_cons_of_ne_nil hn;have hf:¬(Qo P t).isSome=false:=by rw[he];decide
     split
     .exact Yc ⟨Xx,Wf hP,by simp only[Xj,hx,hy];rw[Ai hf];rw[hx] at hr;rw[hr]⟩
     .exact Yc ⟨Xx,Wf hP,by simp only[Xj,hx,hy];rw[Ai hf];rw[hx] at hr;rw[hr]⟩
     .exact Zv)
 .exact HD hP
theorem Yom (hP:X7 P) {f:Operand->V} {s:St} {k:Nat} {d:Option Tmp} {ty t:TypeId} {pos:String} {af:Array Edge} {g:Option (Nat×Bool)} {n:Nat} {parts:Array (Nat×Operand)}:KP (Dk P M f s k ⟨d,.buildSlice t n parts,ty,pos,af,g⟩) (Hi P M f s k ⟨d,.buildSlice t n parts,ty,pos,af,g⟩):=by
 simp only[Dk];refine Zs Fq (λe he=>Zs Fq (λz hz=>W5 (λ_=>Zv) (λhc=>Zs Fq (λcs BO=>Zs Ytl (λy hy=>Yc ⟨Xx,Wf hP,?_⟩)))));simp only[Xj,he,Ag,hz];rw[Ai hc,BO,Ag,hy];rfl
theorem Y8x (hP:X7 P) {f:Operand->V} {s:St} {k:Nat} {d:Option Tmp} {ty:TypeId} {pos:String} {af:Array Edge} {g:Option (Nat×Bool)} {c a b:Operand}:KP (Dk P M f s k ⟨d,.pick c a b,ty,pos,af,g⟩) (Hi P M f s k ⟨d,.pick c a b,ty,pos,af,g⟩):=by
 simp only[Dk];split
 .rename_i t hc
  refine Zs Yu3 (λe he=>?_);subst he;cases t with
  | true=>exact Yc ⟨Xx,Wf hP,by simp only[Xj,hc,if_true]⟩
  | false=>exact Yc ⟨Xx,Wf hP,by simp only[Xj,hc,Bn,if_false]⟩
 .exact Zv
theorem Yri (hP:X7 P) {f:Operand->V} {s:St} {k:Nat} {d:Option Tmp} {ty t:TypeId} {pos:String} {af:Array Edge} {g:Option (Nat×Bool)} {x ix:Operand}:KP (Dk P M f s k ⟨d,.indexAddr t x ix,ty,pos,af,g⟩) (Hi P M f s k ⟨d,.indexAddr t x ix,ty,pos,af,g⟩):=by
 simp only[Dk];refine Zs Fq (λe he=>W5 (λ_=>Zv) (λhz=>Zs Kp (λo _=>?_)));split
 .rename_i n r
  refine W5 (λhr=>Zs Yo (λ_ hn=>?_)) (λ_=>Zv);split
  .rename_i i off len hx
   refine Zs Yo (λ_ Z6=>?_);split
   .rename_i b hb
    refine Zs Yo (λ_ Xg=>Yc ⟨Xx,Wf hP,?_⟩);rw[Y0t] at Xg ⊢;simp only[Xj,he,Ag,hz,if_false,hn,hx,Z6,if_true,hb,Xg,hr]
   .exact Zv
  .rename_i rows hx
   refine Zs Yo (λ_ Xg=>Yc ⟨Xx,Wf hP,?_⟩);simp only[Xj,he,Ag,hz,if_false,hn,hx,if_true,Xg,hr]
  .rename_i rows hx
   refine Zs Yo (λ_ Xg=>Yc ⟨Xx,Wf hP,?_⟩);simp only[Xj,he,Ag,hz,if_false,hn,hx,if_true,Xg,hr]
  .exact Zv
 .exact Zv
theorem Y79 (hP:X7 P) {f:Operand->V} {s:St} {k:Nat} {d:Option Tmp} {ty t:TypeId} {pos:String} {af:Array Edge} {g:Option (Nat×Bool)} {a:Operand}:KP (Dk P M f s k ⟨d,.load t a,ty,pos,af,g⟩) (Hi P M f s k ⟨d,.load t a,ty,pos,af,g⟩):=by
 simp only[Dk];split
 .rename_i i j n ha
  split
  .rename_i b hb
   split
   .exact HD hP
   .refine Zs Kp (λo _=>?_)
    split
    .rename_i row
     refine Zs Yo (λ_ Xg=>W5 (λhl=>Zs Fq (λv hv=>Yc ⟨Xx,Wf hP,?_⟩)) (λ_=>Zv));simp only[Xj,ha,hb,Ag,Xg,hl,if_true,hv,D8]
    .exact Zv
  .exact Zv
 .exact HD hP
theorem Y5n (hP:X7 P) {f:Operand->V} {s:St} {k:Nat} {d:Option Tmp} {ty t:TypeId} {pos:String} {af:Array Edge} {g:Option (Nat×Bool)} {a x:Operand}:KP (Dk P M f s k ⟨d,.store t a x,ty,pos,af,g⟩) (Hi P M f s k ⟨d,.store t a x,ty,pos,af,g⟩):=by
 simp only[Dk];split
 .rename_i i j n ha
  split
  .rename_i b hb
   split
   .exact HD hP
   .rename_i FJ
    refine Zs Kp (λo _=>?_);split
    .rename_i row R
     refine Zs Yo (λ_ Xg=>Zs Fq (λcs BO=>W5 (λhc=>Zs Yu8 (λy hy=>?_)) (λ_=>Zv)));split
     .rename_i b2 Ew
      refine Zs Yo (λ_ hR=>Yc ⟨Xx,Wf hP,?_⟩);have fJ:b.own=true/\cs.length=Z2 P t/\n+Z2 P t<=row.length/\Z2 P t≠0:=hc;simp only[Xj,ha,hb,Ag,Xg,BO];rw[Ah fJ,FJ];simp only[Bn,if_false,hy,Ag,Ew,hR]
     .exact Zv
    .exact Zv
  .exact Zv
 .exact Zv
def xZ (x:V) (l h:Nat):Option V:=match x with
 | .sl id off _=>some (.sl id (off+l) (h - l))
 | .tr rows=>some (.tr ((rows.drop l).take (h - l)))
 | .vw rows=>some (.vw ((rows.drop l).take (h - l)))
 | _=>none
theorem x5 {s:St} {t e:TypeId} {x:V} {rows:List (List V)} {lo hi:Option Operand} {f:Operand->V} {l h:Nat} (he:Qo P t=some e) (hr:s.rowsOf x=some rows) (hl:match lo with|some z=>Wv (f z)=some l|none=>l=0) (hh:match hi with|some z=>Wv (f z)=some h|none=>rows.length=h)
  (h1:l<=h/\h<=rows.length) (h2:GZ (Z2 P e) rows=true) (h3:Z2 P e≠0):Np P s t x (lo.map f) (hi.map f)=xZ x l h:=by
 have key:∀(a b:Option Nat),a=some l->b=some h->(a.bind λl=>b.bind λh=>if l<=h/\h<=rows.length/\GZ (Z2 P e) rows=true/\Z2 P e≠0 then xZ x l h else none)=xZ x l h:=by
  rintro _ _ rfl rfl;simp only[Ag];rw[Ah ⟨h1.1,h1.2,h2,h3⟩]
 unfold Np;rw[he,Ag,hr,Ag];refine key _ _ ?_ ?_
 .cases lo with
  | none=>simp only at hl;rw[hl];rfl
  | some z=>exact hl
 .cases hi with
  | none=>simp only at hh;rw[<-hh];rfl
  | some z=>exact hh
theorem Y6j (hP:X7 P) {f:Operand->V} {s:St} {k:Nat} {d:Option Tmp} {ty t:TypeId} {pos:String} {af:Array Edge} {g:Option (Nat×Bool)} {x:Operand} {lo hi mx:Option Operand}:KP (Dk P M f s k ⟨d,.slice t x lo hi mx,ty,pos,af,g⟩) (Hi P M f s k ⟨d,.slice t x lo hi mx,ty,pos,af,g⟩):=by
 cases mx with
 | some m=>exact HD hP
 | none=>
  simp only[Dk];split
  .rename_i id off len hx
   refine Zs Kp (λo _=>?_);split
   .rename_i l h n R
    refine Zs Fq (λe he=>Zs KO (λrows hr=>Zs Yo (λ_ hl=>Zs Yo (λ_ hh=>Zs Yo (λ_ h1=>Zs Yo (λ_ h2=>Zs Yo (λ_ h4=>W5 (λh3=>Yc ⟨Xx,Wf hP,?_⟩) (λ_=>Zv))))))));simp only[Xj,x5 he hr hl hh h1 h2 h3];rw[hx,h4,Y0t];rfl
   .exact Zv
  .rename_i rws hx
   refine Zs Kp (λo _=>?_);split
   .rename_i l h n R
    refine Zs Fq (λe he=>Zs KO (λrows hr=>Zs Yo (λ_ hl=>Zs Yo (λ_ hh=>Zs Yo (λ_ h1=>Zs Yo (λ_ h2=>Zs Yo (λ_ h4=>W5 (λh3=>Yc ⟨Xx,Wf hP,?_⟩) (λ_=>Zv))))))));simp only[Xj,x5 he hr hl hh h1 h2 h3];rw[hx] at hr ⊢;have:rws=rows:=by simpa [St.rowsOf] using hr
    rw[<-h4,<-this];rfl
   .exact Zv
  .rename_i rws hx
   refine Zs Kp (λo _=>?_);split
   .rename_i l h n R
    refine Zs Fq (λe he=>Zs KO (λrows hr=>Zs Yo (λ_ hl=>Zs Yo (λ_ hh=>Zs Yo (λ_ h1=>Zs Yo (λ_ h2=>Zs Yo (λ_ h4=>W5 (λh3=>Yc ⟨Xx,Wf hP,?_⟩) (λ_=>Zv))))))));simp only[Xj,x5 he hr hl hh h1 h2 h3];rw[hx] at hr ⊢;have:rws=rows:=by simpa [St.rowsOf] using hr
    rw[<-h4,<-this];rfl
   .exact Zv
  .rename_i b hx
   split
   .rename_i ht
    refine Zs Kp (λq _=>?_);split
    .rename_i c
     refine Zs Yo (λ_ hc=>Yc ⟨Xx,Wf hP,?_⟩);simp only[Xj,hx,Y5t ht hx hc,D8]
    .exact Zv
   .exact Zv
  .exact HD hP
theorem Y6z (hP:X7 P) {f:Operand->V} {s:St} {k:Nat} {d:Option Tmp} {ty t:TypeId} {pos:String} {af:Array Edge} {g:Option (Nat×Bool)} {x ix:Operand}:KP (Dk P M f s k ⟨d,.index t x ix,ty,pos,af,g⟩) (Hi P M f s k ⟨d,.index t x ix,ty,pos,af,g⟩):=by
 simp only[Dk];split
 .rename_i b hx
  split
  .rename_i ht
   refine Zs Kp (λq _=>?_);split
   .rename_i k' m
    refine Zs Yo (λ_ hm=>Yc ⟨Xx,Wf hP,?_⟩);simp only[Xj,Y9y ht hx hm,D8]
   .exact Zv
  .exact Zv
 .exact HD hP
theorem Yya (hP:X7 P) {f:Operand->V} {s:St} {k:Nat} {d:Option Tmp} {ty src dst:TypeId} {pos:String} {af:Array Edge} {g:Option (Nat×Bool)} {x:Operand}:KP (Dk P M f s k ⟨d,.convert src dst x,ty,pos,af,g⟩) (Hi P M f s k ⟨d,.convert src dst x,ty,pos,af,g⟩):=by
 simp only[Dk];split
 all_goals first
  | exact HD hP
  | (
    rename_i hx;split
    .rename_i e h1 h2
     split
     .rename_i h3
      refine Zs KO (λrows hr=>Zs Kp (λq _=>?_));split
      .rename_i c
       refine Zs Yo (λ_ hc=>Yc ⟨Xx,Wf hP,?_⟩);unfold Md at hc;obtain⟨bs,hb,hc⟩:=AL.1 hc;rw[hx] at hr;simp only[Xj,hx,h1,h2,h3,hr,hb,Ag,D8,hc]
      .exact Zv
     .exact Zv
    .exact Zv)
theorem Yrf (hP:X7 P) {f:Operand->V} {s:St} {k:Nat} {d:Option Tmp} {ty t:TypeId} {pos:String} {af:Array Edge} {g:Option (Nat×Bool)} {l c:Operand}:KP (Dk P M f s k ⟨d,.makeSlice t l c,ty,pos,af,g⟩) (Hi P M f s k ⟨d,.makeSlice t l c,ty,pos,af,g⟩):=by
 simp only[Dk];refine Zs Kp (λo _=>?_);split
 .rename_i n R
  refine Zs Fq (λe he=>Zs Fq (λz hz=>Zs Yo (λ_ hl=>Zs Yo (λ_ hc=>Zs Yo (λ_ h1=>Zs Yo (λ_ hR=>W5 (λh2=>Yc ⟨Xx,Wf hP,?_⟩) (λ_=>Zv)))))));simp only[Xj,he,hz,Ag,hl,hc];rw[Ah ⟨by trivial,h1.1,h1.2,h2.1,h2.2⟩,hR,<-hR,eU]
 .exact Zv
theorem Y8r (hP:X7 P) {f:Operand->V} {s:St} {k:Nat} {d:Option Tmp} {ty:TypeId} {pos:String} {af:Array Edge} {g:Option (Nat×Bool)} {c:Call}:KP (Dk P M f s k ⟨d,.call c,ty,pos,af,g⟩) (Hi P M f s k ⟨d,.call c,ty,pos,af,g⟩):=by
 simp only[Dk];split
 .rename_i x hc
  split
  .rename_i h Bu hx
   refine (Y9z hP).mono λy ⟨C,h1,h2⟩=>⟨C,h1,?_⟩;simp only[Xj,hc,hx,h2]
  .exact Zv
 .rename_i hc
  split
  .rename_i b x t t' ha ht
   refine W5 (λhe=>Xbw.kp.mono λy hy=>⟨Xx,Wf hP,?_⟩) (λ_=>Zv);simp only[Xj,hc,ha,ht,he,if_true];rw[<-he];exact hy
  .exact Zv
 .rename_i hc
  split
  .rename_i x t ha ht
   split
   .rename_i i off n hx
    refine Zs Kp (λo _=>?_);split
    .refine Zs Yo (λ_ hn=>W5 (λhe=>Yc ⟨Xx,Wf hP,?_⟩) (λ_=>Zv))
     simp only[Xj,hc,ha,ht,hx,he,if_true,hn]
    .exact Zv
   .rename_i rows hx
    refine Zs Kp (λo _=>?_);split
    .refine Zs Yo (λ_ hn=>W5 (λhe=>Yc ⟨Xx,Wf hP,?_⟩) (λ_=>Zv))
     simp only[Xj,hc,ha,ht,hx,he,if_true,hn]
    .exact Zv
   .rename_i rows hx
    refine Zs Kp (λo _=>?_);split
    .refine Zs Yo (λ_ hn=>W5 (λhe=>Yc ⟨Xx,Wf hP,?_⟩) (λ_=>Zv))
     simp only[Xj,hc,ha,ht,hx,he,if_true,hn]
    .exact Zv
   .exact HD hP
  .exact Zv
 .rename_i hc
  split
  .rename_i x t ha ht
   refine Zs Fq (λe he=>Zs Fq (λz hz=>?_));split
   .rename_i i off n hx
    split
    .rename_i b hb
     refine Zs Kp (λo _=>?_);split
     .refine W5 (λh=>Zs Yo (λ_ h1=>Zs Yo (λ_ h2=>Yc ⟨Xx,Wf hP,?_⟩))) (λ_=>Zv)
      simp only[Xj,hc,ha,ht,hx,he,hz,hb,Ag];rw[Ah ⟨h.1,h.2.1,h1,h.2.2.1,h.2.2.2.1,h.2.2.2.2⟩,h2]
     .exact Zv
    .exact Zv
   .exact Zv
  .exact Zv
 .exact HD hP
theorem Y61 (hP:X7 P) {f:Operand->V} {s:St} {k:Nat} {o:Oper}:KP (Dk P M f s k o) (Hi P M f s k o):=by
 obtain⟨d,op,ty,pos,af,g⟩:=o;cases op with
 | binOp op t x y yt=>exact Y5q hP
 | pick c a b=>exact Y8x hP
 | buildSlice t n parts=>exact Yom hP
 | indexAddr t x ix=>exact Yri hP
 | load t a=>exact Y79 hP
 | store t a x=>exact Y5n hP
 | slice t x lo hi mx=>exact Y6j hP
 | makeSlice t l c=>exact Yrf hP
 | index t x ix=>exact Y6z hP
 | convert src dst x=>exact Yya hP
 | call c=>exact Y8r hP
 | _=>simp only[Dk];exact HD hP
def iQ (s:St) (ops:Array Oper) (o:Oper):KM (Bool×St):=
 match o.guard with
 | none=>ret (true,s)
 | some (j,b)=>match (ops[j]?).bind (·.dst) with
  | some d=>match s.env d with
   | .lit (.bool c)=>AD BS λo=>match o with
    | .t e=>AD (B8 (c=e)) λ_=>ret (e == b,⟨Bi s.env d (.lit (.bool e)),s.heap,s.ep⟩)
    | .k=>ret (c == b,s)
    | _=>fail
   | .AW []=>ret (false,s)
   | _=>fail
  | none=>fail
theorem Ypi {s:St} {ops:Array Oper} {o:Oper}:KP (iQ s ops o) (λy=>wanted s ops o=some y.1/\y.2=s):=by
 unfold iQ wanted;cases o.guard with
 | none=>exact Yc ⟨rfl,rfl⟩
 | some p=>
  obtain⟨j,b⟩:=p;simp only;cases hd:(ops[j]?).bind (·.dst) with
  | none=>exact Zv
  | some d=>
   simp only[D8];cases he:s.env d with
   | lit v=>cases v with
    | bool c=>
     refine Zs Kp (λq _=>?_);cases q with
     | t e=>
      refine Zs Yo (λ_ hc=>Yc ⟨by subst hc;rfl,?_⟩);have:Bi s.env d (.lit (.bool e))=s.env:=by
       funext t
       unfold Bi;split
       .rename_i h;rw[h,he,hc]
       .rfl
      rw[this]
     | k=>exact Yc ⟨rfl,rfl⟩
     | _=>exact Zv
    | _=>exact Zv
   | AW l=>cases l with
    | nil=>exact Yc ⟨rfl,rfl⟩
    | cons x l=>exact Zv
   | _=>exact Zv
def IF (P:Program) (M:X2) (ops:Array Oper):(k:Nat)->List Oper->(s:St)->KM St
 | _,[],s=>ret s
 | k,o::rest,s=>AD (iQ s ops o) λg=>if g.1 then AD (Dk P M g.2.AP g.2 k o) λy=>IF P M ops (k+1) rest (y.2.put o.dst y.1) else IF P M ops (k+1) rest (g.2.put o.dst (.AW []))
theorem Yzi {C C':Nat->Kf} {ops:Array Oper}:∀(l:List Oper) {k:Nat} {s:St},(∀j,k<=j->C j=C' j)->FG P M C ops s k l=FG P M C' ops s k l:=by
 intro l
 induction l with
 | nil=>intros;rfl
 | cons o l ih=>
  intro k s h;simp only[FG,h k (B4 _)];simp only[λs=>ih (k:=k+1) (s:=s) (λj hj=>h j (by omega))]
theorem Yvj {C C':Nat->Kf} {ops:Array Oper}:∀(l:List Oper) {k:Nat} {s:St} {recs:List Rec},(∀j,k<=j->C j=C' j)->Fb P M C ops s recs k l=Fb P M C' ops s recs k l:=by
 intro l
 induction l with
 | nil=>intros;rfl
 | cons o l ih=>
  intro k s recs h;simp only[Fb,h k (B4 _)];simp only[λs recs=>ih (k:=k+1) (s:=s) (recs:=recs) (λj hj=>h j (by omega))]
def NO (C:Nat->Kf) (k:Nat) (D:Kf):Nat->Kf:=λj=>if j=k then D else C j
theorem Xbq (hP:X7 P) {ops:Array Oper}:∀(l:List Oper) {k:Nat} {s:St},KP (IF P M ops k l s) (λs'=>∃C:Nat->Kf,(∀j,HB P M (C j))/\FG P M C ops s k l=some s'):=by
 intro l
 induction l with
 | nil=>intro k s;exact Yc ⟨λ_=>Xx,λ_=>Wf hP,rfl⟩
 | cons o l ih=>
  intro k s;simp only[IF,FG];refine Zs Ypi (λg hg=>?_);obtain⟨g,s0⟩:=g;obtain⟨hg,Qu⟩:=hg;simp only at hg Qu;subst Qu;cases g with
  | true=>
   simp only[if_true];refine Zs (Y61 hP) (λy hy=>ih.mono λs' ⟨C,h1,h2⟩=>?_);obtain⟨D,d1,d2⟩:=hy;refine⟨NO C k D,λj=>?_,?_⟩
   .unfold NO;split
    .exact d1
    .exact h1 j
   .rw[hg]
    simp only[Ag,if_true,NO];unfold Ib;rw[d2,Ag,<-h2];exact Yzi l (λj hj=>by simp only[NO];rw[Ai (by omega)])
  | false=>
   simp only[Bn,if_false];refine ih.mono λs' ⟨C,h1,h2⟩=>⟨C,h1,?_⟩;rw[hg];exact h2
def XP (P:Program) (M:X2) (ops:Array Oper):(recs:List Rec)->(k:Nat)->List Oper->(s:St)->KM St
 | _,_,[],s=>ret s
 | recs,k,o::rest,s=>AD (iQ s ops o) λg=>if g.1 then (if LF ops g.2.ep recs (JR recs o) k o (BV g.2 o) (Ic M g.2.AP o)=true then
   AD (Dk P M g.2.AP (g.2.only (BV g.2 o)) k o) λy=>XP P M ops (recs++[⟨JR recs o,BV g.2 o,Ic M g.2.AP o⟩]) (k+1) rest ((g.2.merge k (BV g.2 o) (Ic M g.2.AP o) y.2).put o.dst y.1) else fail)
  else if LF ops g.2.ep recs (JR recs o) k o [] false=true then XP P M ops (recs++[⟨JR recs o,[],false⟩]) (k+1) rest (g.2.put o.dst (.AW [])) else fail
theorem Y9e (hP:X7 P) {ops:Array Oper}:∀(l:List Oper) {k:Nat} {s:St} {recs:List Rec},KP (XP P M ops recs k l s) (λs'=>∃C:Nat->Kf,(∀j,HB P M (C j))/\Fb P M C ops s recs k l=some s'):=by
 intro l
 induction l with
 | nil=>intro k s recs;exact Yc ⟨λ_=>Xx,λ_=>Wf hP,rfl⟩
 | cons o l ih=>
  intro k s recs;simp only[XP,Fb];refine Zs Ypi (λg hg=>?_);obtain⟨g,s0⟩:=g;obtain⟨hg,Qu⟩:=hg;simp only at hg Qu;subst Qu;cases g with
  | true=>
   simp only[if_true];refine W5 (λha=>Zs (Y61 hP) (λy hy=>ih.mono λs' ⟨C,h1,h2⟩=>?_)) (λ_=>Zv);obtain⟨D,d1,d2⟩:=hy;refine⟨NO C k D,λj=>?_,?_⟩
   .unfold NO;split
    .exact d1
    .exact h1 j
   .rw[hg]
    simp only[Ag,if_true,NO,ha];rw[d2,Ag,<-h2];exact Yvj l (λj hj=>by simp only[NO];rw[Ai (by omega)])
  | false=>
   simp only[Bn,if_false];refine W5 (λha=>ih.mono λs' ⟨C,h1,h2⟩=>⟨C,h1,?_⟩) (λ_=>Zv);rw[hg];simp only[Ag,Bn,if_false,ha,if_true];exact h2
end
inductive It where
 | c (x:Code)
 | Bl (i:Nat)
def SX (P:Program) (R:Ex->St->Prop):List It->Ex->St->Prop
 | [],e,s=>R e s
 | .c x::k,.normal,s=>Cx P x s (λe s=>SX P R k e s)
 | .c x::k,.ret,s=>SX P R k .ret s
 | .c x::k,.exit j,s=>SX P R k (.exit j) s
 | .Bl i::k,.exit j,s=>if j=i then SX P R k .normal s else SX P R k (.exit j) s
 | .Bl i::k,.normal,s=>SX P R k .normal s
 | .Bl i::k,.ret,s=>SX P R k .ret s
structure x6 where
 BK:List It
 ex:Ex
 st:St
def Ea (P:Program) (M:X2):(n:Nat)->List It->Ex->(s:St)->KM x6
 | 0,BK,ex,s=>ret ⟨BK,ex,s⟩
 | n+1,BK,ex,s=>match BK with
  | []=>ret ⟨[],ex,s⟩
  | .Bl i::k=>match ex with
   | .exit j=>if j=i then Ea P M n k .normal s else Ea P M n k (.exit j) s
   | .normal=>Ea P M n k .normal s
   | .ret=>Ea P M n k .ret s
  | .c x::k=>match ex with
   | .ret=>Ea P M n k .ret s
   | .exit j=>Ea P M n k (.exit j) s
   | .normal=>match x with
    | .skip=>Ea P M n k .normal s
    | .ret=>Ea P M n k .ret s
    | .exit i=>Ea P M n k (.exit i) s
    | .seq a b=>Ea P M n (.c a::.c b::k) .normal s
    | .cond c a b=>match s.AP c with
     | .lit (.bool t)=>AD (iP t) λe=>if e then Ea P M n (.c a::k) .normal s else Ea P M n (.c b::k) .normal s
     | _=>fail
    | .block i c=>Ea P M n (.c c::.Bl i::k) .normal s
    | .loop c=>Ea P M n (.c c::.c (.loop c)::k) .normal s
    | .region _ ops d=>match d with
     | false=>AD (IF P M ops 0 ops.toList ⟨s.env,s.heap,s.ep+1⟩) λs'=>Ea P M n k .normal s'
     | true=>if Region.noSelect ops=true then AD (XP P M ops [] 0 ops.toList ⟨s.env,s.heap,s.ep+1⟩) λs'=>Ea P M n k .normal s' else fail
    | _=>fail
section
variable {P:Program} {M:X2} {R:Ex->St->Prop}
theorem Xbm (M:X2) (hP:X7 P) {k:List It} {S:St} {i:Nat} {d0 d1:Tmp} {x0 y:Operand} {t yt e QA KI:TypeId} {p0 p1:String} {QB KJ:Array Edge} (Qt:Qo P t=some e) (hx:S.AP x0=.tr []) (hy:(({S with ep:=S.ep+1}:St).put (some d0) (.tr [])).AP y=.lit (.slice none 0 0))
  (h:∀b,SX P R k .normal ((({S with ep:=S.ep+1}:St).put (some d0) (.tr [])).put (some d1) (.lit (.bool b)))):
  SX P R (.c (.region i #[⟨some d0,.move x0,QA,p0,QB,none⟩,⟨some d1,.binOp .eql t (.tmp d0) y yt,KI,p1,KJ,none⟩] false)::k) .normal S:=
 Xbc M hP (R:=λe s=>SX P R k e s) Qt hx hy h
def Y66:List It->Option (Operand×Tmp×Tmp×TypeId×Operand×List It)
 | .c (.region _ ops false)::k=>match ops.toList with
  | [⟨some d0,.move x0,_,_,_,none⟩,⟨some d1,.binOp .eql t (.tmp d) y _,_,_,_,none⟩]=>if d=d0 then some (x0,d0,d1,t,y,k) else none
  | _=>none
 | _=>none
theorem iR (M:X2) (hP:X7 P) {BK k:List It} {S:St} {d0 d1:Tmp} {x0 y:Operand} {t e:TypeId} (hs:Y66 BK=some (x0,d0,d1,t,y,k)) (Qt:Qo P t=some e) (hx:S.AP x0=.tr []) (hy:(({S with ep:=S.ep+1}:St).put (some d0) (.tr [])).AP y=.lit (.slice none 0 0))
  (h:∀b,SX P R k .normal ((({S with ep:=S.ep+1}:St).put (some d0) (.tr [])).put (some d1) (.lit (.bool b)))):SX P R BK .normal S:=by
 unfold Y66 at hs;split at hs
 .rename_i i ops k'
  split at hs
  .rename_i c0 z0 QA p0 QB c1 u d z yt KI p1 KJ hl
   split at hs
   .rename_i hd
    simp only[AE,A6] at hs;obtain⟨rfl,rfl,rfl,rfl,rfl,rfl⟩:=hs;subst hd;obtain rfl:ops=#[⟨some d,.move z0,QA,p0,QB,none⟩,⟨some c1,.binOp .eql u (.tmp d) z yt,KI,p1,KJ,none⟩]:=by
     apply Array.toList_inj.1;rw[hl]
    exact Xbm M hP Qt hx hy h
   .cases hs
  .cases hs
 .cases hs
theorem Xap (hP:X7 P):∀(n:Nat) {BK:List It} {ex:Ex} {s:St},KP (Ea P M n BK ex s) (λr=>SX P R r.BK r.ex r.st->SX P R BK ex s):=by
 intro n
 induction n with
 | zero=>intro BK ex s;exact Yc id
 | succ n ih=>
  intro BK ex s;simp only[Ea];split
  .exact Yc id
  .rename_i i k
   split
   .rename_i j
    refine W5 (λhj=>ih.mono λr hr h=>?_) (λhj=>ih.mono λr hr h=>?_)
    .simp only[SX];rw[Ah hj];exact hr h
    .simp only[SX];rw[Ai hj];exact hr h
   .exact ih.mono λr hr h=>hr h
   .exact ih.mono λr hr h=>hr h
  .rename_i x k
   split
   .exact ih.mono λr hr h=>hr h
   .exact ih.mono λr hr h=>hr h
   .split
    .exact ih.mono λr hr h=>Xb2 (hr h)
    .exact ih.mono λr hr h=>PW (hr h)
    .exact ih.mono λr hr h=>Xay (hr h)
    .refine ih.mono λr hr h=>PX (wQ (hr h) λe s h=>?_)
     cases e<;>exact h
    .rename_i c a b
     split
     .rename_i t hc
      refine Zs Yu3 (λe he=>?_);subst he;cases t with
      | true=>exact ih.mono λr hr h=>Y0v hc (hr h)
      | false=>exact ih.mono λr hr h=>Y0v hc (hr h)
     .exact Zv
    .rename_i i c
     refine ih.mono λr hr h=>Y88 (wQ (hr h) λe s h=>?_);cases e<;>exact h
    .rename_i c
     refine ih.mono λr hr h=>Xa6 (wQ (hr h) λe s h=>?_);cases e<;>exact h
    .rename_i i ops d
     split
     .refine Zs (Xbq hP _) (λs' hs=>ih.mono λr hr h=>?_)
      obtain⟨C,h1,h2⟩:=hs;exact PZ hP C h1 h2 (hr h)
     .refine W5 (λhn=>Zs (Y9e hP _) (λs' hs=>ih.mono λr hr h=>?_)) (λ_=>Zv)
      obtain⟨C,h1,h2⟩:=hs;exact Xa9 hP C h1 hn h2 (hr h)
    .exact Zv
theorem Yva (hP:X7 P) (n:Nat) {BK:List It} {ex:Ex} {s:St}:KP (Ea P M n BK ex s) (λr=>∀R,SX P R r.BK r.ex r.st->SX P R BK ex s):=λq a E1 q' e ho R=>Xap hP n q a E1 q' e ho
def XQ (P:Program) (M:X2) (f:FuncId) (fn:Func) (xs:List V) (r:x6):KM (V×List V):=match r.BK with
 | []=>match r.ex with
  | .exit _=>fail
  | .normal=>QI P M f fn xs r.st
  | .ret=>QI P M f fn xs r.st
 | _=>fail
def runK (P:Program) (M:X2) (f:FuncId) (fn:Func) (xs:List V) (n:Nat) (BK:List It) (s:St):KM (V×List V):=
 AD (Ea P M n BK .normal s) (XQ P M f fn xs)
theorem Xbt (hP:X7 P) {f:FuncId} {fn:Func} {xs:List V} {n:Nat} {BK:List It} {s:St}:KP (runK P M f fn xs n BK s) (λy=>SX P (QD P M f fn xs y) BK .normal s):=by
 refine Zs (Yva hP n) (λr hr=>?_);obtain⟨st,ex,s1⟩:=r;unfold XQ;cases st with
 | cons x l=>exact Zv
 | nil=>cases ex with
  | exit i=>exact Zv
  | normal=>exact Y02.kp.mono λy hy=>hr _ ⟨trivial,hy⟩
  | ret=>exact Y02.kp.mono λy hy=>hr _ ⟨trivial,hy⟩
def NP {α:Type} (x:Option (α×List Prop×List O)):Option (Prop×α):=match x with|some (a,E1,[])=>some (NL E1,a)|_=>none
theorem Y0s {α:Type} {x:KM α} {q:List O} {Q:α->Prop} {p:Prop} {a:α} (h:KP x Q) (e:NP (x q)=some (p,a)) (hp:p):Q a:=by
 unfold NP at e;split at e
 .rename_i b E1 hx
  injection e with e;injection e with e1 e2;subst e2;exact h q _ _ _ hx (by rw[e1];exact hp)
 .cases e
theorem Y0x (hP:X7 P) {f:FuncId} {fn:Func} {xs:List V} {y:V×List V} {BK:List It} {s:St} {p:Prop} (n:Nat) (q:List O) (hp:p) (e:NP (runK P M f fn xs n BK s q)=some (p,y)):SX P (QD P M f fn xs y) BK .normal s:=
 Y0s (x:=runK P M f fn xs n BK s) (Q:=λy=>SX P (QD P M f fn xs y) BK .normal s) (Xbt hP) e hp
def E2 (f:List (Id×Id)):V->V
 | .ptr id i off=>match CZ f id with|some Aw=>.ptr Aw i off|none=>.undef
 | .sl id off len=>match CZ f id with|some Aw=>.sl Aw off len|none=>(match off,len with|0,0=>.lit (.slice none 0 0)|_,_=>.undef)
 | .lit v=>.lit v
 | .tr rows=>.tr rows
 | .vw rows=>.vw rows
 | .rp sh row off=>.rp sh row off
 | _=>.undef
def Mp (f:List (Id×Id)):V->V
 | .agg xs=>.agg (xs.map (E2 f))
 | .AW xs=>.AW (xs.map (E2 f))
 | .fn g xs=>.fn g (xs.map (E2 f))
 | x=>E2 f x
theorem x7 {f:List (Id×Id)} {x:V} (h:E2 f x≠.undef\/x=.undef):Da f x (E2 f x):=by
 cases x with
 | undef=>trivial
 | ptr id i off=>
  simp only[E2] at h ⊢;split
  .rename_i Aw hr;exact⟨hr,rfl,rfl⟩
  .rename_i hr;rw[hr] at h;simp at h
 | sl id off len=>
  simp only[E2] at h ⊢;split
  .rename_i Aw hr;exact⟨hr,rfl,rfl⟩
  .rename_i hr
   rw[hr] at h;simp only at h;split
   .exact⟨hr,rfl,rfl⟩
   .rename_i Yh
    exfalso;split at h
    .rename_i h1 h2;exact Yh rfl rfl
    .simp at h
 | lit v=>rfl
 | tr rows=>rfl
 | vw rows=>rfl
 | rp sh row off=>rfl
 | agg _=>simp[E2] at h
 | AW _=>simp[E2] at h
 | fn _ _=>simp[E2] at h
 | own _ _=>simp[E2] at h
 | CM _=>simp[E2] at h
def XR:V->Bool|.undef=>false|_=>true
theorem QL {x:V} (h:XR x=true):x≠.undef:=by rintro rfl;cases h
theorem iS {f:List (Id×Id)}:∀{xs:List V},(xs.map (E2 f)).all XR=true->I9 f xs (xs.map (E2 f)):=by
 intro xs
 induction xs with
 | nil=>intro _;trivial
 | cons x xs ih=>
  intro h;simp only[C7,DT,Bg] at h;exact⟨x7 (.inl (QL h.1)),ih h.2⟩
def Mq:V->Bool
 | .agg xs|.AW xs|.fn _ xs=>xs.all XR
 | x=>XR x
theorem Xas {f:List (Id×Id)} {x:V} (h:Mq (Mp f x)=true):VR f x (Mp f x):=by
 cases x with
 | agg xs=>exact iS h
 | AW xs=>exact iS h
 | fn g xs=>exact⟨rfl,iS h⟩
 | undef=>trivial
 | lit v=>rfl
 | tr rows=>rfl
 | vw rows=>rfl
 | rp sh row off=>rfl
 | own e rows=>cases h
 | CM cs=>cases h
 | ptr id i off=>exact x7 (x:=.ptr id i off) (.inl λe=>by have h2:Mq (E2 f (.ptr id i off))=true:=h;rw[e] at h2;cases h2)
 | sl id off len=>exact x7 (x:=.sl id off len) (.inl λe=>by have h2:Mq (E2 f (.sl id off len))=true:=h;rw[e] at h2;cases h2)
def QM (f:List (Id×Id)) (p:Id×Bd):Option Bd:=match CZ f p.1 with
 | none=>none
 | some _=>some ⟨p.2.box,p.2.own,p.2.cl,(if p.2.box then 0 else p.2.el),if p.2.box then p.2.rows.map (λr=>r.map (E2 f)) else p.2.rows⟩
def IG (f:List (Id×Id)) (S:St) (p:Id×Bd):Option Bd:=match CZ f p.1 with
 | none=>none
 | some Aw=>(S.heap Aw).map λc=>⟨c.box,c.own,c.cl,(if c.box then 0 else c.el),c.rows⟩
def QN (f:List (Id×Id)) (p:Id×Bd):Bool:=match CZ f p.1 with
 | none=>!p.2.box&&p.2.own&&(match p.2.rows with|[]=>true|_=>false)
 | some _=>if p.2.box then (match p.2.rows with|[r]=>(r.map (E2 f)).all XR|_=>false) else true
theorem Xca {f:List (Id×Id)} {S:St} {p:Id×Bd} (h:IG f S p=QM f p) (hn:QN f p=true):BR f S p.1 p.2:=by
 obtain⟨id,b⟩:=p;unfold BR;unfold IG QM at h;unfold QN at hn;simp only at h hn ⊢;split
 .rename_i hr
  rw[hr] at hn;simp only[Bg,Ni] at hn;refine⟨hn.1.1,hn.1.2,?_⟩;cases hb:b.rows with
  | nil=>rfl
  | cons x l=>rw[hb] at hn;simp at hn
 .rename_i Aw hr
  rw[hr] at h hn;simp only at h hn;obtain⟨c,h1,h2⟩:=AL.1 h;injection h2 with e1 e2 e3 e4 e5;refine⟨c,h1,e1,e2,e3,?_⟩;cases FJ:b.box with
  | true=>
   rw[FJ] at hn e1 e5;simp only[if_true] at hn e5 ⊢;cases hb:b.rows with
   | nil=>rw[hb] at hn;cases hn
   | cons r l=>cases l with
    | cons r2 l=>rw[hb] at hn;cases hn
    | nil=>
     rw[hb] at hn e5;exact⟨r,_,rfl,e5,iS hn⟩
  | false=>
   rw[FJ] at e1 e4 e5;rw[e1] at e4;simp only[Bn,if_false] at e4 e5 ⊢;exact⟨e4,e5⟩
def QO (f:List (Id×Id)) (l:List (Nat×V)) (h:List (Id×Bd)) (S:St):List V×List (Option Bd):=(l.map λp=>S.env p.1,h.map λp=>IG f S p)
def QP (f:List (Id×Id)) (l:List (Nat×V)) (h:List (Id×Bd)):List V×List (Option Bd):=(l.map λp=>Mp f p.2,h.map λp=>QM f p)
def IH (f:List (Id×Id)) (l:List (Nat×V)) (h:List (Id×Bd)) (ep:Nat):Bool:=iC f l h ep&&(l.all λp=>Mq (Mp f p.2))&&h.all λp=>QN f p
theorem Ymg {α β:Type} {g1 g2:α->β} {l:List α} (h:l.map g1=l.map g2):∀x∈l,g1 x=g2 x:=by
 induction l with
 | nil=>intro x hx;simp at hx
 | cons y l ih=>
  simp only[C7,UP] at h;intro x hx;rcases Cj.1 hx with rfl|hx
  .exact h.1
  .exact ih h.2 x hx
theorem Xbu {f:List (Id×Id)} {l:List (Nat×V)} {h:List (Id×Bd)} {ep:Nat} {S:St} (e:QO f l h S=QP f l h) (hb:IH f l h ep=true):KN f S l h ep:=by
 simp only[QO,QP,A6] at e;simp only[IH,Bg,Cb] at hb;refine⟨λp hp=>?_,λp hp=>Xca (Ymg e.2 p hp) (hb.2 p hp),hb.1.1⟩;rw[Ymg e.1 p hp];exact Xas (hb.1.2 p hp)
def Mr:V->KM V
 | .sl id off len=>AD BS λo=>match o with
  | .num n _ _ _=>AD (B8 (len=n)) λ_=>ret (.sl id off n)
  | _=>fail
 | x=>ret x
theorem Y07 {x:V}:KP (Mr x) (λy=>y=x):=by
 unfold Mr;split
 .refine Zs Kp (λo _=>?_)
  split
  .exact Zs Yo (λ_ h=>Yc (by rw[h]))
  .exact Zv
 .exact Yc rfl
def lens:List V->KM (List V)
 | []=>ret []
 | x::xs=>AD (Mr x) λy=>AD (lens xs) λys=>ret (y::ys)
theorem x8:∀{xs:List V},KP (lens xs) (λys=>ys=xs):=by
 intro xs
 induction xs with
 | nil=>exact Yc rfl
 | cons x xs ih=>exact Zs Y07 (λy hy=>Zs ih (λys QG=>Yc (by rw[hy,QG])))
def QQ:V->KM V
 | .agg xs=>AD (lens xs) λys=>ret (.agg ys)
 | .fn g xs=>AD (lens xs) λys=>ret (.fn g ys)
 | x=>Mr x
theorem Xba {x:V}:KP (QQ x) (λy=>y=x):=by
 unfold QQ;split
 .exact Zs x8 (λy hy=>Yc (by rw[hy]))
 .exact Zs x8 (λy hy=>Yc (by rw[hy]))
 .exact Y07
def x9 (S:St):List (Nat×V)->KM (List V)
 | []=>ret []
 | p::l=>AD (QQ (S.env p.1)) λy=>AD (x9 S l) λys=>ret (y::ys)
theorem Xbh {S:St}:∀{l:List (Nat×V)},KP (x9 S l) (λys=>ys=l.map λp=>S.env p.1):=by
 intro l
 induction l with
 | nil=>exact Yc rfl
 | cons p l ih=>exact Zs Xba (λy hy=>Zs ih (λys QG=>Yc (by rw[hy,QG];rfl)))
def QR:Option Bd->KM (Option Bd)
 | some ⟨true,own,cl,el,[row]⟩=>AD (lens row) λr=>ret (some ⟨true,own,cl,el,[r]⟩)
 | x=>ret x
theorem Xaw {x:Option Bd}:KP (QR x) (λy=>y=x):=by
 unfold QR;split
 .exact Zs x8 (λr hr=>Yc (by rw[hr]))
 .exact Yc rfl
def QS (f:List (Id×Id)) (S:St):List (Id×Bd)->KM (List (Option Bd))
 | []=>ret []
 | p::l=>AD (QR (IG f S p)) λy=>AD (QS f S l) λys=>ret (y::ys)
theorem Xa4 {f:List (Id×Id)} {S:St}:∀{l:List (Id×Bd)},KP (QS f S l) (λys=>ys=l.map λp=>IG f S p):=by
 intro l
 induction l with
 | nil=>exact Yc rfl
 | cons p l ih=>exact Zs Xaw (λy hy=>Zs ih (λys QG=>Yc (by rw[hy,QG];rfl)))
def Y5s (f:List (Id×Id)) (l:List (Nat×V)) (h:List (Id×Bd)) (r:x6):KM (List It×List V×List (Option Bd)):=match r.ex with
 | .normal=>AD (x9 r.st l) λvs=>AD (QS f r.st h) λbs=>ret (r.BK,vs,bs)
 | _=>fail
def Ms (P:Program) (M:X2) (f:List (Id×Id)) (l:List (Nat×V)) (h:List (Id×Bd)) (n:Nat) (BK:List It) (s:St):KM (List It×List V×List (Option Bd)):=
 AD (Ea P M n BK .normal s) (Y5s f l h)
def yA:List It->Bool
 | .c _::_=>true
 | _=>false
theorem Y1a (hP:X7 P) {BK k2:List It} {s:St} {p:Prop} {l:List (Nat×V)} {h:List (Id×Bd)} {ep:Nat} (f:List (Id×Id)) (n:Nat) (q:List O) (hp:p) (hn:SX P R k2 .normal (NI l h ep))
  (e:NP (Ms P M f l h n BK s q)=some (p,(k2,QP f l h))) (hb:(yA k2&&IH f l h ep)=true):SX P R BK .normal s:=by
 simp only[Bg] at hb;refine Y0s (x:=Ms P M f l h n BK s) (Q:=λy=>y=(k2,QP f l h)->SX P R BK .normal s) ?_ e hp rfl;refine Zs (Yva hP n) (λr hr=>?_);obtain⟨st,ex,s1⟩:=r;unfold Y5s;cases ex with
 | normal=>
  refine Zs Xbh (λvs hvs=>Zs Xa4 (λbs KA=>Yc λhy=>hr _ ?_));simp only[A6] at hy;simp only;rw[hy.1];have DJ:QO f l h s1=QP f l h:=by
   rw[<-hy.2,hvs,KA];rfl
  cases k2 with
  | nil=>cases hb.1
  | cons x k=>cases x with
   | Bl i=>cases hb.1
   | c x=>exact Xbs f (Xbu DJ hb.2) hn
 | ret=>exact Zv
 | exit i=>exact Zv
end
end Go.Proofs.YthdljdelfgofdaaGreatDoor.Ev
namespace Go.Proofs.YthdljdelfgofdaaGreatDoor.Ev
open Go
section
variable {α:Type}
def idx (xs:List α) (i:Int):Option α:=if 0<=i then xs[i.toNat]? else none
def Y4 (sz:Nat) (xs ys:List α):Option (List α):=if (xs.length+ys.length)*sz<=140737488355328/\xs.length+ys.length<=9223372036854775807 then some (xs++ys) else none
def Hj (sz:Nat) (n:Int) (z:α):Option (List α):=if 0<=n/\n.toNat*sz<=70368744177664/\n.toNat<=9223372036854775807 then some (List.replicate n.toNat z) else none
def Ys (xs:List α) (l h:Int):Option (List α):=if 0<=l/\l<=h/\h.toNat<=xs.length then some ((xs.drop l.toNat).take (h.toNat - l.toNat)) else none
def KQ (z:α) (xs:List α) (l h:Int):Option (List α):=if l.toNat+(h.toNat - l.toNat)<=xs.length then some (xs.take l.toNat++List.replicate (h.toNat - l.toNat) z++xs.drop (l.toNat+(h.toNat - l.toNat))) else none
def Jz (xs:List α) (i:Int) (a:α):Option (List α):=some (xs.set i.toNat a)
end
def Zd (l:List UInt8):ByteArray:=⟨l.toArray⟩
def FU:Nat:=18446744073709551616
def NQ (n:Int):Int:=IntKind.i64.wrap n
def w8 (n:Int):Int:=IntKind.u8.wrap n
def Zo (a b:Int):Int:=IntKind.i64.wrap (a+b)
def Xd (a b:Int):Int:=IntKind.i64.wrap (a - b)
def Ky (a b:Int):Int:=IntKind.i64.wrap (a*b)
def Ft (a b:Int):Int:=IntKind.i64.wrap (a.tdiv b)
def Dd (a b:Int):Int:=a.tmod b
def QT (a b:Int):Int:=IntKind.i64.wrap ((BitVec.ofInt IntKind.i64.bits a &&& BitVec.ofInt IntKind.i64.bits b).toNat)
def yB (a b:Int):Int:=IntKind.i64.wrap ((BitVec.ofInt IntKind.i64.bits a ||| BitVec.ofInt IntKind.i64.bits b).toNat)
def QU (a b:Int):Int:=IntKind.i64.wrap (a*2^min b.toNat IntKind.i64.bits)
def QV (a b:Int):Int:=a.fdiv (2^min b.toNat IntKind.i64.bits)
def Tf (a:Int):Int:=IntKind.i64.wrap (0 - a)
def yC (a b:Int):Int:=IntKind.u8.wrap (a - b)
def D3 (x y:Int):Int:=if y < x then y else x
def EM (x y:Int):Int:=if y > x then y else x
def GF (b:Int):Option Unit:=if b=0 then none else some ()
def KR (b:Int):Option Unit:=if 0<=b then some () else none
def GG (b:ByteArray) (i:Int):Option Int:=if 0<=i then (b[i.toNat]?).map λc=>(c.toNat:Int) else none
def Hk (b:ByteArray) (l h:Int):Option ByteArray:=if 0<=l/\l<=h/\h.toNat<=b.size then some (b.extract l.toNat h.toNat) else none
def II (xs:List Int):ByteArray:=⟨(xs.map λn=>UInt8.ofNat n.toNat).toArray⟩
def Ya (a b:ByteArray):Option Unit:=if ((a.size+b.size:Nat):Int) > IntKind.i64.max then none else some ()
theorem Y5j {n:Int} (h1:-9223372036854775808<=n) (h2:n < 9223372036854775808):NQ n=n:=by
 simp[NQ,IntKind.wrap,IntKind.bits,IntKind.signed];omega
end Go.Proofs.YthdljdelfgofdaaGreatDoor.Ev
namespace Go.Proofs.YthdljdelfgofdaaGreatDoor.Ev
open Go Go.RowKit KM
variable [Anchor]
abbrev il (n:Int):V:=.lit (.int .i64 n)
abbrev bl (b:Bool):V:=.lit (.bool b)
section
variable {P:Program} {M:X2}
def IJ (M:X2) (f:FuncId) (xs:List V):St:=(St.enters ⟨λ_=>.undef,λ_=>none,0⟩ 0 (M.AU f) xs).getD ⟨λ_=>.undef,λ_=>none,0⟩
theorem Ytw (hP:X7 P) {f:FuncId} {fn:Func} {c:Code} {xs:List V} {r:V} {os:List V} (CL:P.funcs[f]?=some fn) (hc:fn.body=some c) (hs:(St.enters ⟨λ_=>.undef,λ_=>none,0⟩ 0 (M.AU f) xs).isSome=true)
  (h:SX P (QD P M f fn xs (r,os)) [.c c] .normal (IJ M f xs)):Zr P M (f,xs,r,os):=by
 obtain⟨s1,h1⟩:=EW.1 hs;refine Xb0 hP CL hc h1 ?_;have:IJ M f xs=s1:=by unfold IJ;rw[h1];rfl
 rw[<-this];exact h
end
theorem aa {p q:Prop} (h:p) (k:q):p/\q:=⟨h,k⟩
theorem tt:True:=trivial
theorem Y8t {α β:Type} {x:Option α} {f:α->Option β} {b:β} (h:x.bind f=some b):∃a,x=some a/\f a=some b:=A9.1 h
theorem Y8m {β:Type} {t:Bool} {x y:Option β} {b:β} (h:(if t=true then x else y)=some b):(t=true/\x=some b)\/(t=false/\y=some b):=by
 cases t with
 | true=>exact .inl ⟨rfl,h⟩
 | false=>exact .inr ⟨rfl,h⟩
section
variable {α:Type}
theorem Hl {xs:List α} {i:Int} {a:α} (h:idx xs i=some a):Wv (il i)=some i.toNat:=by
 unfold idx at h;split at h
 .rename_i h0;simp[Wv,h0]
 .cases h
theorem Dl (e:α->List V) {xs:List α} {i:Int} {a:α} (h:idx xs i=some a):(xs.map e)[i.toNat]?=some (e a):=by
 unfold idx at h;split at h
 .rw[Dt,h];rfl
 .cases h
theorem HE (e:α->List V) {xs:List α} {i:Int} {a:α} (h:idx xs i=some a):i.toNat < (xs.map e).length:=(CX.1 (Dl e h)).1
theorem Gi (e:α->List V) (xs:List α):(xs.map e).length=xs.length:=JL ..
theorem NR (e:α->List V) (xs:List α):(xs.map e).length=(xs.map e).length:=rfl
theorem CF (n:Nat) {e:α->List V} (he:∀a,(e a).length=n) (xs:List α):GZ n (xs.map e)=true:=by
 unfold GZ;rw[Cb];intro r hr;obtain⟨a,_,rfl⟩:=Dx.1 hr;simp[he]
theorem XS {e:α->List V} (he:∀a,(e a).all LC=true) (xs:List α):Fa (xs.map e)=true:=by
 unfold Fa;rw[Cb];intro r hr;obtain⟨a,_,rfl⟩:=Dx.1 hr;exact he a
theorem GH (e:α->List V) {sz:Nat} {xs ys zs:List α} (h:Y4 sz xs ys=some zs):xs.map e++ys.map e=zs.map e:=by
 unfold Y4 at h;split at h
 .injection h with h;rw[<-h,Gv]
 .cases h
theorem Fu (e:α->List V) {sz:Nat} {xs ys zs:List α} (h:Y4 sz xs ys=some zs):((xs.map e).length+(ys.map e).length)*sz<=140737488355328/\(xs.map e).length+(ys.map e).length<=9223372036854775807:=by
 unfold Y4 at h;split at h
 .rename_i hh;simpa using hh
 .cases h
theorem Mt (e:α->List V) {sz:Nat} {ys zs:List α} (h:Y4 sz [] ys=some zs):ys.map e=zs.map e:=GH e h
theorem KT {sz:Nat} {n:Int} {z:α} {xs:List α} (h:Hj sz n z=some xs):Wv (il n)=some n.toNat:=by
 unfold Hj at h;split at h
 .rename_i h0;simp[Wv,h0.1]
 .cases h
theorem XT {sz:Nat} {n:Int} {z:α} {xs:List α} (h:Hj sz n z=some xs):n.toNat*sz<=70368744177664/\n.toNat<=9223372036854775807:=by
 unfold Hj at h;split at h
 .rename_i h0;exact h0.2
 .cases h
theorem XU (e:α->List V) {sz:Nat} {n:Int} {z:α} {xs:List α} (h:Hj sz n z=some xs):List.replicate n.toNat (e z)=xs.map e:=by
 unfold Hj at h;split at h
 .injection h with h;rw[<-h,List.map_replicate]
 .cases h
theorem DL {xs ys:List α} {l h:Int} (e:Ys xs l h=some ys):Wv (il l)=some l.toNat/\Wv (il h)=some h.toNat:=by
 unfold Ys at e;split at e
 .rename_i h0
  refine⟨by simp[Wv,h0.1],?_⟩;have:0<=h:=by omega
  simp[Wv,this]
 .cases e
theorem Eb (en:α->List V) {xs ys:List α} {l h:Int} (e:Ys xs l h=some ys):l.toNat<=h.toNat/\h.toNat<=(xs.map en).length:=by
 unfold Ys at e;split at e
 .rename_i h0
  rw[JL];omega
 .cases e
theorem E3 (en:α->List V) {xs ys:List α} {l h:Int} (e:Ys xs l h=some ys):((xs.map en).drop l.toNat).take (h.toNat - l.toNat)=ys.map en:=by
 unfold Ys at e;split at e
 .injection e with e;rw[<-e,List.map_take,List.map_drop]
 .cases e
end
def Zc (n:Int):List V:=[.lit (.int .i64 n)]
def yD (n:Int):List V:=[.lit (.int .u8 n)]
def Z8 (b:Bool):List V:=[.lit (.bool b)]
def Zp (b:ByteArray):List V:=[.lit (.string b)]
theorem Ju (n:Int):(Zc n).length=1:=rfl
theorem NS (n:Bool):(Z8 n).length=1:=rfl
theorem Qx (n:ByteArray):(Zp n).length=1:=rfl
theorem QW (n:Int):(Zc n).all LC=true:=rfl
abbrev iu (n:Int):V:=.lit (.int .u8 n)
abbrev ss (b:ByteArray):V:=.lit (.string b)
theorem Mu {b:ByteArray} {i m:Int} (h:GG b i=some m):I6 b (il i)=some m:=by
 unfold GG at h;unfold I6;split at h
 .rename_i h0
  show (if 0<=i then some i.toNat else none).bind _=_;rw[Ah h0];exact h
 .cases h
theorem ssx {b c:ByteArray} {l h:Int} (e:Hk b l h=some c):PU b (some (il l)) (some (il h))=some c:=by
 unfold Hk at e;split at e
 .rename_i h0
  unfold PU;show ((if 0<=h then some h.toNat else none).bind λh=>(if 0<=l then some l.toNat else none).bind λl=>_)=_;rw[Ah (by omega),Ah h0.1];simp only[Ag];rw[Ah (by omega)];exact e
 .cases e
theorem Mv {b c:ByteArray} {l:Int} (e:Hk b l (b.size:Int)=some c):PU b (some (il l)) none=some c:=by
 have:=ssx e;unfold PU at this ⊢;exact this
theorem stx (xs:List Int):Md (xs.map λn=>[V.lit (.int .u8 n)])=some (II xs):=by
 have:Nq (xs.map λn=>[V.lit (.int .u8 n)])=some (xs.map λn=>UInt8.ofNat n.toNat):=by
  induction xs with
  | nil=>rfl
  | cons x xs ih=>
   unfold Nq at ih ⊢;simp only[C7,SF];rw[ih];rfl
 unfold Md;rw[this];rfl
section
variable {α:Type}
theorem KU (e:α->List V) {xs ys:List α} {i:Int} {a:α} (h:Jz xs i a=some ys):(xs.map e).set i.toNat (e a)=ys.map e:=by
 unfold Jz at h;injection h with h;rw[<-h,List.map_set]
theorem J0 (e:α->List V) {xs ys:List α} {i:Int} {a:α} (h:Jz xs i a=some ys):(xs.map e).length=(ys.map e).length:=by
 rw[<-KU e h,JM]
theorem iT (en:α->List V) {xs ys:List α} {l h:Int} (e:Ys xs l h=some ys):l.toNat+(h.toNat - l.toNat)<=(xs.map en).length:=by
 have:=Eb en e;omega
end
section
variable {α:Type}
theorem iU {sz:Nat} {r:List α} (h:Y4 sz [] []=some r):[]=r:=by
 unfold Y4 at h;split at h
 .injection h
 .cases h
theorem iV (n:Nat):(0+0)*n<=140737488355328/\0+0<=9223372036854775807:=by simp
theorem yE (e:α->List V) {z:α} {xs ys:List α} {l h:Int} (q:KQ z xs l h=some ys):l.toNat+(h.toNat - l.toNat)<=(xs.map e).length:=by
 unfold KQ at q;split at q
 .rwa [JL]
 .cases q
theorem yF (e:α->List V) {z:α} {xs ys:List α} {l h:Int} (q:KQ z xs l h=some ys):(xs.map e).take l.toNat++List.replicate (h.toNat - l.toNat) (e z)++(xs.map e).drop (l.toNat+(h.toNat - l.toNat))=ys.map e:=by
 unfold KQ at q;split at q
 .injection q with q;rw[<-q];simp
 .cases q
theorem yG (e:α->List V) {z:α} {xs ys:List α} {l h:Int} (q:KQ z xs l h=some ys):(xs.map e).length=(ys.map e).length:=by
 unfold KQ at q;split at q
 .injection q with q;rw[<-q];simp;omega
 .cases q
end
def ks:Nat->List O->List O
 | 0,l=>l
 | n+1,l=>.k::ks n l
def BE (q:List O) (p:Prop):Prop:=p
theorem ee:BE [] True:=trivial
section
variable {q:List O} {p:Prop} {α:Type}
theorem kk (n:Nat) (k:BE q p):BE (ks n q) p:=k
theorem gg {c b:Bool} (h:c=b) (k:BE q p):BE (.t b::q) (c=b/\p):=⟨h,k⟩
theorem rr {P:Program} {M:X2} {y:FuncId×List V×V×List V} (h:Zr P M y) (k:BE q p):BE (.res y.2.2.1 y.2.2.2::q) (Zr P M y/\p):=⟨h,k⟩
theorem xb (e:α->List V) {xs:List α} {i:Int} {a:α} (h:idx xs i=some a) (k:BE q p):BE (.row i.toNat (e a)::q) (Wv (il i)=some i.toNat/\(xs.map e)[i.toNat]?=some (e a)/\p):=⟨Hl h,Dl e h,k⟩
theorem xd (e:α->List V) {xs:List α} {i:Int} {a:α} (h:idx xs i=some a) (k:BE q p):BE (.row i.toNat (e a)::.cell (e a)::q) (Wv (il i)=some i.toNat/\i.toNat < (xs.map e).length/\(xs.map e)[i.toNat]?=some (e a)/\(xs.map e)[i.toNat]?=some (e a)/\p):=⟨Hl h,HE e h,Dl e h,Dl e h,k⟩
theorem xp (e:α->List V) {xs ys:List α} {i:Int} {a b:α} (h:idx xs i=some a) (h2:Jz xs i b=some ys) (k:BE q p):BE (.row i.toNat (e a)::.put (e a) (ys.map e)::q) (Wv (il i)=some i.toNat/\i.toNat < (xs.map e).length/\(xs.map e)[i.toNat]?=some (e a)/\(xs.map e)[i.toNat]?=some (e a)/\(xs.map e).set i.toNat (e b)=ys.map e/\p):=⟨Hl h,HE e h,Dl e h,Dl e h,KU e h2,k⟩
theorem xq (e:α->List V) {xs:List α} {i:Int} {a:α} (h:idx xs i=some a) (ys:List α) (k:BE q p):BE (.row i.toNat (e a)::.put (e a) (ys.map e)::q) (Wv (il i)=some i.toNat/\i.toNat < (xs.map e).length/\(xs.map e)[i.toNat]?=some (e a)/\(xs.map e)[i.toNat]?=some (e a)/\p):=⟨Hl h,HE e h,Dl e h,Dl e h,k⟩
theorem ln (e:α->List V) (xs:List α) (k:BE q p):BE (.num (xs.map e).length 0 0 []::q) ((xs.map e).length=(xs.map e).length/\p):=⟨rfl,k⟩
theorem lr (e:α->List V) (xs:List α) (k:BE q p):BE (.num xs.length 0 0 []::q) ((xs.map e).length=xs.length/\p):=⟨Gi e xs,k⟩
theorem tp (x:O) (k:BE q p):BE (x::q) p:=k
theorem tq (l:List O) (k:BE q p):BE (l++q) p:=k
theorem ta (e:α->List V) (ys zs:List α) (k:BE q p):BE (.app (ys.map e) true (zs.map e) (zs.map e).length::q) p:=k
theorem oa (n:Nat) {e:α->List V} (he:∀a,(e a).length=n) (x:α) (k:BE q p):BE q (1=([x].map e).length/\[x].map e=[x].map e/\GZ n ([x].map e)=true/\p):=⟨rfl,rfl,CF n he [x],k⟩
theorem ol (n:Nat) {e:α->List V} (he:∀a,(e a).length=n) (hl:∀a,(e a).all LC=true) (ys:List α) (k:BE q p):BE q (ys.map e=ys.map e/\Fa (ys.map e)=true/\GZ n (ys.map e)=true/\0=(([]:List α).map e).length/\p):=⟨rfl,XS hl ys,CF n he ys,rfl,k⟩
theorem ox (e:α->List V) {sz:Nat} {xs ys zs:List α} (h:Y4 sz xs ys=some zs) (k:BE q p):BE q ((xs.map e).length=(xs.map e).length/\(((xs.map e).length+(ys.map e).length)*sz<=140737488355328/\(xs.map e).length+(ys.map e).length<=9223372036854775807)/\xs.map e++ys.map e=zs.map e/\p):=⟨rfl,Fu e h,GH e h,k⟩
theorem oe (e:α->List V) (xs:List α) (k:BE q p):BE q ((xs.map e).length=(xs.map e).length/\p):=⟨rfl,k⟩
theorem ob {a:Prop} (h:a) (k:BE q p):BE q (a/\p):=⟨h,k⟩
end
theorem KV {b:Int} {u:Unit} (h:GF b=some u):b≠0:=by
 unfold GF at h;split at h
 .cases h
 .assumption
theorem Tg {b:Int} {u:Unit} (h:KR b=some u):0<=b:=by
 unfold KR at h;split at h
 .assumption
 .cases h
theorem Yi {a b:ByteArray} {u:Unit} (h:Ya a b=some u):¬((a.size+b.size:Nat):Int) > IntKind.i64.max:=by
 unfold Ya at h;split at h
 .cases h
 .assumption
def Mw (f:Func):Code:=f.body.getD .skip
def at_:List Nat->Code->List It->List It
 | 0::p,.seq a b,k=>at_ p a (.c b::k)
 | _::p,.seq _ b,k=>at_ p b k
 | 0::p,.cond _ a _,k=>at_ p a k
 | _::p,.cond _ _ b,k=>at_ p b k
 | _::p,.block i c,k=>at_ p c (.Bl i::k)
 | _::p,.loop c,k=>at_ p c (.c (.loop c)::k)
 | _,c,k=>.c c::k
end Go.Proofs.YthdljdelfgofdaaGreatDoor.Ev
namespace Go.Proofs.YthdljdelfgofdaaGreatDoor.Ev
open Go Go.RowKit
variable [Anchor]
section
variable {P:Program} {M:X2} {w:World} {ok top:Nat->Prop}
theorem yH:∀{us:List Value} {xs:List V},us.length=xs.length->Fo P w ok top [] us xs (xs.map λ_=>V.undef) []
 | [],[],_=>.nil
 | u::us,x::xs,h=>.cons (f1:=[]) (f2:=[]) rfl (yH (by simpa using h))
theorem yI {ms:List Yt} {us:List Value} {xs:List V} {G:List Nat} (h:N9 P w ok top ms us xs G):ms=[]->us.length=xs.length/\G=[]/\∀(j:Nat) (u:Value) (x:V),us[j]?=some u->xs[j]?=some x->∀U,En w ok U u x:=by
 induction h with
 | nil=>intro _;exact⟨rfl,rfl,λj u x hu=>by simp at hu⟩
 | cons h hs ih=>
  intro hm;subst hm;obtain⟨h1,rfl,h2⟩:=ih rfl;obtain⟨h3,rfl⟩:=h;refine⟨by simp[h1],rfl,λj u x hu hx=>?_⟩;cases j with
  | zero=>simp at hu hx;subst hu;subst hx;exact h3
  | succ j=>exact h2 j u x (by simpa using hu) (by simpa using hx)
theorem Th {f:FuncId} {xs:List V} {v:Value} {x:V} (CL:∃fn,P.funcs[f]?=some fn/\fn.body.isSome=true) (hm:M.AU f=[]) (hv:∀(w':World) (ok top:Nat->Prop),Fp P w' ok top v x [])
  (h:∀(w:World) (us:List Value) (ok:Nat->Prop),LG w (λ_=>False)->(∀g,ok g->g < w.heap.size)->us.length=xs.length->(∀(j:Nat) (u:Value) (x:V),us[j]?=some u->xs[j]?=some x->∀U,En w ok U u x)->
   Calls P f us.toArray w (λe w'=>e=.returned v/\Below w.heap.size w w')):Zr P M (f,xs,x,xs.map λ_=>.undef):=by
 refine⟨CL,?_⟩;show NF P (M.AU f) f xs x _;rw[hm];intro w us G T X ok hT Mh NG hG Yg hX;obtain⟨hl,rfl,he⟩:=yI Mh rfl;have:=h w us.toList ok ⟨hT.1,hT.2.1,λg hg=>hg.elim⟩ (λg hg=>(Yg g hg).1) hl he;rw[Array.toArray_toList] at this;exact this.mono λe w' ⟨he,hb⟩=>⟨v,he,⟨⟨hb.os,hb.tape,hb.output,hb.size,λk hk _=>hb.block k hk⟩,ok,T,[],[],hv w' ok T,yH hl,by simp,λg hg=>by simp at hg,λg hg=>.inl hg,λg hg=>⟨GU (Yg g hg).1 hb.size,(Yg g hg).2⟩⟩⟩
theorem iW {v:Value} (hv:J8 v=true) (w':World) (ok top:Nat->Prop):Fp P w' ok top v (.lit v) []:=show CY P w' ok top v (.lit v) [] from .lit hv
theorem iX:∀l:List ByteArray,(l.map Zp).flatten=l.map λx=>V.lit (.string x)
 | []=>rfl
 | a::l=>by simp only[C7,DS,iX l];rfl
theorem Y82 {f:FuncId} {xs:List V} {e:TypeId} {l:List ByteArray} (CL:∃fn,P.funcs[f]?=some fn/\fn.body.isSome=true) (hm:M.AU f=[]) (Yn:l.length<=maxLen)
  (h:∀(w:World) (us:List Value) (ok:Nat->Prop),LG w (λ_=>False)->(∀g,ok g->g < w.heap.size)->us.length=xs.length->(∀(j:Nat) (u:Value) (x:V),us[j]?=some u->xs[j]?=some x->∀U,En w ok U u x)->
   Calls P f us.toArray w (λr w'=>r=.returned (.slice (some ⟨w.heap.size,0,none⟩) l.length l.length)/\w'=w.alloc (.cells (l.map Value.string).toArray e))):Zr P M (f,xs,.tr (l.map Zp),xs.map λ_=>.undef):=by
 refine⟨CL,?_⟩;show NF P (M.AU f) f xs (.tr (l.map Zp)) _;rw[hm];intro w us G T X ok hT Mh NG hG Yg hX;obtain⟨hl,rfl,he⟩:=yI Mh rfl;have:=h w us.toList ok ⟨hT.1,hT.2.1,λg hg=>hg.elim⟩ (λg hg=>(Yg g hg).1) hl he;rw[Array.toArray_toList] at this;refine this.mono λr w' ⟨hr,hw⟩=>⟨_,hr,?_⟩;subst hw;have hs:=SK w (.cells (l.map Value.string).toArray e);have CP:=fQ w (.cells (l.map Value.string).toArray e);have hXs:¬X w.heap.size:=λhx=>by
  obtain⟨cur,t,hc⟩:=hX _ hx;have:=(Hz.1 hc).1;omega
 refine⟨(J6.refl w.heap.size T w).alloc (B4 _) _,λg=>ok g\/g=w.heap.size,λ_=>False,[],[],?_,yH hl,by simp,λg hg=>by simp at hg,λg hg=>hg.elim,λg hg=>?_⟩
 .show CY P _ (λg=>ok g\/g=w.heap.size) _ _ (.tr (l.map Zp)) []
  refine .tr (.tr (u:=λk=>(l.map Value.string)[k]?.getD (.bool false)) (sz:=1) (by simp) (B4 _) Yn (λr hr=>?_) (.inr rfl) (λk x hx=>?_) (λk x hx=>?_))
  .obtain⟨v,_,rfl⟩:=Dx.1 hr;rfl
  .rw[iX,Dt] at hx
   obtain⟨y,hy,rfl⟩:=AL.1 hx;have hk:(l.map Value.string)[k]?=some (.string y):=by rw[Dt,hy];rfl
   rw[hk];unfold World.cell?;rw[CP];simp[hk]
  .rw[iX,Dt] at hx
   obtain⟨y,hy,rfl⟩:=AL.1 hx;have hk:(l.map Value.string)[k]?=some (.string y):=by rw[Dt,hy];rfl
   rw[hk];exact .lit rfl
 .rcases hg with hg|rfl
  .exact⟨by have:=(Yg g hg).1;omega,λh=>h,(Yg g hg).2.2⟩
  .exact⟨by omega,λh=>h,hXs⟩
theorem HF {U:AY} {u v:Value} (h:En w ok U u (.lit v)):u=v:=by cases h;rfl
theorem Xar {U:AY} {u:Value} {l:List ByteArray} (h:En w ok U u (.tr (l.map Zp))):
  (∃A c,u=.slice A 0 c/\l=[])\/∃g o c,u=.slice (some ⟨g,o,none⟩) l.length c/\ok g/\l.length<=c/\∀(j:Nat) x,l[j]?=some x->w.cell? ⟨g,o+j,none⟩=some (.string x):=by
 cases h with
 | tr h=>
  have hf:(l.map Zp).flatten=l.map λx=>V.lit (.string x):=iX l;generalize hq:l.map Zp=rows at h;cases h with
  | emp=>exact .inl ⟨_,_,rfl,by simpa using hq⟩
  | @tr g o n c sz rows u hn hc hm hs hg hu hr=>
   subst hq;rw[hf] at hu hr;have SI:n=l.length:=by rw[<-hn];simp
   subst SI;refine .inr ⟨g,o,c,rfl,hg,hc,λj x hx=>?_⟩;have h1:(l.map λx=>V.lit (.string x))[j]?=some (V.lit (.string x)):=by rw[Dt,hx];rfl
   rw[hu j _ h1];have:=hr j _ h1;generalize u j=q at this;cases this;rfl
theorem Y8k {w:World} {ok ok' top top':Nat->Prop} {ms:List Yt} {us:List Value} {xs os:List V} {fo:List Nat} (h:Fo P w ok top ms us xs os fo):ms=[]->fo=[]/\Fo P w ok' top' [] us xs os []:=by
 induction h with
 | nil=>intro _;exact⟨rfl,.nil⟩
 | cons h hs ih=>
  intro hm;subst hm;obtain⟨rfl,h2⟩:=ih rfl;have h1:_=[]:=h;subst h1;exact⟨rfl,.cons (f1:=[]) (f2:=[]) rfl h2⟩
theorem Y9a {f:FuncId} {xs:List V} {e:TypeId} {rows:List (List V)} {os:List V} (hm:M.AU f=[]) (h:Zr P M (f,xs,.own e rows,os)):Zr P M (f,xs,.tr rows,os):=by
 refine⟨h.1,?_⟩;have hc:NF P (M.AU f) f xs (.own e rows) os:=h.2;show NF P (M.AU f) f xs (.tr rows) os;rw[hm] at hc ⊢;intro w us G T X ok hT Mh NG hG Yg hX;have hG0:G=[]:=(yI Mh rfl).2.1;refine (hc w us G T X ok hT Mh NG hG Yg hX).mono λr w' ⟨v,hr,hd⟩=>⟨v,hr,⟨hd.left,?_⟩⟩;obtain⟨ok',top',fr,fo,h1,h2,h3,h4,h5,h6⟩:=hd.ex;have h1:CY P w' ok' top' v (.own e rows) fr:=h1;obtain⟨rfl,Pn⟩:=Y8k (ok':=λg=>ok' g\/g∈fr) (top':=λg=>top' g/\g ∉ fr) h2 rfl;subst hG0;refine⟨λg=>ok' g\/g∈fr,λg=>top' g/\g ∉ fr,[],[],?_,Pn,by simp,λg hg=>by simp at hg,λg hg=>h5 g hg.1,λg hg=>?_⟩
 .show CY P w' _ _ v (.tr rows) []
  cases h1 with
  | own h _=>exact .tr (h.ow.rd λg hg=>.inr hg)
 .rcases hg with hg|hg
  .exact⟨(h6 g hg).1,λhh=>(h6 g hg).2.1 hh.1,(h6 g hg).2.2⟩
  .have hk:=h4 g (by simpa using hg)
   refine⟨hk.1,λhh=>hh.2 hg,λhx=>?_⟩;obtain⟨cur,t,hh⟩:=hX g hx;have:=(Hz.1 hh).1;rcases hk.2 with hk|hk
   .simp at hk
   .omega
end
end Go.Proofs.YthdljdelfgofdaaGreatDoor.Ev
namespace Go.Proofs.YthdljdelfgofdaaGreatDoor.Ev
open Go Go.Proofs
structure Ze where
 weight:Int
 prio:Bool
 every:Int
 cap:Int
 deriving DecidableEq
structure Zh where
 Ab:List Ze
 Av:Int
 As:Int
 An:Int
 Ap:Int
 Am:Int
 deriving DecidableEq
structure Zk where
 write:Bool
 addr:Int
 size:Int
 Az:Int
 lock:Bool
 Aa:List Int
 deriving DecidableEq
structure Zl where
 at_:Int
 Aj:Int
 Bo:Zk
 deriving DecidableEq
structure Zb where
 Al:List Zl
 waits:List Int
 A3:List Int
 deriving DecidableEq
structure Yb where
 at_:Int
 Bc:Int
 deriving DecidableEq
structure Zi where
 live:Bool
 Aj:Int
 Ao:Int
 first:Bool
 B2:Int
 left:Int
 Ar:Int
 second:Bool
 deriving DecidableEq
structure Zm where
 AB:List Int
 timer:Int
 A1:List Int
 deriving DecidableEq
structure Zf where
 mem:List Int
 dev:Zm
 deriving DecidableEq
structure Zg where
 queue:List Zk
 Ao:Int
 done:Int
 tries:Int
 Ax:Bool
 broken:Bool
 deriving DecidableEq
structure Zj where
 tokens:Int
 count:Int
 deriving DecidableEq
structure Zt where
 A4:Int
 Aj:Int
 write:Bool
 addr:Int
 size:Int
 value:Int
 Ar:Int
 deriving DecidableEq
structure Za where
 Ae:Zh
 now:Int
 m:List Zg
 Bm:Yb
 buckets:List Zj
 splits:List Int
 Af:Int
 held:Int
 last:Int
 addr:Zi
 Aa:Zi
 model:Zf
 Au:Int
 log:List Zt
 deriving DecidableEq
structure Zx where
 c:Zh
 s:Zb
 b:Za
 on:Bool
 deriving DecidableEq
structure Zq where
 A4:Int
 addr:Int
 kind:Int
 Aj:Int
 Aa:Int
 from_:Int
 ready:Bool
 Ar:Int
 C0:Int
 deriving DecidableEq
structure Z3 where
 Ae:Zh
 script:Zb
 DM:Option Za
 deriving DecidableEq
abbrev Ze.z0:Ze:=⟨0,false,0,0⟩
abbrev Zh.z0:Zh:=⟨[],0,0,0,0,0⟩
abbrev Zk.z0:Zk:=⟨false,0,0,0,false,[]⟩
abbrev Zb.z0:Zb:=⟨[],[],[]⟩
abbrev Yb.z0:Yb:=⟨0,0⟩
abbrev Zi.z0:Zi:=⟨false,0,0,false,0,0,0,false⟩
abbrev Zm.z0:Zm:=⟨[],0,[]⟩
abbrev Zf.z0:Zf:=⟨[],Zm.z0⟩
abbrev Zg.z0:Zg:=⟨[],0,0,0,false,false⟩
abbrev Zj.z0:Zj:=⟨0,0⟩
abbrev Zt.z0:Zt:=⟨0,0,false,0,0,0,0⟩
abbrev Za.z0:Za:=⟨Zh.z0,0,[],Yb.z0,[],[],0,0,0,Zi.z0,Zi.z0,Zf.z0,0,[]⟩
abbrev Zx.z0:Zx:=⟨Zh.z0,Zb.z0,Za.z0,false⟩
abbrev Zq.z0:Zq:=⟨0,0,0,0,0,0,false,0,0⟩
abbrev Z3.z0:Z3:=⟨Zh.z0,Zb.z0,none⟩
def yJ (x0:ByteArray) (x1:Int)  (k:(List ByteArray)->Int->Int->Option (List ByteArray)) (v0:List ByteArray) (v1:Int) (v2:Int):Option (List ByteArray):=
 if decide (v2 < (x0.size:Int))=true then (
  (GG x0 v2).bind λa0=>
  if decide (a0=x1)=true then (
   (Hk x0 v1 v2).bind λs0=>
   (Y4 16 v0 [s0]).bind λz0=>
   k z0 (Zo v2 1) (Zo v2 1))
  else (
   k v0 v1 (Zo v2 1)))
 else (
  (Hk x0 v1 (x0.size:Int)).bind λs1=>
  (Y4 16 v0 [s1]).bind λz1=>
  some z1)
def XV (x0:ByteArray) (x1:Int)  : Nat->(List ByteArray)->Int->Int->Option (List ByteArray)
 | 0,_,_,_=>none
 | m+1,v0,v1,v2=>yJ x0 x1  (XV x0 x1  m) v0 v1 v2
def Wt (x0:ByteArray) (x1:Int):Option (List ByteArray):=
 XV x0 x1 FU [] 0 0
def Z1 (x0:Int) (x1:Int) (x2:Int):Option Bool:=
 if decide (x0≥x1)=true then (
  some (decide (x0<=x2)))
 else (
  some false)
def iY (x0:Zh)  (v0:Bool):Option Int:=
 if v0=true then (
  some 0)
 else (
  some (Ky (Zo x0.An 2) (Zo x0.As 6)))
def QX (x0:Zh):Option Int:=
 (Z1 x0.An 0 3).bind λr0=>
 if (!r0)=true then (
  iY x0 true)
 else (
  (Z1 x0.As 0 3).bind λr1=>
  iY x0 (!r1))
def NT (x0:Zh):Option Int:=
 (QX x0).bind λr0=>
 if decide (r0=0)=true then (
  some 0)
 else (
  (Z1 x0.Am 1 40).bind λr1=>
  if (!r1)=true then (
   some 0)
  else (
   (QX x0).bind λr2=>
   some (Zo (Ky 2 r2) x0.Am)))
def iZ (x0:Zh):Option Bool:=
 (Z1 x0.Av 1 4).bind λr0=>
 if r0=true then (
  (QX x0).bind λr1=>
  if decide (r1 > 0)=true then (
   (Z1 x0.Ap 1 12).bind λr2=>
   if r2=true then (
    (Z1 x0.Am 1 40).bind λr3=>
    some r3)
   else (
    some false))
  else (
   some false))
 else (
  some false)
def yK (x0:Zh)  (k:Int->Int->Option Bool) (v0:Int) (v1:Int):Option Bool:=
 if decide (v1 < (x0.Ab.length:Int))=true then (
  (idx x0.Ab v1).bind λa0=>
  (Z1 a0.weight 1 4).bind λr0=>
  if (!r0)=true then (
   some false)
  else (
   if (!a0.prio)=true then (
    if decide (a0.every≠0)=true then (
     some false)
    else (
     if decide (a0.cap≠0)=true then (
      some false)
     else (
      if a0.prio=true then (
       (NT x0).bind λr1=>
       (Z1 a0.every (Ky (Ky 2 v0) r1) 1000).bind λr2=>
       if (!r2)=true then (
        some false)
       else (
        (Z1 a0.cap 1 8).bind λr3=>
        if (!r3)=true then (
         some false)
        else (
         k v0 (Zo v1 1))))
      else (
       k v0 (Zo v1 1)))))
   else (
    if a0.prio=true then (
     (NT x0).bind λr1=>
     (Z1 a0.every (Ky (Ky 2 v0) r1) 1000).bind λr2=>
     if (!r2)=true then (
      some false)
     else (
      (Z1 a0.cap 1 8).bind λr3=>
      if (!r3)=true then (
       some false)
      else (
       k v0 (Zo v1 1))))
    else (
     k v0 (Zo v1 1)))))
 else (
  (Z1 (x0.Ab.length:Int) 1 4).bind λr4=>
  if r4=true then (
   (iZ x0).bind λr5=>
   some r5)
  else (
   some false))
def NU (x0:Zh)  : Nat->Int->Int->Option Bool
 | 0,_,_=>none
 | m+1,v0,v1=>yK x0  (NU x0  m) v0 v1
def yL (x0:Zh)  (k:Int->Int->Option Bool) (v0:Int) (v2:Int):Option Bool:=
 if decide (v2 < (x0.Ab.length:Int))=true then (
  (idx x0.Ab v2).bind λa1=>
  if a1.prio=true then (
   k (Zo v0 1) (Zo v2 1))
  else (
   k v0 (Zo v2 1)))
 else (
  NU x0 FU v0 0)
def jA (x0:Zh)  : Nat->Int->Int->Option Bool
 | 0,_,_=>none
 | m+1,v0,v2=>yL x0  (jA x0  m) v0 v2
def Mx (x0:Zh):Option Bool:=
 jA x0 FU 0 0
def XW (x0:Zh):Option Zh:=
 (Y4 32 [] x0.Ab).bind λz0=>
 some {x0 with Ab:=z0}
def yM  : Option Zm:=
 (Hj 8 4 0).bind λm0=>
 some (Zm.mk m0 0 [])
def XX  : Option Zf:=
 (Hj 8 192 0).bind λm0=>
 (yM).bind λr0=>
 some (Zf.mk m0 r0)
def jB (x0:Ze):Option Zj:=
 if (!x0.prio)=true then (
  some Zj.z0)
 else (
  some (Zj.mk (EM 0 x0.cap) 0))
def jC (x0:Zh)  (k:Za->Int->Option (Za×Bool)) (Ad:Za) (v0:Int):Option (Za×Bool):=
 if decide (v0 < (x0.Ab.length:Int))=true then (
  (Y4 56 Ad.m [Zg.z0]).bind λz0=>
  (idx x0.Ab v0).bind λa0=>
  (jB a0).bind λr0=>
  (Y4 16 Ad.buckets [r0]).bind λz1=>
  (Y4 8 Ad.splits [0]).bind λz2=>
  k {Ad with m:=z0,buckets:=z1,splits:=z2} (Zo v0 1))
 else (
  some (Ad,true))
def jD (x0:Zh)  : Nat->Za->Int->Option (Za×Bool)
 | 0,_,_=>none
 | m+1,Ad,v0=>jC x0  (jD x0  m) Ad v0
def jE (x0:Zh):Option (Za×Bool):=
 (Mx x0).bind λr1=>
 if (!r1)=true then (
  some (Za.z0,false))
 else (
  (XW x0).bind λr2=>
  (XX).bind λr3=>
  jD x0 FU (Za.mk r2 0 [] Yb.z0 [] [] (-1) 0 (-1) Zi.z0 Zi.z0 r3 0 []) 0)
def XY (x0:Int) (AM:Int->ByteArray->Option ByteArray) (v0:Int) (v1:ByteArray) (v2:Int):Option ByteArray:=
 (Ya (II [(w8 (Zo 48 v2))]) v1).bind λn0=>
 AM (Ft v0 10) ((II [(w8 (Zo 48 v2))])++v1)
def yN (x0:Int)  (k:Int->ByteArray->Option ByteArray) (v0:Int) (v1:ByteArray):Option ByteArray:=
 if decide (v0≠0)=true then (
  if decide ((Dd v0 10) < 0)=true then (
   XY x0 k v0 v1 (Tf (Dd v0 10)))
  else (
   XY x0 k v0 v1 (Dd v0 10)))
 else (
  if decide (x0 < 0)=true then (
   (Ya (Zd [45]) v1).bind λn1=>
   some ((Zd [45])++v1))
  else (
   some v1))
def Ti (x0:Int)  : Nat->Int->ByteArray->Option ByteArray
 | 0,_,_=>none
 | m+1,v0,v1=>yN x0  (Ti x0  m) v0 v1
def Qz (x0:Int):Option ByteArray:=
 if decide (x0=0)=true then (
  some (Zd [48]))
 else (
  Ti x0 FU x0 ByteArray.empty)
def yO (x0:Zh)  (k:ByteArray->Int->Option ByteArray) (v0:ByteArray) (v1:Int):Option ByteArray:=
 if decide (v1 < (x0.Ab.length:Int))=true then (
  (idx x0.Ab v1).bind λa0=>
  (Ya v0 (Zd [32])).bind λn0=>
  (Qz a0.weight).bind λr0=>
  (Ya (v0++(Zd [32])) r0).bind λn1=>
  if a0.prio=true then (
   (Ya ((v0++(Zd [32]))++r0) (Zd [58])).bind λn2=>
   (Qz a0.every).bind λr1=>
   (Ya (((v0++(Zd [32]))++r0)++(Zd [58])) r1).bind λn3=>
   (Ya ((((v0++(Zd [32]))++r0)++(Zd [58]))++r1) (Zd [58])).bind λn4=>
   (Qz a0.cap).bind λr2=>
   (Ya (((((v0++(Zd [32]))++r0)++(Zd [58]))++r1)++(Zd [58])) r2).bind λn5=>
   k ((((((v0++(Zd [32]))++r0)++(Zd [58]))++r1)++(Zd [58]))++r2) (Zo v1 1))
  else (
   k ((v0++(Zd [32]))++r0) (Zo v1 1)))
 else (
  some v0)
def XZ (x0:Zh)  : Nat->ByteArray->Int->Option ByteArray
 | 0,_,_=>none
 | m+1,v0,v1=>yO x0  (XZ x0  m) v0 v1
def Tj (x0:Zh):Option ByteArray:=
 (Mx x0).bind λr3=>
 if (!r3)=true then (
  some ByteArray.empty)
 else (
  (Qz x0.Av).bind λr4=>
  (Ya r4 (Zd [32])).bind λn6=>
  (Qz x0.As).bind λr5=>
  (Ya (r4++(Zd [32])) r5).bind λn7=>
  (Ya ((r4++(Zd [32]))++r5) (Zd [32])).bind λn8=>
  (Qz x0.An).bind λr6=>
  (Ya (((r4++(Zd [32]))++r5)++(Zd [32])) r6).bind λn9=>
  (Ya ((((r4++(Zd [32]))++r5)++(Zd [32]))++r6) (Zd [32])).bind λn10=>
  (Qz x0.Ap).bind λr7=>
  (Ya (((((r4++(Zd [32]))++r5)++(Zd [32]))++r6)++(Zd [32])) r7).bind λn11=>
  (Ya ((((((r4++(Zd [32]))++r5)++(Zd [32]))++r6)++(Zd [32]))++r7) (Zd [32])).bind λn12=>
  (Qz x0.Am).bind λr8=>
  (Ya (((((((r4++(Zd [32]))++r5)++(Zd [32]))++r6)++(Zd [32]))++r7)++(Zd [32])) r8).bind λn13=>
  XZ x0 FU ((((((((r4++(Zd [32]))++r5)++(Zd [32]))++r6)++(Zd [32]))++r7)++(Zd [32]))++r8) 0)
def NV (x0:List ByteArray) (x1:ByteArray)  (k:Int->Option Int) (v0:Int):Option Int:=
 if decide (v0 < (x0.length:Int))=true then (
  (idx x0 v0).bind λa0=>
  if (a0.toList == x1.toList)=true then (
   some v0)
  else (
   k (Zo v0 1)))
 else (
  some (-1))
def NW (x0:List ByteArray) (x1:ByteArray)  : Nat->Int->Option Int
 | 0,_=>none
 | m+1,v0=>NV x0 x1  (NW x0 x1  m) v0
def KW (x0:List ByteArray) (x1:ByteArray):Option Int:=
 NW x0 x1 FU 0
def jF (x0:Zh) (x1:Int)  (v0:Bool):Option Int:=
 if v0=true then (
  some 0)
 else (
  (idx x0.Ab x1).bind λa0=>
  some (Ky a0.weight x0.Av))
def QY (x0:Zh) (x1:Int):Option Int:=
 (Mx x0).bind λr0=>
 if (!r0)=true then (
  jF x0 x1 true)
 else (
  (Z1 x1 0 (Xd (x0.Ab.length:Int) 1)).bind λr1=>
  jF x0 x1 (!r1))
def Tk (x0:Yb) (x1:Zh):Option Bool:=
 (Mx x1).bind λr0=>
 if r0=true then (
  (Z1 x0.at_ 0 (Xd (x1.Ab.length:Int) 1)).bind λr1=>
  if r1=true then (
   (QY x1 x0.at_).bind λr2=>
   (Z1 x0.Bc 0 r2).bind λr3=>
   some r3)
  else (
   some false))
 else (
  some false)
def yP (x0:List Int)  (k:Int->Option Bool) (v0:Int):Option Bool:=
 if decide (v0 < (x0.length:Int))=true then (
  (idx x0 v0).bind λa0=>
  (Z1 a0 0 255).bind λr0=>
  if (!r0)=true then (
   some false)
  else (
   k (Zo v0 1)))
 else (
  some (decide ((x0.length:Int)<=512)))
def jG (x0:List Int)  : Nat->Int->Option Bool
 | 0,_=>none
 | m+1,v0=>yP x0  (jG x0  m) v0
def YA (x0:List Int):Option Bool:=
 jG x0 FU 0
def HG (x0:Int):Option Int:=
 (Z1 x0 0 2).bind λr0=>
 if (!r0)=true then (
  some 0)
 else (
  (KR x0).bind λn0=>
  some (QU 1 x0))
def Ke (x0:Int):Option Int:=
 (HG x0).bind λr0=>
 if decide (r0=0)=true then (
  some 0)
 else (
  (HG x0).bind λr1=>
  (KR (Ky 8 r1)).bind λn0=>
  some (QU 1 (Ky 8 r1)))
def yQ (x0:List Int)  (k:Int->Option Bool) (v0:Int):Option Bool:=
 if decide (v0 < (x0.length:Int))=true then (
  (idx x0 v0).bind λa0=>
  (Ke 2).bind λr0=>
  (Z1 a0 0 (Xd r0 1)).bind λr1=>
  if (!r1)=true then (
   some false)
  else (
   k (Zo v0 1)))
 else (
  some true)
def jH (x0:List Int)  : Nat->Int->Option Bool
 | 0,_=>none
 | m+1,v0=>yQ x0  (jH x0  m) v0
def YB (x0:List Int):Option Bool:=
 jH x0 FU 0
def YC (x0:Zm):Option Bool:=
 if decide ((x0.AB.length:Int)=4)=true then (
  (YB x0.AB).bind λr0=>
  if r0=true then (
   (Ke 2).bind λr1=>
   (Z1 x0.timer 0 (Xd r1 1)).bind λr2=>
   if r2=true then (
    if decide ((x0.A1.length:Int)<=4)=true then (
     (YB x0.A1).bind λr3=>
     some r3)
    else (
     some false))
   else (
    some false))
  else (
   some false))
 else (
  some false)
def YD (x0:Zf):Option Bool:=
 if decide ((x0.mem.length:Int)=192)=true then (
  (YA x0.mem).bind λr0=>
  if r0=true then (
   (YC x0.dev).bind λr1=>
   some r1)
  else (
   some false))
 else (
  some false)
def KX (x0:Int):Option Int:=
 (Z1 x0 0 3).bind λr0=>
 if (!r0)=true then (
  some 0)
 else (
  (idx [1,4,4,8] x0).bind λa0=>
  some a0)
def KY (x0:Int) (x1:Int):Option Bool:=
 (HG x1).bind λr0=>
 if decide (r0 > 0)=true then (
  if decide (x0≥0)=true then (
   (HG x1).bind λr1=>
   (GF r1).bind λn0=>
   some (decide ((Dd x0 r1)=0)))
  else (
   some false))
 else (
  some false)
def jI (x0:Int) (x1:Int) (x2:Int)  (v0:Int) (v1:Bool):Option Int:=
 if v1=true then (
  some (Xd (Zo x0 v0) (Ky 4 v0)))
 else (
  some (Zo x0 v0))
def YE (x0:Int) (x1:Int) (x2:Int)  (v0:Int) (v2:Bool):Option Int:=
 if v2=true then (
  some (-1))
 else (
  if decide (x2=2)=true then (
   (GF (Ky 4 v0)).bind λn0=>
   jI x0 x1 x2 v0 (decide ((Dd (Zo x0 v0) (Ky 4 v0))=0)))
  else (
   jI x0 x1 x2 v0 false))
def YF (x0:Int) (x1:Int) (x2:Int):Option Int:=
 (HG x1).bind λr0=>
 (KY x0 x1).bind λr1=>
 if (!r1)=true then (
  YE x0 x1 x2 r0 true)
 else (
  (Z1 x0 0 511).bind λr2=>
  if (!r2)=true then (
   YE x0 x1 x2 r0 true)
  else (
   (KX x2).bind λr3=>
   YE x0 x1 x2 r0 (decide (r3=0))))
def YG (x0:Int) (x1:Int) (x2:Int) (AM:Int->(List Int)->Option (List Int)) (v0:Int) (v1:List Int) (v2:Bool):Option (List Int):=
 if v2=true then (
  (Y4 8 v1 [v0]).bind λz0=>
  (YF v0 x1 x2).bind λr0=>
  AM r0 z0)
 else (
  (KX x2).bind λr1=>
  if decide ((v1.length:Int) < r1)=true then (
   some [])
  else (
   some v1))
def YH (x0:Int) (x1:Int) (x2:Int)  (k:Int->(List Int)->Option (List Int)) (v0:Int) (v1:List Int):Option (List Int):=
 (KX x2).bind λr2=>
 if decide ((v1.length:Int) < r2)=true then (
  (YF v0 x1 x2).bind λr3=>
  YG x0 x1 x2 k v0 v1 (decide (r3≥0)))
 else (
  YG x0 x1 x2 k v0 v1 false)
def jJ (x0:Int) (x1:Int) (x2:Int)  : Nat->Int->(List Int)->Option (List Int)
 | 0,_,_=>none
 | m+1,v0,v1=>YH x0 x1 x2  (jJ x0 x1 x2  m) v0 v1
def YI (x0:Int) (x1:Int) (x2:Int):Option (List Int):=
 jJ x0 x1 x2 FU x0 []
def yR (x0:Int) (x1:Int) (x2:Int)  (k:(List Int)->Int->Option Bool) (v0:List Int) (v1:Int):Option Bool:=
 if decide (v1 < (v0.length:Int))=true then (
  (idx v0 v1).bind λa0=>
  (idx v0 0).bind λa1=>
  if decide ((Ft a0 64)≠(Ft a1 64))=true then (
   some false)
  else (
   k v0 (Zo v1 1)))
 else (
  some (decide ((v0.length:Int) > 0)))
def jK (x0:Int) (x1:Int) (x2:Int)  : Nat->(List Int)->Int->Option Bool
 | 0,_,_=>none
 | m+1,v0,v1=>yR x0 x1 x2  (jK x0 x1 x2  m) v0 v1
def jL (x0:Int) (x1:Int) (x2:Int):Option Bool:=
 (YI x0 x1 x2).bind λr0=>
 jK x0 x1 x2 FU r0 0
def yS (x0:Zk)  (k:Int->Option Bool) (v0:Int):Option Bool:=
 if decide (v0 < (x0.Aa.length:Int))=true then (
  (idx x0.Aa v0).bind λa0=>
  (Ke x0.size).bind λr0=>
  (Z1 a0 0 (Xd r0 1)).bind λr1=>
  if (!r1)=true then (
   some false)
  else (
   k (Zo v0 1)))
 else (
  if decide ((x0.Aa.length:Int)=0)=true then (
   if (!x0.write)=true then (
    some true)
   else (
    (KX x0.Az).bind λr2=>
    if decide ((x0.Aa.length:Int)=r2)=true then (
     some x0.write)
    else (
     some false)))
  else (
   (KX x0.Az).bind λr2=>
   if decide ((x0.Aa.length:Int)=r2)=true then (
    some x0.write)
   else (
    some false)))
def jM (x0:Zk)  : Nat->Int->Option Bool
 | 0,_=>none
 | m+1,v0=>yS x0  (jM x0  m) v0
def Tl (x0:Zk):Option Bool:=
 (jL x0.addr x0.size x0.Az).bind λr3=>
 if (!r3)=true then (
  some false)
 else (
  jM x0 FU 0)
def NX (x0:Zg):Option Int:=
 if decide ((x0.queue.length:Int)=0)=true then (
  some 0)
 else (
  (idx x0.queue 0).bind λa0=>
  (KX a0.Az).bind λr0=>
  some r0)
def QZ (x0:Zg)  (v0:Bool):Option Bool:=
 if v0=true then (
  some false)
 else (
  if decide ((x0.queue.length:Int)=0)=true then (
   if decide (x0.Ao=0)=true then (
    if decide (x0.done=0)=true then (
     if decide (x0.tries=0)=true then (
      if (!x0.Ax)=true then (
       some (!x0.broken))
      else (
       some false))
     else (
      some false))
    else (
     some false))
   else (
    some false))
  else (
   (NX x0).bind λr0=>
   (Z1 x0.done 0 (Xd r0 1)).bind λr1=>
   if r1=true then (
    (NX x0).bind λr2=>
    (Z1 x0.Ao x0.done (D3 (Zo x0.done 2) r2)).bind λr3=>
    some r3)
   else (
    some false)))
def yT (x0:Zg)  (k:Int->Option Bool) (v1:Int):Option Bool:=
 if decide (v1 < (x0.queue.length:Int))=true then (
  (idx x0.queue v1).bind λa0=>
  (Tl a0).bind λr4=>
  if (!r4)=true then (
   some false)
  else (
   k (Zo v1 1)))
 else (
  if decide ((x0.queue.length:Int) > 4)=true then (
   QZ x0 true)
  else (
   QZ x0 (decide (x0.tries < 0))))
def jN (x0:Zg)  : Nat->Int->Option Bool
 | 0,_=>none
 | m+1,v1=>yT x0  (jN x0  m) v1
def My (x0:Zg):Option Bool:=
 jN x0 FU 0
def yU (x0:Zg) (x1:Zh):Option Bool:=
 (Mx x1).bind λr0=>
 if r0=true then (
  (My x0).bind λr1=>
  if r1=true then (
   some (decide (x0.tries<=x1.An)))
  else (
   some false))
 else (
  some false)
def Ra (x0:Zj) (x1:Ze):Option Bool:=
 if (!x1.prio)=true then (
  some (decide (x0.tokens=0)&&(decide (x0.count=0)&&true)))
 else (
  (Z1 x0.tokens 0 x1.cap).bind λr0=>
  if r0=true then (
   (Z1 x0.count 0 (Xd x1.every 1)).bind λr1=>
   some r1)
  else (
   some false))
def jO (x0:Za) (x1:Int)  (v0:Int):Option Int:=
 if x0.Aa.live=true then (
  if decide (x0.Aa.Aj=x1)=true then (
   some (Zo v0 1))
  else (
   some v0))
 else (
  some v0)
def jP (x0:Za) (x1:Int)  (v1:Bool):Option Int:=
 if v1=true then (
  jO x0 x1 (Zo 0 1))
 else (
  jO x0 x1 0)
def jQ (x0:Za) (x1:Int):Option Int:=
 if x0.addr.live=true then (
  jP x0 x1 (decide (x0.addr.Aj=x1)))
 else (
  jP x0 x1 false)
def Mz (x0:Int):Option ByteArray:=
 (Z1 x0 0 3).bind λr0=>
 if (!r0)=true then (
  some ByteArray.empty)
 else (
  (idx [(Zd [111,107,97,121]),(Zd [101,114,114,111,114]),(Zd [114,101,116,114,121]),(Zd [115,112,108,105,116])] x0).bind λa0=>
  some a0)
def Yj (x0:Za) (x1:Zi) (x2:Bool)  (Ad:Zg) (v0:Bool):Option Bool:=
 if v0=true then (
  some false)
 else (
  if decide (x1.Ao=Ad.done)=true then (
   (Z1 x1.left 0 (Zo x0.Ae.As 2)).bind λr0=>
   if r0=true then (
    (Mz x1.Ar).bind λr1=>
    if (!(r1.toList == ByteArray.empty.toList))=true then (
     if (!x1.second)=true then (
      some true)
     else (
      if decide (x1.Ar≠0)=true then (
       some (decide (x1.left=0)))
      else (
       some false)))
    else (
     some false))
   else (
    some false))
  else (
   some false))
def Ku (x0:Za) (x1:Zi) (x2:Bool)  (v1:Bool):Option Bool:=
 if v1=true then (
  some false)
 else (
  (idx x0.m x1.Aj).bind λa0=>
  if (!x2)=true then (
   if decide (x1.Ao=(Xd a0.Ao 1))=true then (
    if decide (x1.left=0)=true then (
     if decide (x1.Ar=0)=true then (
      some (!x1.second))
     else (
      some false))
    else (
     some false))
   else (
    some false))
  else (
   if decide (x1.Ar=2)=true then (
    if decide (a0.tries≥x0.Ae.An)=true then (
     Yj x0 x1 x2 a0 true)
    else (
     if decide (x1.Ar=3)=true then (
      if a0.Ax=true then (
       Yj x0 x1 x2 a0 true)
      else (
       if decide (x0.Af=x1.Aj)=true then (
        Yj x0 x1 x2 a0 true)
       else (
        if x1.second=true then (
         Yj x0 x1 x2 a0 x0.addr.live)
        else (
         Yj x0 x1 x2 a0 false))))
     else (
      if x1.second=true then (
       Yj x0 x1 x2 a0 x0.addr.live)
      else (
       Yj x0 x1 x2 a0 false))))
   else (
    if decide (x1.Ar=3)=true then (
     if a0.Ax=true then (
      Yj x0 x1 x2 a0 true)
     else (
      if decide (x0.Af=x1.Aj)=true then (
       Yj x0 x1 x2 a0 true)
      else (
       if x1.second=true then (
        Yj x0 x1 x2 a0 x0.addr.live)
       else (
        Yj x0 x1 x2 a0 false))))
    else (
     if x1.second=true then (
      Yj x0 x1 x2 a0 x0.addr.live)
     else (
      Yj x0 x1 x2 a0 false)))))
def M0 (x0:Za) (x1:Zi) (x2:Bool):Option Bool:=
 if (!x1.live)=true then (
  some ((x1.live == false)&&(decide (x1.Aj=0)&&(decide (x1.Ao=0)&&((x1.first == false)&&(decide (x1.B2=0)&&(decide (x1.left=0)&&(decide (x1.Ar=0)&&((x1.second == false)&&true)))))))))
 else (
  (Z1 x1.Aj 0 (Xd (x0.m.length:Int) 1)).bind λr2=>
  if (!r2)=true then (
   Ku x0 x1 x2 true)
  else (
   (Z1 x1.B2 1 3).bind λr3=>
   if (!r3)=true then (
    Ku x0 x1 x2 true)
   else (
    (idx x0.splits x1.Aj).bind λa1=>
    Ku x0 x1 x2 (decide (a1 > 0)))))
def Rb (x0:Za)  (v0:Bool):Option Bool:=
 if v0=true then (
  some false)
 else (
  (idx x0.m x0.Af).bind λa0=>
  if decide ((a0.queue.length:Int) > 0)=true then (
   (idx a0.queue 0).bind λa1=>
   if a1.lock=true then (
    if (!a0.broken)=true then (
     (idx x0.splits x0.Af).bind λa2=>
     some (decide (a2=0)))
    else (
     some false))
   else (
    some false))
  else (
   some false))
def jR (x0:Za)  (k:Int->Option Bool) (v1:Int):Option Bool:=
 if decide (v1 < (x0.m.length:Int))=true then (
  (idx x0.m v1).bind λa3=>
  if decide (a3.Ao > 0)=true then (
   (idx a3.queue 0).bind λa4=>
   if a4.lock=true then (
    if (!a3.broken)=true then (
     if decide (x0.Af≠v1)=true then (
      some false)
     else (
      k (Zo v1 1)))
    else (
     k (Zo v1 1)))
   else (
    k (Zo v1 1)))
  else (
   k (Zo v1 1)))
 else (
  if decide (x0.Af=(-1))=true then (
   some (decide (x0.held=0)))
  else (
   (Z1 x0.Af 0 (Xd (x0.m.length:Int) 1)).bind λr0=>
   if (!r0)=true then (
    Rb x0 true)
   else (
    (Z1 x0.held 0 x0.Ae.Am).bind λr1=>
    Rb x0 (!r1))))
def yV (x0:Za)  : Nat->Int->Option Bool
 | 0,_=>none
 | m+1,v1=>jR x0  (yV x0  m) v1
def YJ (x0:Za):Option Bool:=
 yV x0 FU 0
def jS (x0:Za)  (k:Int->Option Bool) (v0:Int):Option Bool:=
 if decide (v0 < (x0.log.length:Int))=true then (
  (idx x0.log v0).bind λa0=>
  (Z1 a0.A4 0 (Xd x0.now 1)).bind λr0=>
  if (!r0)=true then (
   some false)
  else (
   if decide (v0 > 0)=true then (
    (idx x0.log (Xd v0 1)).bind λa1=>
    if decide (a0.A4<=a1.A4)=true then (
     some false)
    else (
     (Z1 a0.Aj 0 (Xd (x0.m.length:Int) 1)).bind λr1=>
     if (!r1)=true then (
      some false)
     else (
      (KY a0.addr a0.size).bind λr2=>
      if (!r2)=true then (
       some false)
      else (
       (Z1 a0.addr 0 511).bind λr3=>
       if (!r3)=true then (
        some false)
       else (
        (Ke a0.size).bind λr4=>
        (Z1 a0.value 0 (Xd r4 1)).bind λr5=>
        if (!r5)=true then (
         some false)
        else (
         (Z1 a0.Ar 0 1).bind λr6=>
         if (!r6)=true then (
          some false)
         else (
          k (Zo v0 1))))))))
   else (
    (Z1 a0.Aj 0 (Xd (x0.m.length:Int) 1)).bind λr1=>
    if (!r1)=true then (
     some false)
    else (
     (KY a0.addr a0.size).bind λr2=>
     if (!r2)=true then (
      some false)
     else (
      (Z1 a0.addr 0 511).bind λr3=>
      if (!r3)=true then (
       some false)
      else (
       (Ke a0.size).bind λr4=>
       (Z1 a0.value 0 (Xd r4 1)).bind λr5=>
       if (!r5)=true then (
        some false)
       else (
        (Z1 a0.Ar 0 1).bind λr6=>
        if (!r6)=true then (
         some false)
        else (
         k (Zo v0 1)))))))))
 else (
  some true)
def jT (x0:Za)  : Nat->Int->Option Bool
 | 0,_=>none
 | m+1,v0=>jS x0  (jT x0  m) v0
def YK (x0:Za):Option Bool:=
 jT x0 FU 0
def jU (x0:Za)  (k:Int->Option Bool) (v0:Int):Option Bool:=
 if decide (v0 < (x0.Ae.Ab.length:Int))=true then (
  (idx x0.m v0).bind λa0=>
  (yU a0 x0.Ae).bind λr0=>
  if (!r0)=true then (
   some false)
  else (
   (idx x0.buckets v0).bind λa1=>
   (idx x0.Ae.Ab v0).bind λa2=>
   (Ra a1 a2).bind λr1=>
   if (!r1)=true then (
    some false)
   else (
    (idx x0.splits v0).bind λa3=>
    (Z1 a3 0 x0.Ae.Ap).bind λr2=>
    if (!r2)=true then (
     some false)
    else (
     (jQ x0 v0).bind λr3=>
     if decide ((Xd a0.Ao a0.done)≠r3)=true then (
      some false)
     else (
      k (Zo v0 1))))))
 else (
  (M0 x0 x0.Aa true).bind λr4=>
  if r4=true then (
   (M0 x0 x0.addr false).bind λr5=>
   if r5=true then (
    (YJ x0).bind λr6=>
    if r6=true then (
     (YK x0).bind λr7=>
     some r7)
    else (
     some false))
   else (
    some false))
  else (
   some false))
def jV (x0:Za)  : Nat->Int->Option Bool
 | 0,_=>none
 | m+1,v0=>jU x0  (jV x0  m) v0
def Qh (x0:Za)  (v1:Bool):Option Bool:=
 if v1=true then (
  some false)
 else (
  jV x0 FU 0)
def KZ (x0:Za):Option Bool:=
 (Mx x0.Ae).bind λr8=>
 if (!r8)=true then (
  Qh x0 true)
 else (
  (Z1 x0.now 0 4000).bind λr9=>
  if (!r9)=true then (
   Qh x0 true)
  else (
   if decide ((x0.m.length:Int)≠(x0.Ae.Ab.length:Int))=true then (
    Qh x0 true)
   else (
    if decide ((x0.buckets.length:Int)≠(x0.Ae.Ab.length:Int))=true then (
     Qh x0 true)
    else (
     if decide ((x0.splits.length:Int)≠(x0.Ae.Ab.length:Int))=true then (
      Qh x0 true)
     else (
      (Tk x0.Bm x0.Ae).bind λRc=>
      if (!Rc)=true then (
       Qh x0 true)
      else (
       (Z1 x0.last (-1) (Xd (x0.Ae.Ab.length:Int) 1)).bind λjW=>
       if (!jW)=true then (
        Qh x0 true)
       else (
        (YD x0.model).bind λr12=>
        if (!r12)=true then (
         Qh x0 true)
        else (
         if decide (x0.Au < 0)=true then (
          Qh x0 true)
         else (
          Qh x0 (decide (x0.Au > x0.now)))))))))))
def Re (x0:Zk):Option Zk:=
 (Y4 8 [] x0.Aa).bind λz0=>
 some {x0 with Aa:=z0}
def Yi7 (x0:Zg)  (k:(List Zk)->Int->Option Zg) (v0:List Zk) (v1:Int):Option Zg:=
 if decide (v1 < (x0.queue.length:Int))=true then (
  (idx x0.queue v1).bind λa0=>
  (Re a0).bind λr0=>
  (Y4 64 v0 [r0]).bind λz0=>
  k z0 (Zo v1 1))
 else (
  some {x0 with queue:=v0})
def jX (x0:Zg)  : Nat->(List Zk)->Int->Option Zg
 | 0,_,_=>none
 | m+1,v0,v1=>Yi7 x0  (jX x0  m) v0 v1
def NY (x0:Zg):Option Zg:=
 jX x0 FU [] 0
def YL (x0:Zm):Option Zm:=
 (Y4 8 [] x0.AB).bind λz0=>
 (Y4 8 [] x0.A1).bind λz1=>
 some (Zm.mk z0 x0.timer z1)
def YM (x0:Zf):Option Zf:=
 (Y4 8 [] x0.mem).bind λz0=>
 (YL x0.dev).bind λr0=>
 some (Zf.mk z0 r0)
def jY (x0:Za)  (k:Za->Int->Option Za) (Ad:Za) (v0:Int):Option Za:=
 if decide (v0 < (x0.m.length:Int))=true then (
  (idx x0.m v0).bind λa0=>
  (NY a0).bind λr0=>
  (Y4 56 Ad.m [r0]).bind λz0=>
  k {Ad with m:=z0} (Zo v0 1))
 else (
  (Y4 16 [] x0.buckets).bind λz1=>
  (Y4 8 [] x0.splits).bind λz2=>
  (YM x0.model).bind λr1=>
  (Y4 56 [] x0.log).bind λz3=>
  some {Ad with buckets:=z1,splits:=z2,model:=r1,log:=z3})
def YN (x0:Za)  : Nat->Za->Int->Option Za
 | 0,_,_=>none
 | m+1,Ad,v0=>jY x0  (YN x0  m) Ad v0
def Tm (x0:Za):Option Za:=
 (XW x0.Ae).bind λr2=>
 YN x0 FU {x0 with Ae:=r2,m:=[]} 0
def jZ (x0:Zg) (x1:Int)  (v0:Bool):Option Int:=
 if v0=true then (
  some (-1))
 else (
  (idx x0.queue 0).bind λa0=>
  (YI a0.addr a0.size a0.Az).bind λr0=>
  (idx r0 x1).bind λa1=>
  some a1)
def Rf (x0:Zg) (x1:Int):Option Int:=
 (My x0).bind λr1=>
 if (!r1)=true then (
  jZ x0 x1 true)
 else (
  (NX x0).bind λr2=>
  (Z1 x1 0 (Xd r2 1)).bind λr3=>
  jZ x0 x1 (!r3))
def YO (x0:Za)  (Ad:Zq):Option Zq:=
 if x0.Aa.live=true then (
  (idx x0.m x0.Aa.Aj).bind λa0=>
  (Rf a0 x0.Aa.Ao).bind λr0=>
  some {Ad with Aa:=r0,from_:=x0.Aa.Aj})
 else (
  some Ad)
def j6 (x0:Za):Option Zq:=
 if x0.addr.live=true then (
  (idx x0.m x0.addr.Aj).bind λa1=>
  (Rf a1 x0.addr.Ao).bind λr1=>
  if x0.addr.first=true then (
   YO x0 (Zq.mk x0.now r1 2 x0.addr.Aj (-1) (-1) true 0 (-1)))
  else (
   YO x0 (Zq.mk x0.now r1 3 x0.addr.Aj (-1) (-1) true 0 (-1))))
 else (
  YO x0 (Zq.mk x0.now (-1) 0 (-1) (-1) (-1) true 0 (-1)))
def j7 (x0:Zb) (x1:Int)  (k:(List Zl)->Int->Option (List Zl)) (v0:List Zl) (v1:Int):Option (List Zl):=
 if decide (v1 < (x0.Al.length:Int))=true then (
  (idx x0.Al v1).bind λa0=>
  if decide (a0.at_=x1)=true then (
   (Re a0.Bo).bind λr0=>
   (Y4 80 v0 [{a0 with Bo:=r0}]).bind λz0=>
   k z0 (Zo v1 1))
  else (
   k v0 (Zo v1 1)))
 else (
  some v0)
def j8 (x0:Zb) (x1:Int)  : Nat->(List Zl)->Int->Option (List Zl)
 | 0,_,_=>none
 | m+1,v0,v1=>j7 x0 x1  (j8 x0 x1  m) v0 v1
def j9 (x0:Zb) (x1:Int):Option (List Zl):=
 j8 x0 x1 FU [] 0
def YP (x0:Zg) (x1:Zk)  (Ad:Zg) (v0:Bool):Option (Zg×Bool):=
 if v0=true then (
  some (Ad,false))
 else (
  (Re x1).bind λr0=>
  (Y4 64 Ad.queue [r0]).bind λz0=>
  some ({Ad with queue:=z0},true))
def kA (x0:Zg) (x1:Zk):Option (Zg×Bool):=
 (NY x0).bind λr1=>
 (My x0).bind λr2=>
 if (!r2)=true then (
  YP x0 x1 r1 true)
 else (
  (Tl x1).bind λr3=>
  if (!r3)=true then (
   YP x0 x1 r1 true)
  else (
   YP x0 x1 r1 (decide ((x0.queue.length:Int)=4))))
def kB (x0:Zj) (x1:Ze)  (v0:Bool):Option Zj:=
 if v0=true then (
  some x0)
 else (
  if decide ((Zo x0.count 1)=x1.every)=true then (
   some (Zj.mk (D3 x1.cap (Zo x0.tokens 1)) 0))
  else (
   some (Zj.mk x0.tokens (Zo x0.count 1))))
def kC (x0:Zj) (x1:Ze):Option Zj:=
 if (!x1.prio)=true then (
  kB x0 x1 true)
 else (
  (Ra x0 x1).bind λr0=>
  kB x0 x1 (!r0))
def kD (x0:Zg)  (Ad:Zg) (v0:Bool):Option (Zg×Bool):=
 if v0=true then (
  some (Ad,false))
 else (
  some ({Ad with Ao:=(Xd Ad.Ao 1)},true))
def kE (x0:Zg):Option (Zg×Bool):=
 (NY x0).bind λr0=>
 (My x0).bind λr1=>
 if (!r1)=true then (
  kD x0 r0 true)
 else (
  kD x0 r0 (decide (x0.Ao=x0.done)))
def kF (x0:Zj) (x1:Ze)  (v0:Bool):Option Zj:=
 if v0=true then (
  some (Zj.mk (D3 x1.cap (Zo x0.tokens 1)) x0.count))
 else (
  some x0)
def kG (x0:Zj) (x1:Ze):Option Zj:=
 if x1.prio=true then (
  (Ra x0 x1).bind λr0=>
  kF x0 x1 r0)
 else (
  kF x0 x1 false)
def kH (x0:Yb) (x1:Zh) (x2:Int)  (v0:Bool):Option Yb:=
 if v0=true then (
  (QY x1 x2).bind λr0=>
  some (Yb.mk x0.at_ (D3 r0 (Zo x0.Bc 1))))
 else (
  some x0)
def kI (x0:Yb) (x1:Zh) (x2:Int):Option Yb:=
 (Tk x0 x1).bind λr1=>
 if r1=true then (
  kH x0 x1 x2 (decide (x0.at_=x2)))
 else (
  kH x0 x1 x2 false)
def Tn (x0:Za) (x1:Zi):Option Za:=
 (idx x0.m x1.Aj).bind λa0=>
 (kE a0).bind λr0=>
 (Jz x0.m x1.Aj r0.1).bind λy0=>
 if decide (x1.B2=1)=true then (
  (idx x0.buckets x1.Aj).bind λa1=>
  (idx x0.Ae.Ab x1.Aj).bind λa2=>
  (kG a1 a2).bind λr1=>
  (Jz x0.buckets x1.Aj r1).bind λy1=>
  some {x0 with m:=y0,buckets:=y1})
 else (
  if decide (x1.B2=2)=true then (
   (kI x0.Bm x0.Ae x1.Aj).bind λr2=>
   some {x0 with m:=y0,Bm:=r2})
  else (
   some {x0 with m:=y0}))
def yW (x0:List Int) (x1:Int)  (v0:Bool):Option Int:=
 if v0=true then (
  some 0)
 else (
  (GF (x0.length:Int)).bind λn0=>
  (idx x0 (Dd x1 (x0.length:Int))).bind λa0=>
  some a0)
def YQ (x0:List Int) (x1:Int):Option Int:=
 if decide ((x0.length:Int)=0)=true then (
  yW x0 x1 true)
 else (
  yW x0 x1 (decide (x1 < 0)))
def kJ (x0:Zh) (x1:Zb) (x2:Int):Option Int:=
 (YQ x1.waits x2).bind λr0=>
 some (EM 1 (D3 x0.Ap (Zo (D3 r0 99) 1)))
def YR (x0:Zk) (x1:Int):Option Int:=
 if (!x0.write)=true then (
  some 0)
 else (
  (idx x0.Aa x1).bind λa0=>
  some a0)
def yX (x0:Int)  (v0:Bool):Option Int:=
 if v0=true then (
  some 0)
 else (
  if decide (x0 < 128)=true then (
   some 1)
  else (
   if decide (x0 < 192)=true then (
    some 2)
   else (
    some 3)))
def kK (x0:Int):Option Int:=
 if decide (x0 < 0)=true then (
  yX x0 true)
 else (
  yX x0 (decide (x0≥224)))
def YS (x0:List Int) (x1:Int) (x2:Int):Option Bool:=
 (YA x0).bind λr0=>
 if r0=true then (
  (KY x1 x2).bind λr1=>
  if r1=true then (
   (HG x2).bind λr2=>
   some (decide (x1<=(Xd (x0.length:Int) r2))))
  else (
   some false))
 else (
  some false)
def YT (x0:List Int) (x1:Int) (x2:Int) (x3:Int)  (k:Int->(List Int)->Int->Option (List Int×Bool)) (v0:Int) (v1:List Int) (v2:Int):Option (List Int×Bool):=
 (HG x2).bind λr0=>
 if decide (v2 < r0)=true then (
  (idx v1 (Zo x1 v2)).bind λa0=>
  (Jz v1 (Zo x1 v2) (Dd v0 256)).bind λy0=>
  k (Ft v0 256) y0 (Zo v2 1))
 else (
  some (v1,true))
def kL (x0:List Int) (x1:Int) (x2:Int) (x3:Int)  : Nat->Int->(List Int)->Int->Option (List Int×Bool)
 | 0,_,_,_=>none
 | m+1,v0,v1,v2=>YT x0 x1 x2 x3  (kL x0 x1 x2 x3  m) v0 v1 v2
def kM (x0:List Int) (x1:Int) (x2:Int) (x3:Int)  (v1:List Int) (v3:Bool):Option (List Int×Bool):=
 if v3=true then (
  some (v1,false))
 else (
  kL x0 x1 x2 x3 FU x3 v1 0)
def kN (x0:List Int) (x1:Int) (x2:Int) (x3:Int):Option (List Int×Bool):=
 (Y4 8 [] x0).bind λz0=>
 (YS x0 x1 x2).bind λr1=>
 if (!r1)=true then (
  kM x0 x1 x2 x3 z0 true)
 else (
  (Ke x2).bind λr2=>
  (Z1 x3 0 (Xd r2 1)).bind λr3=>
  kM x0 x1 x2 x3 z0 (!r3))
def YU (x0:Zm) (x1:Bool) (x2:Int) (x3:Int)  (Ad:Zm) (v0:Bool):Option (Zm×Int×Bool):=
 if v0=true then (
  (idx Ad.A1 0).bind λa0=>
  (Ys Ad.A1 1 (Ad.A1.length:Int)).bind λs0=>
  some ({Ad with A1:=s0},a0,true))
 else (
  some (Ad,0,false))
def YV (x0:Zm) (x1:Bool) (x2:Int) (x3:Int)  (Ad:Zm) (v1:Bool):Option (Zm×Int×Bool):=
 if v1=true then (
  (Y4 8 Ad.A1 [x3]).bind λz0=>
  some ({Ad with A1:=z0},x3,true))
 else (
  if decide (x2=20)=true then (
   if (!x1)=true then (
    YU x0 x1 x2 x3 Ad (decide ((Ad.A1.length:Int) > 0)))
   else (
    YU x0 x1 x2 x3 Ad false))
  else (
   YU x0 x1 x2 x3 Ad false))
def kO (x0:Zm) (x1:Bool) (x2:Int) (x3:Int)  (Ad:Zm) (v2:Bool):Option (Zm×Int×Bool):=
 if v2=true then (
  some ({Ad with timer:=x3},x3,true))
 else (
  if decide (x2=16)=true then (
   (Ke 2).bind λr0=>
   (GF r0).bind λn0=>
   some ({Ad with timer:=(Dd (Zo Ad.timer 1) r0)},Ad.timer,true))
  else (
   if decide (x2=20)=true then (
    if x1=true then (
     YV x0 x1 x2 x3 Ad (decide ((Ad.A1.length:Int) < 4)))
    else (
     YV x0 x1 x2 x3 Ad false))
   else (
    YV x0 x1 x2 x3 Ad false)))
def kP (x0:Zm) (x1:Bool) (x2:Int) (x3:Int)  (Ad:Zm) (v3:Bool):Option (Zm×Int×Bool):=
 if v3=true then (
  (idx Ad.AB (Ft x2 4)).bind λa1=>
  (Jz Ad.AB (Ft x2 4) x3).bind λy0=>
  some ({Ad with AB:=y0},x3,true))
 else (
  (Z1 x2 0 12).bind λr1=>
  if r1=true then (
   (idx Ad.AB (Ft x2 4)).bind λa2=>
   some (Ad,a2,true))
  else (
   if decide (x2=16)=true then (
    kO x0 x1 x2 x3 Ad x1)
   else (
    kO x0 x1 x2 x3 Ad false)))
def M1 (x0:Zm) (x1:Bool) (x2:Int) (x3:Int)  (Ad:Zm) (v4:Bool):Option (Zm×Int×Bool):=
 if v4=true then (
  some (Ad,0,false))
 else (
  (Z1 x2 0 12).bind λr2=>
  if r2=true then (
   kP x0 x1 x2 x3 Ad x1)
  else (
   kP x0 x1 x2 x3 Ad false))
def kQ (x0:Zm) (x1:Bool) (x2:Int) (x3:Int):Option (Zm×Int×Bool):=
 (YL x0).bind λr3=>
 (YC x0).bind λr4=>
 if (!r4)=true then (
  M1 x0 x1 x2 x3 r3 true)
 else (
  if decide ((Dd x2 4)≠0)=true then (
   M1 x0 x1 x2 x3 r3 true)
  else (
   if x1=true then (
    (Ke 2).bind λr5=>
    (Z1 x3 0 (Xd r5 1)).bind λr6=>
    M1 x0 x1 x2 x3 r3 (!r6))
   else (
    M1 x0 x1 x2 x3 r3 false)))
def YW (x0:List Int) (x1:Int) (x2:Int)  (k:Int->Int->Option (Int×Bool)) (v0:Int) (v1:Int):Option (Int×Bool):=
 if decide (v1≥0)=true then (
  (idx x0 (Zo x1 v1)).bind λa0=>
  k (Zo (Ky v0 256) a0) (Xd v1 1))
 else (
  some (v0,true))
def kR (x0:List Int) (x1:Int) (x2:Int)  : Nat->Int->Int->Option (Int×Bool)
 | 0,_,_=>none
 | m+1,v0,v1=>YW x0 x1 x2  (kR x0 x1 x2  m) v0 v1
def kS (x0:List Int) (x1:Int) (x2:Int):Option (Int×Bool):=
 (YS x0 x1 x2).bind λr0=>
 if (!r0)=true then (
  some (0,false))
 else (
  (HG x2).bind λr1=>
  kR x0 x1 x2 FU 0 (Xd r1 1))
def kT (x0:Zf) (x1:Bool) (x2:Int) (x3:Int) (x4:Int)  (Ad:Zf) (A2:Zm) (v0:Int) (v1:Bool):Option (Zf×Int×Int):=
 if v1=true then (
  some ((Zf.mk Ad.mem A2),v0,0))
 else (
  some (Ad,0,1))
def kU (x0:Zf) (x1:Bool) (x2:Int) (x3:Int) (x4:Int)  (AI:Zf) (v2:Int) (v3:Bool):Option (Zf×Int×Int):=
 if v3=true then (
  if x1=true then (
   (kN x0.mem x2 x3 x4).bind λr0=>
   some ((Zf.mk r0.1 AI.dev),x4,0))
  else (
   (kS x0.mem x2 x3).bind λr1=>
   some (AI,r1.1,0)))
 else (
  if decide (v2=3)=true then (
   (kQ x0.dev x1 (Xd x2 192) x4).bind λr2=>
   if decide (x3=2)=true then (
    kT x0 x1 x2 x3 x4 AI r2.1 r2.2.1 r2.2.2)
   else (
    kT x0 x1 x2 x3 x4 AI r2.1 r2.2.1 false))
  else (
   some (AI,0,1)))
def J2 (x0:Zf) (x1:Bool) (x2:Int) (x3:Int) (x4:Int)  (AI:Zf) (v4:Bool):Option (Zf×Int×Int):=
 if v4=true then (
  some (AI,0,1))
 else (
  (kK x2).bind λr3=>
  if decide (r3=1)=true then (
   kU x0 x1 x2 x3 x4 AI r3 (decide (r3=1)))
  else (
   kU x0 x1 x2 x3 x4 AI r3 (decide (r3=2))))
def To (x0:Zf) (x1:Bool) (x2:Int) (x3:Int) (x4:Int):Option (Zf×Int×Int):=
 (YM x0).bind λr4=>
 (YD x0).bind λr5=>
 if (!r5)=true then (
  J2 x0 x1 x2 x3 x4 r4 true)
 else (
  (KY x2 x3).bind λr6=>
  if (!r6)=true then (
   J2 x0 x1 x2 x3 x4 r4 true)
  else (
   if x1=true then (
    (Ke x3).bind λr7=>
    (Z1 x4 0 (Xd r7 1)).bind λr8=>
    J2 x0 x1 x2 x3 x4 r4 (!r8))
   else (
    J2 x0 x1 x2 x3 x4 r4 false)))
def kV (x0:Zg)  (Ad:Zg) (v0:Bool):Option (Zg×Bool):=
 if v0=true then (
  some (Ad,false))
 else (
  (NX x0).bind λr0=>
  if decide ((Zo Ad.done 1)=r0)=true then (
   (Ys Ad.queue 1 (Ad.queue.length:Int)).bind λs0=>
   some ((Zg.mk s0 0 0 0 false false),true))
  else (
   some ((Zg.mk Ad.queue Ad.Ao (Zo Ad.done 1) 0 false Ad.broken),true)))
def kW (x0:Zg):Option (Zg×Bool):=
 (NY x0).bind λr1=>
 (My x0).bind λr2=>
 if (!r2)=true then (
  kV x0 r1 true)
 else (
  kV x0 r1 (decide (x0.Ao=x0.done)))
def YX (x0:Za) (x1:Zb)  (Ad:Za) (A2:Zg) (AI:Zt):Option Za:=
 (Y4 56 Ad.log [AI]).bind λz0=>
 (kW A2).bind λr0=>
 (idx Ad.m x0.Aa.Aj).bind λa0=>
 (Jz Ad.m x0.Aa.Aj r0.1).bind λy0=>
 if decide (Ad.Af=x0.Aa.Aj)=true then (
  if decide (r0.1.done=0)=true then (
   some {Ad with m:=y0,Af:=(-1),held:=0,log:=z0})
  else (
   some {Ad with m:=y0,log:=z0}))
 else (
  some {Ad with m:=y0,log:=z0})
def kX (x0:Za) (x1:Zb):Option Za:=
 (idx x0.m x0.Aa.Aj).bind λa1=>
 if decide (x0.Aa.Ar=2)=true then (
  (Jz x0.m x0.Aa.Aj {a1 with tries:=(Zo a1.tries 1)}).bind λy1=>
  (Tn {x0 with m:=y1,Aa:=Zi.z0} x0.Aa).bind λr1=>
  some r1)
 else (
  if decide (x0.Aa.Ar=3)=true then (
   (Jz x0.m x0.Aa.Aj {a1 with Ax:=true}).bind λy2=>
   (kJ x0.Ae x1 x0.Au).bind λr2=>
   (idx x0.splits x0.Aa.Aj).bind λa2=>
   (Jz x0.splits x0.Aa.Aj r2).bind λy3=>
   (Tn {x0 with m:=y2,splits:=y3,Aa:=Zi.z0} x0.Aa).bind λr3=>
   some r3)
  else (
   (idx a1.queue 0).bind λa3=>
   (Rf a1 x0.Aa.Ao).bind λr4=>
   if decide (x0.Aa.Ar=0)=true then (
    (YR a3 x0.Aa.Ao).bind λr5=>
    (To x0.model a3.write r4 a3.size r5).bind λr6=>
    YX x0 x1 {x0 with Aa:=Zi.z0,model:=r6.1} a1 (Zt.mk x0.now x0.Aa.Aj a3.write r4 a3.size r6.2.1 x0.Aa.Ar))
   else (
    YX x0 x1 {x0 with Aa:=Zi.z0} a1 (Zt.mk x0.now x0.Aa.Aj a3.write r4 a3.size 0 x0.Aa.Ar))))
def kY (x0:Zb) (x1:Int):Option Int:=
 (YQ x0.A3 x1).bind λr0=>
 if decide (r0=2)=true then (
  some r0)
 else (
  if decide (r0=3)=true then (
   some r0)
  else (
   some 0))
def kZ (x0:Zh) (x1:Zb) (x2:Int):Option Int:=
 (YQ x1.waits x2).bind λr0=>
 some (EM 0 (D3 x0.As r0))
def YY (x0:Za) (x1:Zb)  (Ad:Zi):Option Za:=
 some {x0 with addr:=Zi.z0,Aa:=Ad,Au:=(Zo x0.Au 1)}
def Jg (x0:Za) (x1:Zb)  (Ad:Zi) (v0:Bool):Option Za:=
 if v0=true then (
  YY x0 x1 {Ad with Ar:=3})
 else (
  YY x0 x1 Ad)
def Tp (x0:Za) (x1:Zb)  (Ad:Zi) (A2:Zg) (v1:Int) (v2:Int):Option Za:=
 if (!A2.broken)=true then (
  if decide (v2=3)=true then (
   if decide (v1=2)=true then (
    if (!A2.Ax)=true then (
     Jg x0 x1 Ad (decide (x0.Af≠Ad.Aj)))
    else (
     Jg x0 x1 Ad false))
   else (
    Jg x0 x1 Ad false))
  else (
   Jg x0 x1 Ad false))
 else (
  Jg x0 x1 Ad false)
def Jk (x0:Za) (x1:Zb)  (Ad:Zi) (A2:Zg) (v1:Int) (v2:Int) (v3:Bool):Option Za:=
 if v3=true then (
  Tp x0 x1 {Ad with Ar:=2} A2 v1 v2)
 else (
  Tp x0 x1 Ad A2 v1 v2)
def Tq (x0:Za) (x1:Zb)  (Ad:Zi) (A2:Zg) (v1:Int) (v2:Int):Option Za:=
 if (!A2.broken)=true then (
  if decide (v2=2)=true then (
   if decide (v1=1)=true then (
    Jk x0 x1 Ad A2 v1 v2 (decide (A2.tries < x0.Ae.An)))
   else (
    if decide (v1=2)=true then (
     Jk x0 x1 Ad A2 v1 v2 (decide (A2.tries < x0.Ae.An)))
    else (
     Jk x0 x1 Ad A2 v1 v2 false)))
  else (
   Jk x0 x1 Ad A2 v1 v2 false))
 else (
  Jk x0 x1 Ad A2 v1 v2 false)
def Tr (x0:Za) (x1:Zb)  (Ad:Zi) (A2:Zg) (v1:Int) (v2:Int) (v4:Bool):Option Za:=
 if v4=true then (
  Tq x0 x1 {Ad with left:=(Zo Ad.left 2)} A2 v1 v2)
 else (
  Tq x0 x1 Ad A2 v1 v2)
def Ts (x0:Za) (x1:Zb)  (Ad:Zi) (A2:Zg) (v1:Int) (v2:Int):Option Za:=
 if decide (v1=3)=true then (
  Tr x0 x1 Ad A2 v1 v2 (!A2.broken))
 else (
  Tr x0 x1 Ad A2 v1 v2 false)
def Tt (x0:Za) (x1:Zb)  (AI:Zg) (Tu:Zk) (v5:Int) (v1:Int) (v2:Int) (v6:Bool):Option Za:=
 if v6=true then (
  Ts x0 x1 {x0.addr with Ar:=1} AI v1 v2)
 else (
  (kZ x0.Ae x1 x0.Au).bind λr0=>
  (YR Tu x0.addr.Ao).bind λr1=>
  (To x0.model Tu.write v5 Tu.size r1).bind λr2=>
  Ts x0 x1 {x0.addr with left:=r0,Ar:=r2.2.2} AI v1 v2)
def lA (x0:Za) (x1:Zb):Option Za:=
 if (!x0.addr.live)=true then (
  some {x0 with addr:=Zi.z0})
 else (
  (idx x0.m x0.addr.Aj).bind λa0=>
  (idx a0.queue 0).bind λa1=>
  (Rf a0 x0.addr.Ao).bind λr3=>
  (kK r3).bind λr4=>
  (kY x1 x0.Au).bind λr5=>
  if a0.broken=true then (
   Tt x0 x1 a0 a1 r3 r4 r5 true)
  else (
   Tt x0 x1 a0 a1 r3 r4 r5 (decide (r4=0))))
def YZ (x0:Zg):Option Bool:=
 (My x0).bind λr0=>
 if r0=true then (
  (NX x0).bind λr1=>
  some (decide (x0.Ao < r1)))
 else (
  some false)
def ZA (x0:Zj) (x1:Ze)  (v0:Bool):Option (Zj×Bool):=
 if v0=true then (
  some (x0,false))
 else (
  some ((Zj.mk (Xd x0.tokens 1) x0.count),true))
def lB (x0:Zj) (x1:Ze):Option (Zj×Bool):=
 if (!x1.prio)=true then (
  ZA x0 x1 true)
 else (
  (Ra x0 x1).bind λr0=>
  if (!r0)=true then (
   ZA x0 x1 true)
  else (
   ZA x0 x1 (decide (x0.tokens=0))))
def lC (x0:Zg)  (Ad:Zg) (v0:Bool):Option (Zg×Bool):=
 if v0=true then (
  some (Ad,false))
 else (
  some ({Ad with Ao:=(Zo Ad.Ao 1)},true))
def lD (x0:Zg):Option (Zg×Bool):=
 (NY x0).bind λr0=>
 (YZ x0).bind λr1=>
 if (!r1)=true then (
  lC x0 r0 true)
 else (
  lC x0 r0 (decide (x0.Ao=(Zo x0.done 2))))
def yY (x0:Yb) (x1:Zh) (x2:List Bool)  (k:Int->Option (Yb×Int)) (v0:Int):Option (Yb×Int):=
 if decide (v0<=(x2.length:Int))=true then (
  (GF (x2.length:Int)).bind λn0=>
  (idx x2 (Dd (Zo x0.at_ v0) (x2.length:Int))).bind λa0=>
  if a0=true then (
   (QY x1 (Dd (Zo x0.at_ v0) (x2.length:Int))).bind λr0=>
   some ((Yb.mk (Dd (Zo x0.at_ v0) (x2.length:Int)) (Xd r0 1)),(Dd (Zo x0.at_ v0) (x2.length:Int))))
  else (
   k (Zo v0 1)))
 else (
  some ((Yb.mk x0.at_ 0),(-1)))
def lE (x0:Yb) (x1:Zh) (x2:List Bool)  : Nat->Int->Option (Yb×Int)
 | 0,_=>none
 | m+1,v0=>yY x0 x1 x2  (lE x0 x1 x2  m) v0
def lF (x0:Yb) (x1:Zh) (x2:List Bool)  (v1:Bool):Option (Yb×Int):=
 if v1=true then (
  some ((Yb.mk x0.at_ (Xd x0.Bc 1)),x0.at_))
 else (
  lE x0 x1 x2 FU 1)
def lG (x0:Yb) (x1:Zh) (x2:List Bool)  (v2:Bool):Option (Yb×Int):=
 if v2=true then (
  some (x0,(-1)))
 else (
  if decide (x0.Bc > 0)=true then (
   (idx x2 x0.at_).bind λa1=>
   lF x0 x1 x2 a1)
  else (
   lF x0 x1 x2 false))
def lH (x0:Yb) (x1:Zh) (x2:List Bool):Option (Yb×Int):=
 (Tk x0 x1).bind λr1=>
 if (!r1)=true then (
  lG x0 x1 x2 true)
 else (
  lG x0 x1 x2 (decide ((x2.length:Int)≠(x1.Ab.length:Int))))
def lI (x0:Za) (DE:Za->Zi->(List Bool)->Int->Option Za) (Ad:Za) (A2:Zi) (v0:List Bool) (v1:Int) (v2:Bool):Option Za:=
 if v2=true then (
  (idx Ad.buckets v1).bind λa0=>
  (idx Ad.Ae.Ab v1).bind λa1=>
  (lB a0 a1).bind λr0=>
  (Jz Ad.buckets v1 r0.1).bind λy0=>
  DE {Ad with buckets:=y0} (Zi.mk false v1 0 false 1 0 0 false) v0 (Zo v1 1))
 else (
  DE Ad A2 v0 (Zo v1 1))
def lJ (x0:Za)  (Ad:Za) (A2:Zi) (AI:Zg):Option Za:=
 (lD AI).bind λr1=>
 (idx Ad.m A2.Aj).bind λa2=>
 (Jz Ad.m A2.Aj r1.1).bind λy1=>
 some {Ad with m:=y1,last:=A2.Aj,addr:=A2}
def ZB (x0:Za)  (Ad:Za) (A2:Zi) (AI:Zg) (v3:Bool):Option Za:=
 if v3=true then (
  lJ x0 {Ad with Af:=A2.Aj,held:=0} A2 AI)
 else (
  lJ x0 Ad A2 AI)
def ZC (x0:Za)  (Ad:Za) (A2:Zi) (AI:Zg):Option Za:=
 (idx AI.queue 0).bind λa3=>
 if a3.lock=true then (
  if (!AI.broken)=true then (
   ZB x0 Ad A2 AI (decide (Ad.Af < 0)))
  else (
   ZB x0 Ad A2 AI false))
 else (
  ZB x0 Ad A2 AI false)
def NZ (x0:Za)  (Ad:Za) (A2:Zi):Option Za:=
 if decide (A2.Aj < 0)=true then (
  some Ad)
 else (
  (idx Ad.m A2.Aj).bind λa4=>
  if decide (a4.Ao=0)=true then (
   ZC x0 Ad {A2 with live:=true,Ao:=a4.Ao,first:=true} a4)
  else (
   ZC x0 Ad {A2 with live:=true,Ao:=a4.Ao,first:=(decide (Ad.last≠A2.Aj))} a4))
def ZD (x0:Za)  (Ad:Za) (A2:Zi) (v0:List Bool) (v4:Bool):Option Za:=
 if v4=true then (
  (lH Ad.Bm Ad.Ae v0).bind λr2=>
  NZ x0 {Ad with Bm:=r2.1} {A2 with Aj:=r2.2,B2:=2})
 else (
  NZ x0 Ad A2)
def Tv (x0:Za) (DE:Za->Zi->(List Bool)->Int->Option Za) (Ad:Za) (A2:Zi) (v0:List Bool) (v1:Int) (v5:Bool):Option Za:=
 if v5=true then (
  (idx v0 v1).bind λa5=>
  if a5=true then (
   (idx Ad.buckets v1).bind λa6=>
   lI x0 DE Ad A2 v0 v1 (decide (a6.tokens > 0)))
  else (
   lI x0 DE Ad A2 v0 v1 false))
 else (
  if decide (A2.Aj < 0)=true then (
   ZD x0 Ad A2 v0 (decide (Ad.Af < 0)))
  else (
   ZD x0 Ad A2 v0 false))
def Rg (x0:Za)  (k:Za->Zi->(List Bool)->Int->Option Za) (Ad:Za) (A2:Zi) (v0:List Bool) (v1:Int):Option Za:=
 if decide (v1 < (Ad.m.length:Int))=true then (
  Tv x0 k Ad A2 v0 v1 (decide (A2.Aj < 0)))
 else (
  Tv x0 k Ad A2 v0 v1 false)
def Rh (x0:Za)  : Nat->Za->Zi->(List Bool)->Int->Option Za
 | 0,_,_,_,_=>none
 | m+1,Ad,A2,v0,v1=>Rg x0  (Rh x0  m) Ad A2 v0 v1
def lK (x0:Za)  (A2:Zi) (v0:List Bool):Option Za:=
 Rh x0 FU x0 A2 v0 0
def lL (x0:Za)  (v0:List Bool) (v6:Bool):Option Za:=
 if v6=true then (
  lK x0 (Zi.mk false x0.Af 0 false 3 0 0 false) v0)
 else (
  lK x0 (Zi.mk false (-1) 0 false 0 0 0 false) v0)
def lM (x0:Za)  (k:(List Bool)->Int->Option Za) (v0:List Bool) (v7:Int):Option Za:=
 if decide (v7 < (x0.m.length:Int))=true then (
  (idx x0.m v7).bind λa7=>
  (YZ a7).bind λr3=>
  if r3=true then (
   (idx x0.splits v7).bind λa8=>
   if decide (a8=0)=true then (
    if decide (x0.Af < 0)=true then (
     (Y4 1 v0 [true]).bind λz0=>
     k z0 (Zo v7 1))
    else (
     (Y4 1 v0 [decide (x0.Af=v7)]).bind λz0=>
     k z0 (Zo v7 1)))
   else (
    (Y4 1 v0 [false]).bind λz0=>
    k z0 (Zo v7 1)))
  else (
   (Y4 1 v0 [false]).bind λz0=>
   k z0 (Zo v7 1)))
 else (
  if decide (x0.Af≥0)=true then (
   (idx v0 x0.Af).bind λa9=>
   lL x0 v0 a9)
  else (
   lL x0 v0 false))
def lN (x0:Za)  : Nat->(List Bool)->Int->Option Za
 | 0,_,_=>none
 | m+1,v0,v7=>lM x0  (lN x0  m) v0 v7
def lO (x0:Za):Option Za:=
 lN x0 FU [] 0
def Tw (x0:Za) (x1:Zb)  (Ad:Za) (A2:Zq):Option (Za×Zq):=
 some ({Ad with now:=(Zo Ad.now 1)},A2)
def Tx (x0:Za) (x1:Zb)  (Ad:Za) (AI:Zq):Option (Za×Zq):=
 (lA Ad x1).bind λr0=>
 (lO r0).bind λr1=>
 if r1.addr.live=true then (
  Tw x0 x1 r1 {AI with C0:=r1.addr.Aj})
 else (
  Tw x0 x1 r1 AI)
def Oa (x0:Za) (x1:Zb)  (Ad:Za) (AI:Zq) (v0:Bool):Option (Za×Zq):=
 if v0=true then (
  (idx Ad.m Ad.Af).bind λa0=>
  (Jz Ad.m Ad.Af {a0 with broken:=true}).bind λy0=>
  Tx x0 x1 {Ad with m:=y0,Af:=(-1),held:=0} AI)
 else (
  Tx x0 x1 Ad AI)
def Kw (x0:Za) (x1:Zb)  (Ad:Za) (AI:Zq):Option (Za×Zq):=
 if AI.ready=true then (
  if decide (Ad.Af≥0)=true then (
   Oa x0 x1 Ad AI (decide (Ad.held≥Ad.Ae.Am)))
  else (
   Oa x0 x1 Ad AI false))
 else (
  Tw x0 x1 Ad AI)
def Ob (x0:Za) (x1:Zb)  (Ad:Za) (AI:Zq) (v1:Bool):Option (Za×Zq):=
 if v1=true then (
  if Ad.addr.live=true then (
   (Tn {Ad with addr:=Zi.z0,Aa:={Ad.Aa with second:=true}} Ad.addr).bind λr2=>
   Kw x0 x1 r2 {AI with ready:=false,Ar:=Ad.Aa.Ar})
  else (
   Kw x0 x1 {Ad with Aa:={Ad.Aa with second:=true}} {AI with ready:=false,Ar:=Ad.Aa.Ar}))
 else (
  if Ad.Aa.live=true then (
   (kX Ad x1).bind λr3=>
   Kw x0 x1 r3 {AI with Ar:=Ad.Aa.Ar})
  else (
   Kw x0 x1 Ad AI))
def lP (x0:Za) (x1:Zb)  (Ad:Za) (AI:Zq) (v2:Bool):Option (Za×Zq):=
 if v2=true then (
  Kw x0 x1 {Ad with Aa:={Ad.Aa with left:=(Xd Ad.Aa.left 1)}} {AI with ready:=false})
 else (
  if Ad.Aa.live=true then (
   if decide (Ad.Aa.Ar≠0)=true then (
    Ob x0 x1 Ad AI (!Ad.Aa.second))
   else (
    Ob x0 x1 Ad AI false))
  else (
   Ob x0 x1 Ad AI false))
def Oc (x0:Za) (x1:Zb)  (Ad:Za) (AI:Zq):Option (Za×Zq):=
 if Ad.Aa.live=true then (
  lP x0 x1 Ad AI (decide (Ad.Aa.left > 0)))
 else (
  lP x0 x1 Ad AI false)
def lQ (x0:Za) (x1:Zb)  (k:Za->Zq->Int->Option (Za×Zq)) (Ad:Za) (AI:Zq) (v3:Int):Option (Za×Zq):=
 if decide (v3 < (Ad.m.length:Int))=true then (
  (idx Ad.splits v3).bind λa1=>
  (Jz Ad.splits v3 (EM 0 (Xd a1 1))).bind λy1=>
  (idx Ad.buckets v3).bind λa2=>
  (idx Ad.Ae.Ab v3).bind λa3=>
  (kC a2 a3).bind λr4=>
  (Jz Ad.buckets v3 r4).bind λy2=>
  k {Ad with buckets:=y2,splits:=y1} AI (Zo v3 1))
 else (
  if decide (Ad.Af≥0)=true then (
   Oc x0 x1 {Ad with held:=(D3 Ad.Ae.Am (Zo Ad.held 1))} AI)
  else (
   Oc x0 x1 Ad AI))
def Ri (x0:Za) (x1:Zb)  : Nat->Za->Zq->Int->Option (Za×Zq)
 | 0,_,_,_=>none
 | m+1,Ad,AI,v3=>lQ x0 x1  (Ri x0 x1  m) Ad AI v3
def lR (x0:Za) (x1:Zb)  (k:Za->Zq->(List Zl)->Int->Option (Za×Zq)) (Ad:Za) (AI:Zq) (v4:List Zl) (v5:Int):Option (Za×Zq):=
 if decide (v5 < (v4.length:Int))=true then (
  (idx v4 v5).bind λa4=>
  (Z1 a4.Aj 0 (Xd (Ad.m.length:Int) 1)).bind λr5=>
  if r5=true then (
   (idx Ad.m a4.Aj).bind λa5=>
   (kA a5 a4.Bo).bind λr6=>
   (Jz Ad.m a4.Aj r6.1).bind λy3=>
   k {Ad with m:=y3} AI v4 (Zo v5 1))
  else (
   k Ad AI v4 (Zo v5 1)))
 else (
  Ri x0 x1 FU Ad AI 0)
def ZE (x0:Za) (x1:Zb)  : Nat->Za->Zq->(List Zl)->Int->Option (Za×Zq)
 | 0,_,_,_,_=>none
 | m+1,Ad,AI,v4,v5=>lR x0 x1  (ZE x0 x1  m) Ad AI v4 v5
def ZF (x0:Za) (x1:Zb):Option (Za×Zq):=
 (Tm x0).bind λr7=>
 (j6 r7).bind λr8=>
 (j9 x1 r7.now).bind λr9=>
 ZE x0 x1 FU r7 r8 r9 0
def lS (x0:Za) (x1:Zb)  (v0:Bool):Option (Za×Zq):=
 if v0=true then (
  (Tm x0).bind λr0=>
  some (r0,Zq.z0))
 else (
  (ZF x0 x1).bind λr1=>
  some (r1.1,r1.2))
def lT (x0:Za) (x1:Zb):Option (Za×Zq):=
 (KZ x0).bind λr2=>
 if (!r2)=true then (
  lS x0 x1 true)
 else (
  lS x0 x1 (decide (x0.now=4000)))
def lU (x0:Int):Option ByteArray:=
 if decide (x0=0)=true then (
  some (Zd [105,100,108,101]))
 else (
  if decide (x0=2)=true then (
   some (Zd [102,105,114,115,116]))
  else (
   if decide (x0=3)=true then (
    some (Zd [110,101,120,116]))
   else (
    some ByteArray.empty)))
def M3 (x0:Int):Option ByteArray:=
 if decide (x0 < 0)=true then (
  some (Zd [45]))
 else (
  (Qz x0).bind λr0=>
  some r0)
def ZG (x0:Zq)  (v0:ByteArray):Option ByteArray:=
 (Mz x0.Ar).bind λr0=>
 (Ya v0 r0).bind λn0=>
 (Ya (v0++r0) (Zd [32])).bind λn1=>
 (M3 x0.C0).bind λr1=>
 (Ya ((v0++r0)++(Zd [32])) r1).bind λn2=>
 some (((v0++r0)++(Zd [32]))++r1)
def lV (x0:Zq):Option ByteArray:=
 (Qz x0.A4).bind λr2=>
 (Ya r2 (Zd [32])).bind λn3=>
 (lU x0.kind).bind λr3=>
 (Ya (r2++(Zd [32])) r3).bind λn4=>
 (Ya ((r2++(Zd [32]))++r3) (Zd [32])).bind λn5=>
 (M3 x0.Aj).bind λr4=>
 (Ya (((r2++(Zd [32]))++r3)++(Zd [32])) r4).bind λn6=>
 (Ya ((((r2++(Zd [32]))++r3)++(Zd [32]))++r4) (Zd [58])).bind λn7=>
 (M3 x0.addr).bind λr5=>
 (Ya (((((r2++(Zd [32]))++r3)++(Zd [32]))++r4)++(Zd [58])) r5).bind λn8=>
 (Ya ((((((r2++(Zd [32]))++r3)++(Zd [32]))++r4)++(Zd [58]))++r5) (Zd [32])).bind λn9=>
 (M3 x0.from_).bind λr6=>
 (Ya (((((((r2++(Zd [32]))++r3)++(Zd [32]))++r4)++(Zd [58]))++r5)++(Zd [32])) r6).bind λn10=>
 (Ya ((((((((r2++(Zd [32]))++r3)++(Zd [32]))++r4)++(Zd [58]))++r5)++(Zd [32]))++r6) (Zd [58])).bind λn11=>
 (M3 x0.Aa).bind λr7=>
 (Ya (((((((((r2++(Zd [32]))++r3)++(Zd [32]))++r4)++(Zd [58]))++r5)++(Zd [32]))++r6)++(Zd [58])) r7).bind λn12=>
 (Ya ((((((((((r2++(Zd [32]))++r3)++(Zd [32]))++r4)++(Zd [58]))++r5)++(Zd [32]))++r6)++(Zd [58]))++r7) (Zd [32])).bind λn13=>
 if x0.ready=true then (
  (Ya (((((((((((r2++(Zd [32]))++r3)++(Zd [32]))++r4)++(Zd [58]))++r5)++(Zd [32]))++r6)++(Zd [58]))++r7)++(Zd [32])) (Zd [114,101,97,100,121,32])).bind λn14=>
  ZG x0 ((((((((((((r2++(Zd [32]))++r3)++(Zd [32]))++r4)++(Zd [58]))++r5)++(Zd [32]))++r6)++(Zd [58]))++r7)++(Zd [32]))++(Zd [114,101,97,100,121,32])))
 else (
  (Ya (((((((((((r2++(Zd [32]))++r3)++(Zd [32]))++r4)++(Zd [58]))++r5)++(Zd [32]))++r6)++(Zd [58]))++r7)++(Zd [32])) (Zd [119,97,105,116,32])).bind λn15=>
  ZG x0 ((((((((((((r2++(Zd [32]))++r3)++(Zd [32]))++r4)++(Zd [58]))++r5)++(Zd [32]))++r6)++(Zd [58]))++r7)++(Zd [32]))++(Zd [119,97,105,116,32])))
def Yiv (x0:Za)  (k:Int->Option Bool) (v0:Int):Option Bool:=
 if decide (v0 < (x0.m.length:Int))=true then (
  (idx x0.m v0).bind λa0=>
  if decide ((a0.queue.length:Int) > 0)=true then (
   some false)
  else (
   k (Zo v0 1)))
 else (
  some true)
def lW (x0:Za)  : Nat->Int->Option Bool
 | 0,_=>none
 | m+1,v0=>Yiv x0  (lW x0  m) v0
def lX (x0:Za):Option Bool:=
 lW x0 FU 0
def Yfz (x0:Zb)  (k:Int->Int->Option Int) (v0:Int) (v1:Int):Option Int:=
 if decide (v1 < (x0.Al.length:Int))=true then (
  (idx x0.Al v1).bind λa0=>
  k (EM v0 a0.at_) (Zo v1 1))
 else (
  some v0)
def lY (x0:Zb)  : Nat->Int->Int->Option Int
 | 0,_,_=>none
 | m+1,v0,v1=>Yfz x0  (lY x0  m) v0 v1
def lZ (x0:Zb):Option Int:=
 lY x0 FU (-1) 0
def Ty (x0:Za) (x1:Zb) (AM:Za->Int->Option (Za×Int)) (Ad:Za) (v0:Int) (v1:Bool):Option (Za×Int):=
 if v1=true then (
  (ZF Ad x1).bind λr0=>
  AM r0.1 (Zo v0 1))
 else (
  some (Ad,v0))
def ZH (x0:Za) (x1:Zb)  (k:Za->Int->Option (Za×Int)) (Ad:Za) (v0:Int):Option (Za×Int):=
 if decide (Ad.now < 4000)=true then (
  (lX Ad).bind λr1=>
  if (!r1)=true then (
   Ty x0 x1 k Ad v0 true)
  else (
   (lZ x1).bind λr2=>
   Ty x0 x1 k Ad v0 (decide (Ad.now<=r2))))
 else (
  Ty x0 x1 k Ad v0 false)
def Rj (x0:Za) (x1:Zb)  : Nat->Za->Int->Option (Za×Int)
 | 0,_,_=>none
 | m+1,Ad,v0=>ZH x0 x1  (Rj x0 x1  m) Ad v0
def l5 (x0:Za) (x1:Zb):Option (Za×Int):=
 (Tm x0).bind λr3=>
 (KZ x0).bind λr4=>
 if (!r4)=true then (
  some (r3,0))
 else (
  Rj x0 x1 FU r3 0)
def Yid (x0:Za)  (k:Int->Option Bool) (v0:Int):Option Bool:=
 if decide (v0 < (x0.m.length:Int))=true then (
  (idx x0.m v0).bind λa0=>
  if decide ((a0.queue.length:Int) > 0)=true then (
   some false)
  else (
   k (Zo v0 1)))
 else (
  (KZ x0).bind λr0=>
  some r0)
def l6 (x0:Za)  : Nat->Int->Option Bool
 | 0,_=>none
 | m+1,v0=>Yid x0  (l6 x0  m) v0
def l7 (x0:Za):Option Bool:=
 l6 x0 FU 0
def l8 (x0:List Zt) (AM:Zf->Int->Option (Zf×Int)) (Ad:Zf) (A2:Zf) (v0:Int) (v1:Bool):Option (Zf×Int):=
 if v1=true then (
  some (Ad,v0))
 else (
  AM A2 (Zo v0 1))
def yZ (x0:List Zt)  (k:Zf->Int->Option (Zf×Int)) (Ad:Zf) (v0:Int):Option (Zf×Int):=
 if decide (v0 < (x0.length:Int))=true then (
  (idx x0 v0).bind λa0=>
  if decide (a0.Ar=1)=true then (
   k Ad (Zo v0 1))
  else (
   (To Ad a0.write a0.addr a0.size a0.value).bind λr0=>
   if decide (r0.2.2≠a0.Ar)=true then (
    l8 x0 k Ad r0.1 v0 true)
   else (
    l8 x0 k Ad r0.1 v0 (decide (r0.2.1≠a0.value)))))
 else (
  some (Ad,(-1)))
def ZI (x0:List Zt)  : Nat->Zf->Int->Option (Zf×Int)
 | 0,_,_=>none
 | m+1,Ad,v0=>yZ x0  (ZI x0  m) Ad v0
def l9 (x0:List Zt):Option (Zf×Int):=
 (XX).bind λr1=>
 ZI x0 FU r1 0
def ZJ (x0:Zt)  (v0:ByteArray):Option ByteArray:=
 (Qz x0.A4).bind λr0=>
 (Ya r0 (Zd [32])).bind λn0=>
 (Qz x0.Aj).bind λr1=>
 (Ya (r0++(Zd [32])) r1).bind λn1=>
 (Ya ((r0++(Zd [32]))++r1) (Zd [32])).bind λn2=>
 (Ya (((r0++(Zd [32]))++r1)++(Zd [32])) v0).bind λn3=>
 (Qz x0.addr).bind λr2=>
 (Ya ((((r0++(Zd [32]))++r1)++(Zd [32]))++v0) r2).bind λn4=>
 (Ya (((((r0++(Zd [32]))++r1)++(Zd [32]))++v0)++r2) (Zd [32])).bind λn5=>
 (Qz x0.value).bind λr3=>
 (Ya ((((((r0++(Zd [32]))++r1)++(Zd [32]))++v0)++r2)++(Zd [32])) r3).bind λn6=>
 (Ya (((((((r0++(Zd [32]))++r1)++(Zd [32]))++v0)++r2)++(Zd [32]))++r3) (Zd [32])).bind λn7=>
 (Mz x0.Ar).bind λr4=>
 (Ya ((((((((r0++(Zd [32]))++r1)++(Zd [32]))++v0)++r2)++(Zd [32]))++r3)++(Zd [32])) r4).bind λn8=>
 some (((((((((r0++(Zd [32]))++r1)++(Zd [32]))++v0)++r2)++(Zd [32]))++r3)++(Zd [32]))++r4)
def mA (x0:Zt):Option ByteArray:=
 if x0.write=true then (
  ZJ x0 (Zd [119,114,105,116,101,32]))
 else (
  ZJ x0 (Zd [114,101,97,100,32]))
def mB (x0:Zx) (x1:ByteArray):Option (Zx×ByteArray):=
 if (x1.toList == (Zd [110,101,119]).toList)=true then (
  (jE x0.c).bind λr0=>
  if (!r0.2)=true then (
   some (x0,(Zd [110,111])))
  else (
   some ({x0 with b:=r0.1,on:=true},(Zd [111,107]))))
 else (
  if (x1.toList == (Zd [99,111,110,102]).toList)=true then (
   (Tj x0.c).bind λr1=>
   if (r1.toList == ByteArray.empty.toList)=true then (
    some (x0,(Zd [110,111,110,101])))
   else (
    some (x0,r1)))
  else (
   (KW [(Zd [115,116,101,112]),(Zd [111,117,116]),(Zd [108,111,103]),(Zd [105,100,108,101]),(Zd [111,107])] x1).bind λr2=>
   if decide (r2 < 0)=true then (
    some (x0,(Zd [119,104,97,116])))
   else (
    if (!x0.on)=true then (
     some (x0,(Zd [110,111,110,101])))
    else (
     if (x1.toList == (Zd [115,116,101,112]).toList)=true then (
      (lT x0.b x0.s).bind λr3=>
      if decide (x0.b.now=4000)=true then (
       some (x0,(Zd [101,110,100])))
      else (
       (lV r3.2).bind λr4=>
       some ({x0 with b:=r3.1},r4)))
     else (
      if (x1.toList == (Zd [111,117,116]).toList)=true then (
       (l5 x0.b x0.s).bind λr5=>
       (Qz r5.2).bind λr6=>
       some ({x0 with b:=r5.1},r6))
      else (
       if (x1.toList == (Zd [105,100,108,101]).toList)=true then (
        (l7 x0.b).bind λr7=>
        if r7=true then (
         some (x0,(Zd [121,101,115])))
        else (
         some (x0,(Zd [110,111]))))
       else (
        if (x1.toList == (Zd [111,107]).toList)=true then (
         (l9 x0.b.log).bind λr8=>
         (M3 r8.2).bind λr9=>
         some (x0,r9))
        else (
         if decide ((x0.b.log.length:Int)=0)=true then (
          some (x0,(Zd [45])))
         else (
          (idx x0.b.log (Xd (x0.b.log.length:Int) 1)).bind λa0=>
          (mA a0).bind λRc=>
          (Ya Rc (Zd [32,111,102,32])).bind λn0=>
          (Qz (x0.b.log.length:Int)).bind λjW=>
          (Ya (Rc++(Zd [32,111,102,32])) jW).bind λn1=>
          some (x0,((Rc++(Zd [32,111,102,32]))++jW)))))))))))
def ZK (x0:ByteArray) (AM:Int->Int->Int->Option (Int×Bool)) (v0:Int) (v1:Int) (v2:Int) (v3:Bool):Option (Int×Bool):=
 if v3=true then (
  (GG x0 v2).bind λa0=>
  AM (Zo (Ky v0 10) (NQ (yC a0 48))) (Zo v1 1) (Zo v2 1))
 else (
  AM v0 v1 (Zo v2 1))
def Rk (x0:ByteArray)  (v0:Int) (v1:Int):Option (Int×Bool):=
 if decide (v1 > 9)=true then (
  some (0,false))
 else (
  if decide ((x0.size:Int) > 10)=true then (
   some (0,false))
  else (
   (Qz v0).bind λr0=>
   if (!(r0.toList == x0.toList))=true then (
    some (0,false))
   else (
    some (v0,true))))
def Wj (x0:ByteArray)  (v0:Int) (v1:Int) (v4:Bool):Option (Int×Bool):=
 if v4=true then (
  Rk x0 (Tf v0) v1)
 else (
  Rk x0 v0 v1)
def Tz (x0:ByteArray) (AM:Int->Int->Int->Option (Int×Bool)) (v0:Int) (v1:Int) (v2:Int) (v5:Bool):Option (Int×Bool):=
 if v5=true then (
  (GG x0 v2).bind λa1=>
  if decide (a1≥48)=true then (
   ZK x0 AM v0 v1 v2 (decide (a1<=57)))
  else (
   ZK x0 AM v0 v1 v2 false))
 else (
  if decide ((x0.size:Int) > 0)=true then (
   (GG x0 0).bind λa2=>
   Wj x0 v0 v1 (decide (a2=45)))
  else (
   Wj x0 v0 v1 false))
def mC (x0:ByteArray)  (k:Int->Int->Int->Option (Int×Bool)) (v0:Int) (v1:Int) (v2:Int):Option (Int×Bool):=
 if decide (v2 < (x0.size:Int))=true then (
  Tz x0 k v0 v1 v2 (decide (v2 < 11)))
 else (
  Tz x0 k v0 v1 v2 false)
def mD (x0:ByteArray)  : Nat->Int->Int->Int->Option (Int×Bool)
 | 0,_,_,_=>none
 | m+1,v0,v1,v2=>mC x0  (mD x0  m) v0 v1 v2
def Jr (x0:ByteArray):Option (Int×Bool):=
 mD x0 FU 0 0 0
def Rl (x0:ByteArray) (AM:Zh->(List ByteArray)->Int->Option (Zh×Bool)) (Ad:Zh) (A2:Ze) (v0:List ByteArray) (v1:Int):Option (Zh×Bool):=
 (Y4 32 Ad.Ab [A2]).bind λz0=>
 AM {Ad with Ab:=z0} v0 (Zo v1 1)
def ZL (x0:ByteArray)  (k:Zh->(List ByteArray)->Int->Option (Zh×Bool)) (Ad:Zh) (v0:List ByteArray) (v1:Int):Option (Zh×Bool):=
 if decide (v1 < (v0.length:Int))=true then (
  (idx v0 v1).bind λa0=>
  (Wt a0 58).bind λr0=>
  (idx r0 0).bind λa1=>
  (Jr a1).bind λr1=>
  if decide ((r0.length:Int)=3)=true then (
   (idx r0 1).bind λa2=>
   (Jr a2).bind λr2=>
   (idx r0 2).bind λa3=>
   (Jr a3).bind λr3=>
   Rl x0 k Ad (Ze.mk r1.1 true r2.1 r3.1) v0 v1)
  else (
   Rl x0 k Ad (Ze.mk r1.1 false 0 0) v0 v1))
 else (
  (Tj Ad).bind λr4=>
  if (!(r4.toList == x0.toList))=true then (
   some (Zh.z0,false))
  else (
   if (x0.toList == ByteArray.empty.toList)=true then (
    some (Zh.z0,false))
   else (
    some (Ad,true))))
def Jj (x0:ByteArray)  : Nat->Zh->(List ByteArray)->Int->Option (Zh×Bool)
 | 0,_,_,_=>none
 | m+1,Ad,v0,v1=>ZL x0  (Jj x0  m) Ad v0 v1
def Od (x0:ByteArray):Option (Zh×Bool):=
 (Wt x0 32).bind λr5=>
 if decide ((r5.length:Int) < 6)=true then (
  some (Zh.z0,false))
 else (
  (idx r5 0).bind λa4=>
  (Jr a4).bind λr6=>
  (idx r5 1).bind λa5=>
  (Jr a5).bind λr7=>
  (idx r5 2).bind λa6=>
  (Jr a6).bind λr8=>
  (idx r5 3).bind λa7=>
  (Jr a7).bind λr9=>
  (idx r5 4).bind λa8=>
  (Jr a8).bind λRc=>
  Jj x0 FU (Zh.mk [] r6.1 r7.1 r8.1 r9.1 Rc.1) r5 5)
def Oe (x0:ByteArray) (AM:ByteArray->Int->Int->Int->Option Int) (v0:ByteArray) (v1:Int) (v2:Int) (v3:Int) (v4:Bool):Option Int:=
 if v4=true then (
  some 0)
 else (
  (GG v0 v3).bind λa0=>
  AM v0 v1 (Xd (Zo (Ky v2 10) (NQ a0)) 48) (Zo v3 1))
def ZM (x0:ByteArray)  (k:ByteArray->Int->Int->Int->Option Int) (v0:ByteArray) (v1:Int) (v2:Int) (v3:Int):Option Int:=
 if decide (v3 < (v0.size:Int))=true then (
  (GG v0 v3).bind λa1=>
  if decide (a1 < 48)=true then (
   Oe x0 k v0 v1 v2 v3 true)
  else (
   if decide (a1 > 57)=true then (
    Oe x0 k v0 v1 v2 v3 true)
   else (
    Oe x0 k v0 v1 v2 v3 (decide ((v0.size:Int) > 18)))))
 else (
  some (Ky v1 v2))
def Of (x0:ByteArray)  : Nat->ByteArray->Int->Int->Int->Option Int
 | 0,_,_,_,_=>none
 | m+1,v0,v1,v2,v3=>ZM x0  (Of x0  m) v0 v1 v2 v3
def Rm (x0:ByteArray)  (v0:ByteArray) (v1:Int):Option Int:=
 Of x0 FU v0 v1 0 0
def M4 (x0:ByteArray)  (v5:Bool):Option Int:=
 if v5=true then (
  (Hk x0 1 (x0.size:Int)).bind λs0=>
  Rm x0 s0 (-1))
 else (
  Rm x0 x0 1)
def Og (x0:ByteArray):Option Int:=
 if decide ((x0.size:Int) > 0)=true then (
  (GG x0 0).bind λa2=>
  M4 x0 (decide (a2=45)))
 else (
  M4 x0 false)
def T0 (x0:List ByteArray)  (k:(List Int)->Int->Option (List Int)) (v0:List Int) (v1:Int):Option (List Int):=
 if decide (v1 < (x0.length:Int))=true then (
  (idx x0 v1).bind λa0=>
  (Og a0).bind λr0=>
  (Y4 8 v0 [r0]).bind λz0=>
  k z0 (Zo v1 1))
 else (
  some v0)
def T1 (x0:List ByteArray)  : Nat->(List Int)->Int->Option (List Int)
 | 0,_,_=>none
 | m+1,v0,v1=>T0 x0  (T1 x0  m) v0 v1
def Rn (x0:List ByteArray):Option (List Int):=
 T1 x0 FU [] 0
def mE (x0:Zk)  (k:ByteArray->Int->Option ByteArray) (v0:ByteArray) (v1:Int):Option ByteArray:=
 if decide (v1 < (x0.Aa.length:Int))=true then (
  (Ya v0 (Zd [32])).bind λn0=>
  (idx x0.Aa v1).bind λa0=>
  (Qz a0).bind λr0=>
  (Ya (v0++(Zd [32])) r0).bind λn1=>
  k ((v0++(Zd [32]))++r0) (Zo v1 1))
 else (
  some v0)
def T2 (x0:Zk)  : Nat->ByteArray->Int->Option ByteArray
 | 0,_,_=>none
 | m+1,v0,v1=>mE x0  (T2 x0  m) v0 v1
def mF (x0:Zk)  (v0:ByteArray):Option ByteArray:=
 T2 x0 FU v0 0
def Zip (x0:Zk)  (v0:ByteArray):Option ByteArray:=
 (Ya v0 (Zd [32])).bind λn2=>
 (idx [(Zd [98,121,116,101]),(Zd [104,97,108,102]),(Zd [119,111,114,100])] x0.size).bind λa1=>
 (Ya (v0++(Zd [32])) a1).bind λn3=>
 (Ya ((v0++(Zd [32]))++a1) (Zd [32])).bind λn4=>
 (idx [(Zd [111,110,101]),(Zd [102,111,117,114]),(Zd [119,114,97,112]),(Zd [101,105,103,104,116])] x0.Az).bind λa2=>
 (Ya (((v0++(Zd [32]))++a1)++(Zd [32])) a2).bind λn5=>
 (Ya ((((v0++(Zd [32]))++a1)++(Zd [32]))++a2) (Zd [32])).bind λn6=>
 (Qz x0.addr).bind λr1=>
 (Ya (((((v0++(Zd [32]))++a1)++(Zd [32]))++a2)++(Zd [32])) r1).bind λn7=>
 if x0.lock=true then (
  (Ya ((((((v0++(Zd [32]))++a1)++(Zd [32]))++a2)++(Zd [32]))++r1) (Zd [32,108,111,99,107])).bind λn8=>
  mF x0 (((((((v0++(Zd [32]))++a1)++(Zd [32]))++a2)++(Zd [32]))++r1)++(Zd [32,108,111,99,107])))
 else (
  mF x0 ((((((v0++(Zd [32]))++a1)++(Zd [32]))++a2)++(Zd [32]))++r1))
def T3 (x0:Zk):Option ByteArray:=
 (Tl x0).bind λr2=>
 if (!r2)=true then (
  some ByteArray.empty)
 else (
  if x0.write=true then (
   Zip x0 (Zd [119,114,105,116,101]))
  else (
   Zip x0 (Zd [114,101,97,100])))
def Jd (x0:ByteArray)  (k:Zk->(List ByteArray)->Int->Option (Zk×Bool)) (Ad:Zk) (v0:List ByteArray) (v1:Int):Option (Zk×Bool):=
 if decide (v1 < (v0.length:Int))=true then (
  (idx v0 v1).bind λa0=>
  (Og a0).bind λr0=>
  (Y4 8 Ad.Aa [r0]).bind λz0=>
  k {Ad with Aa:=z0} v0 (Zo v1 1))
 else (
  (T3 Ad).bind λr1=>
  if (!(r1.toList == x0.toList))=true then (
   some (Zk.z0,false))
  else (
   some (Ad,true)))
def Kv (x0:ByteArray)  : Nat->Zk->(List ByteArray)->Int->Option (Zk×Bool)
 | 0,_,_,_=>none
 | m+1,Ad,v0,v1=>Jd x0  (Kv x0  m) Ad v0 v1
def T4 (x0:ByteArray)  (Ad:Zk) (v0:List ByteArray):Option (Zk×Bool):=
 Kv x0 FU Ad v0 0
def Oh (x0:ByteArray)  (Ad:Zk) (v0:List ByteArray) (v2:Bool):Option (Zk×Bool):=
 if v2=true then (
  (Ys v0 1 (v0.length:Int)).bind λs0=>
  T4 x0 {Ad with lock:=true} s0)
 else (
  T4 x0 Ad v0)
def T5 (x0:ByteArray):Option (Zk×Bool):=
 (Wt x0 32).bind λr2=>
 if decide ((r2.length:Int) < 4)=true then (
  some (Zk.z0,false))
 else (
  (idx r2 0).bind λa1=>
  (idx r2 1).bind λa2=>
  (KW [(Zd [98,121,116,101]),(Zd [104,97,108,102]),(Zd [119,111,114,100])] a2).bind λr3=>
  (idx r2 2).bind λa3=>
  (KW [(Zd [111,110,101]),(Zd [102,111,117,114]),(Zd [119,114,97,112]),(Zd [101,105,103,104,116])] a3).bind λr4=>
  (idx r2 3).bind λa4=>
  (Og a4).bind λr5=>
  (Ys r2 4 (r2.length:Int)).bind λs1=>
  if decide ((s1.length:Int) > 0)=true then (
   (idx s1 0).bind λa5=>
   Oh x0 (Zk.mk (a1.toList == (Zd [119,114,105,116,101]).toList) r5 r3 r4 false []) s1 (a5.toList == (Zd [108,111,99,107]).toList))
  else (
   Oh x0 (Zk.mk (a1.toList == (Zd [119,114,105,116,101]).toList) r5 r3 r4 false []) s1 false))
def mG (x0:ByteArray) (x1:List Int)  (k:ByteArray->Int->Option ByteArray) (v0:ByteArray) (v1:Int):Option ByteArray:=
 if decide (v1 < (x1.length:Int))=true then (
  (Ya v0 (Zd [32])).bind λn0=>
  (idx x1 v1).bind λa0=>
  (Qz a0).bind λr0=>
  (Ya (v0++(Zd [32])) r0).bind λn1=>
  k ((v0++(Zd [32]))++r0) (Zo v1 1))
 else (
  (Ya v0 (Zd [10])).bind λn2=>
  some (v0++(Zd [10])))
def ZN (x0:ByteArray) (x1:List Int)  : Nat->ByteArray->Int->Option ByteArray
 | 0,_,_=>none
 | m+1,v0,v1=>mG x0 x1  (ZN x0 x1  m) v0 v1
def ZO (x0:ByteArray) (x1:List Int):Option ByteArray:=
 if decide ((x1.length:Int)=0)=true then (
  some ByteArray.empty)
 else (
  ZN x0 x1 FU x0 0)
def y4 (x0:Zb)  (k:ByteArray->Int->Option ByteArray) (v0:ByteArray) (v1:Int):Option ByteArray:=
 if decide (v1 < (x0.Al.length:Int))=true then (
  (idx x0.Al v1).bind λa0=>
  (T3 a0.Bo).bind λr0=>
  if (r0.toList == ByteArray.empty.toList)=true then (
   some ByteArray.empty)
  else (
   (Ya v0 (Zd [112,111,115,116,32])).bind λn0=>
   (Qz a0.at_).bind λr1=>
   (Ya (v0++(Zd [112,111,115,116,32])) r1).bind λn1=>
   (Ya ((v0++(Zd [112,111,115,116,32]))++r1) (Zd [32])).bind λn2=>
   (Qz a0.Aj).bind λr2=>
   (Ya (((v0++(Zd [112,111,115,116,32]))++r1)++(Zd [32])) r2).bind λn3=>
   (Ya ((((v0++(Zd [112,111,115,116,32]))++r1)++(Zd [32]))++r2) (Zd [32])).bind λn4=>
   (Ya (((((v0++(Zd [112,111,115,116,32]))++r1)++(Zd [32]))++r2)++(Zd [32])) r0).bind λn5=>
   (Ya ((((((v0++(Zd [112,111,115,116,32]))++r1)++(Zd [32]))++r2)++(Zd [32]))++r0) (Zd [10])).bind λn6=>
   k (((((((v0++(Zd [112,111,115,116,32]))++r1)++(Zd [32]))++r2)++(Zd [32]))++r0)++(Zd [10])) (Zo v1 1)))
 else (
  some v0)
def ZP (x0:Zb)  : Nat->ByteArray->Int->Option ByteArray
 | 0,_,_=>none
 | m+1,v0,v1=>y4 x0  (ZP x0  m) v0 v1
def mH (x0:Zb):Option ByteArray:=
 (ZO (Zd [119,97,105,116,115]) x0.waits).bind λr3=>
 (ZO (Zd [115,97,121,115]) x0.A3).bind λr4=>
 (Ya r3 r4).bind λn7=>
 ZP x0 FU (r3++r4) 0
def Jv (x0:ByteArray)  (k:Zb->(List ByteArray)->Int->Option (Zb×Bool)) (Ad:Zb) (v0:List ByteArray) (v1:Int):Option (Zb×Bool):=
 if decide (v1 < (v0.length:Int))=true then (
  (idx v0 v1).bind λa0=>
  (Wt a0 32).bind λr0=>
  (idx r0 0).bind λa1=>
  if (a1.toList == (Zd [119,97,105,116,115]).toList)=true then (
   (Ys r0 1 (r0.length:Int)).bind λs0=>
   (Rn s0).bind λr1=>
   k {Ad with waits:=r1} v0 (Zo v1 1))
  else (
   if (a1.toList == (Zd [115,97,121,115]).toList)=true then (
    (Ys r0 1 (r0.length:Int)).bind λs1=>
    (Rn s1).bind λr2=>
    k {Ad with A3:=r2} v0 (Zo v1 1))
   else (
    if decide ((r0.length:Int) > 3)=true then (
     (Ys r0 1 3).bind λs2=>
     (Rn s2).bind λr3=>
     (idx r0 1).bind λa2=>
     (idx r0 2).bind λa3=>
     (Hk a0 (D3 (a0.size:Int) (Zo (Zo (Zo (a1.size:Int) (a2.size:Int)) (a3.size:Int)) 3)) (a0.size:Int)).bind λs3=>
     (T5 s3).bind λr4=>
     (idx r3 0).bind λa4=>
     (idx r3 1).bind λa5=>
     (Y4 80 Ad.Al [(Zl.mk a4 a5 r4.1)]).bind λz0=>
     k {Ad with Al:=z0} v0 (Zo v1 1))
    else (
     k Ad v0 (Zo v1 1)))))
 else (
  (mH Ad).bind λr5=>
  if (!(r5.toList == x0.toList))=true then (
   some (Zb.z0,false))
  else (
   some (Ad,true)))
def Ro (x0:ByteArray)  : Nat->Zb->(List ByteArray)->Int->Option (Zb×Bool)
 | 0,_,_,_=>none
 | m+1,Ad,v0,v1=>Jv x0  (Ro x0  m) Ad v0 v1
def Rp (x0:ByteArray):Option (Zb×Bool):=
 (Wt x0 10).bind λr6=>
 Ro x0 FU Zb.z0 r6 0
def T6 (x0:Zx) (x1:ByteArray)  (v0:List ByteArray) (v1:Bool):Option (Zx×ByteArray):=
 if v1=true then (
  (Ya x1 (Zd [10])).bind λn0=>
  (Rp (x1++(Zd [10]))).bind λr0=>
  if (!r0.2)=true then (
   some (x0,(Zd [110,111])))
  else (
   (idx v0 0).bind λa0=>
   if (a0.toList == (Zd [119,97,105,116,115]).toList)=true then (
    some ({x0 with s:={x0.s with waits:=r0.1.waits}},(Zd [111,107])))
   else (
    if (a0.toList == (Zd [115,97,121,115]).toList)=true then (
     some ({x0 with s:={x0.s with A3:=r0.1.A3}},(Zd [111,107])))
    else (
     (Y4 80 [] x0.s.Al).bind λz0=>
     (Y4 80 z0 r0.1.Al).bind λz1=>
     some ({x0 with s:={x0.s with Al:=z1}},(Zd [111,107]))))))
 else (
  some (x0,(Zd [119,104,97,116])))
def Rq (x0:Zx) (x1:ByteArray):Option (Zx×ByteArray):=
 (Wt x1 32).bind λr1=>
 if decide ((r1.length:Int)=1)=true then (
  (mB x0 x1).bind λr2=>
  some (r2.1,r2.2))
 else (
  (idx r1 0).bind λa1=>
  if (a1.toList == (Zd [99,111,110,102]).toList)=true then (
   (Hk x1 5 (x1.size:Int)).bind λs0=>
   (Od s0).bind λr3=>
   if (!r3.2)=true then (
    some (x0,(Zd [110,111])))
   else (
    some ((Zx.mk r3.1 Zb.z0 Za.z0 false),(Zd [111,107]))))
  else (
   if (a1.toList == (Zd [119,97,105,116,115]).toList)=true then (
    T6 x0 x1 r1 (a1.toList == (Zd [119,97,105,116,115]).toList))
   else (
    if (a1.toList == (Zd [115,97,121,115]).toList)=true then (
     T6 x0 x1 r1 (a1.toList == (Zd [115,97,121,115]).toList))
    else (
     T6 x0 x1 r1 (a1.toList == (Zd [112,111,115,116]).toList)))))
def y5 (x0:ByteArray)  (k:Zx->(List ByteArray)->ByteArray->Int->Option ByteArray) (Ad:Zx) (v0:List ByteArray) (v1:ByteArray) (v2:Int):Option ByteArray:=
 if decide (v2 < (v0.length:Int))=true then (
  (idx v0 v2).bind λa0=>
  if (a0.toList == ByteArray.empty.toList)=true then (
   k Ad v0 v1 (Zo v2 1))
  else (
   (Rq Ad a0).bind λr0=>
   (Ya v1 r0.2).bind λn0=>
   (Ya (v1++r0.2) (Zd [10])).bind λn1=>
   k r0.1 v0 ((v1++r0.2)++(Zd [10])) (Zo v2 1)))
 else (
  some v1)
def ZQ (x0:ByteArray)  : Nat->Zx->(List ByteArray)->ByteArray->Int->Option ByteArray
 | 0,_,_,_,_=>none
 | m+1,Ad,v0,v1,v2=>y5 x0  (ZQ x0  m) Ad v0 v1 v2
def y6 (x0:ByteArray)  (v0:List ByteArray) (v3:Bool):Option ByteArray:=
 if v3=true then (
  some ByteArray.empty)
 else (
  ZQ x0 FU Zx.z0 v0 ByteArray.empty 0)
def Rr (x0:ByteArray)  (v0:List ByteArray):Option ByteArray:=
 if decide ((x0.size:Int) > 3000)=true then (
  y6 x0 v0 true)
 else (
  y6 x0 v0 (decide ((v0.length:Int) > 60)))
def mI (x0:ByteArray):Option ByteArray:=
 (Wt x0 10).bind λr1=>
 (idx r1 (Xd (r1.length:Int) 1)).bind λa1=>
 if (a1.toList == ByteArray.empty.toList)=true then (
  (Ys r1 0 (Xd (r1.length:Int) 1)).bind λs0=>
  Rr x0 s0)
 else (
  Rr x0 r1)
def Kr (x0:ByteArray) (x1:ByteArray):Option (List ByteArray):=if x0.size < 4294967281/\1<=x1.size then some (Lib.splitB x1 0 (Lib.countB x0 x1) x0) else none
def Rt (x0 x1:ByteArray):Option Bool:=if x0.size < 4294967281 then some (Lib.contains x0.data.toList x1.data.toList) else none
def Ru (x0 x1:ByteArray):Option (ByteArray×ByteArray×Bool):=if x0.size < 4294967281 then some (⟨(Lib.cut x0.data.toList x1.data.toList).1.toArray⟩,⟨(Lib.cut x0.data.toList x1.data.toList).2.1.toArray⟩,(Lib.cut x0.data.toList x1.data.toList).2.2) else none
def La (x0:ByteArray) (x1:Int):Option (Int×Bool):=if x0.size<=281474976710656 then (match Lib.atoiAll x0.data.toList with
 | .ok v=>if Lib.itoa v=x0.data.toList/\((Lib.trimPrefix x0.data.toList [45]).length:Int)<=x1 then some (v,true) else some (0,false)
 | _=>some (0,false)) else none
def Oi (x0:List ByteArray)  (k:(List Int)->Int->Option (List Int×Bool)) (v0:List Int) (v1:Int):Option (List Int×Bool):=
 if decide (v1 < (x0.length:Int))=true then (
  (idx x0 v1).bind λa0=>
  (La a0 18).bind λr0=>
  if (!r0.2)=true then (
   some ([],false))
  else (
   (Y4 8 v0 [r0.1]).bind λz0=>
   k z0 (Zo v1 1)))
 else (
  some (v0,true))
def Oj (x0:List ByteArray)  : Nat->(List Int)->Int->Option (List Int×Bool)
 | 0,_,_=>none
 | m+1,v0,v1=>Oi x0  (Oj x0  m) v0 v1
def Lb (x0:List ByteArray):Option (List Int×Bool):=
 Oj x0 FU [] 0
def Ym (x0:Int) (x1:Int) (x2:Int):Option Bool:=
 if decide (x1<=x0)=true then (
  some (decide (x0<=x2)))
 else (
  some false)
def y7 (x0:Zh)  (v0:Bool):Option Int:=
 if v0=true then (
  some 0)
 else (
  some (Ky (Zo x0.An 2) (Zo x0.As 6)))
def ZR (x0:Zh):Option Int:=
 (Ym x0.An 0 3).bind λr0=>
 if (!r0)=true then (
  y7 x0 true)
 else (
  (Ym x0.As 0 3).bind λr1=>
  y7 x0 (!r1))
def ZS (x0:Zh):Option Int:=
 (ZR x0).bind λr0=>
 if decide (r0=0)=true then (
  some 0)
 else (
  (Ym x0.Am 1 40).bind λr1=>
  if (!r1)=true then (
   some 0)
  else (
   (ZR x0).bind λr2=>
   some (Zo (Ky 2 r2) x0.Am)))
def y8 (x0:Zh)  (k:Int->Int->Option Int) (v0:Int) (v1:Int):Option Int:=
 if decide (v1 < (x0.Ab.length:Int))=true then (
  (idx x0.Ab v1).bind λa0=>
  if a0.prio=true then (
   k (Zo v0 1) (Zo v1 1))
  else (
   k v0 (Zo v1 1)))
 else (
  some v0)
def mJ (x0:Zh)  : Nat->Int->Int->Option Int
 | 0,_,_=>none
 | m+1,v0,v1=>y8 x0  (mJ x0  m) v0 v1
def mK (x0:Zh):Option Int:=
 mJ x0 FU 0 0
def mL (x0:Zh):Option Int:=
 (ZS x0).bind λr0=>
 (mK x0).bind λr1=>
 some (Ky (Ky 2 r0) r1)
def mM (x0:Ze) (x1:Zh):Option Bool:=
 (Ym x0.weight 1 4).bind λr0=>
 if (!r0)=true then (
  some true)
 else (
  if x0.prio=true then (
   (mL x1).bind λr1=>
   (Ym x0.every r1 1000).bind λr2=>
   if (!r2)=true then (
    some true)
   else (
    (Ym x0.cap 1 8).bind λr3=>
    some (!r3)))
  else (
   if decide (x0.every≠0)=true then (
    some true)
   else (
    some (decide (x0.cap≠0)))))
def Qp (x0:List Ze) (Bf:Zh)  (k:Int->Option Int) (v0:Int):Option Int:=
 if decide (v0 < (x0.length:Int))=true then (
  (idx x0 v0).bind λa0=>
  (mM a0 Bf).bind λr0=>
  if r0=true then (
   some v0)
  else (
   k (Zo v0 1)))
 else (
  some (-1))
def Y8 (x0:List Ze) (Bf:Zh)  : Nat->Int->Option Int
 | 0,_=>none
 | m+1,v0=>Qp x0 Bf  (Y8 x0 Bf  m) v0
def Kq (x0:List Ze) (Bf:Zh):Option Int:=
 Y8 x0 Bf FU 0
def Wk (x0:List Ze) (Bf:Zh):Option Bool:=
 (Kq x0 Bf).bind λr0=>
 some (decide (r0≥0))
def Lc (x0:Zh):Option Bool:=
 (Ym (x0.Ab.length:Int) 1 4).bind λr0=>
 if (!r0)=true then (
  some false)
 else (
  (Ym x0.Av 1 4).bind λr1=>
  if (!r1)=true then (
   some false)
  else (
   (Ym x0.Ap 1 12).bind λr2=>
   if (!r2)=true then (
    some false)
   else (
    (ZS x0).bind λr3=>
    if decide (r3=0)=true then (
     some false)
    else (
     (Wk x0.Ab x0).bind λr4=>
     some (!r4)))))
def mN (x0:Int):Option ByteArray:=if -9223372036854775808<=x0/\x0<=9223372036854775807 then some ⟨(Lib.itoa x0).toArray⟩ else none
def FL (x0:Int):Option ByteArray:=
 (mN x0).bind λr0=>
 some r0
def mO (x0:List Int)  (k:(List ByteArray)->Int->Option (List ByteArray)) (v0:List ByteArray) (v1:Int):Option (List ByteArray):=
 if decide (v1 < (x0.length:Int))=true then (
  (idx x0 v1).bind λa0=>
  (FL a0).bind λr0=>
  (Y4 16 v0 [r0]).bind λz0=>
  k z0 (Zo v1 1))
 else (
  some v0)
def mP (x0:List Int)  : Nat->(List ByteArray)->Int->Option (List ByteArray)
 | 0,_,_=>none
 | m+1,v0,v1=>mO x0  (mP x0  m) v0 v1
def Ld (x0:List Int):Option (List ByteArray):=
 mP x0 FU [] 0
def Qf (x0:List ByteArray) (x1:ByteArray):Option ByteArray:=if x0.length<=140737488355328/\(Lib.join (x0.map (·.data.toList)) x1.data.toList).length<=140737488355328 then some ⟨(Lib.join (x0.map (·.data.toList)) x1.data.toList).toArray⟩ else none
def mQ (x0:Zh)  (k:(List ByteArray)->Int->Option ByteArray) (v0:List ByteArray) (v1:Int):Option ByteArray:=
 if decide (v1 < (x0.Ab.length:Int))=true then (
  (idx x0.Ab v1).bind λa0=>
  (FL a0.weight).bind λr0=>
  if a0.prio=true then (
   (Ld [a0.weight,a0.every,a0.cap]).bind λr1=>
   (Qf r1 (Zd [58])).bind λr2=>
   (Y4 16 v0 [r2]).bind λz0=>
   k z0 (Zo v1 1))
  else (
   (Y4 16 v0 [r0]).bind λz0=>
   k z0 (Zo v1 1)))
 else (
  (Qf v0 (Zd [32])).bind λr3=>
  some r3)
def mR (x0:Zh)  : Nat->(List ByteArray)->Int->Option ByteArray
 | 0,_,_=>none
 | m+1,v0,v1=>mQ x0  (mR x0  m) v0 v1
def Rv (x0:Zh):Option ByteArray:=
 (Lc x0).bind λr4=>
 if (!r4)=true then (
  some ByteArray.empty)
 else (
  (Ld [x0.Av,x0.As,x0.An,x0.Ap,x0.Am]).bind λr5=>
  mR x0 FU r5 0)
def Rw (x0:ByteArray) (AM:Zh->(List ByteArray)->Int->Int->Option (Zh×Bool)) (Ad:Zh) (v0:List Int) (v1:List ByteArray) (v2:Int) (v3:Int) (v4:Bool):Option (Zh×Bool):=
 if v4=true then (
  (idx v0 0).bind λa0=>
  (idx v0 1).bind λa1=>
  (idx v0 2).bind λa2=>
  (Y4 32 Ad.Ab [(Ze.mk a0 true a1 a2)]).bind λz0=>
  AM {Ad with Ab:=z0} v1 v2 (Zo v3 1))
 else (
  some (Zh.z0,false))
def Rx (x0:ByteArray) (AM:Zh->(List ByteArray)->Int->Int->Option (Zh×Bool)) (Ad:Zh) (v0:List Int) (v5:Bool) (v1:List ByteArray) (v2:Int) (v3:Int) (v6:Bool):Option (Zh×Bool):=
 if v6=true then (
  (idx v0 0).bind λa3=>
  (Y4 32 Ad.Ab [(Ze.mk a3 false 0 0)]).bind λz1=>
  AM {Ad with Ab:=z1} v1 v2 (Zo v3 1))
 else (
  if v5=true then (
   Rw x0 AM Ad v0 v1 v2 v3 (decide ((v0.length:Int)=3)))
  else (
   Rw x0 AM Ad v0 v1 v2 v3 false))
def Kl (x0:ByteArray)  (k:Zh->(List ByteArray)->Int->Int->Option (Zh×Bool)) (Ad:Zh) (v1:List ByteArray) (v2:Int) (v3:Int):Option (Zh×Bool):=
 if decide (v3 < v2)=true then (
  (idx v1 v3).bind λa4=>
  (Kr a4 (Zd [58])).bind λr0=>
  (Lb r0).bind λr1=>
  if r1.2=true then (
   Rx x0 k Ad r1.1 r1.2 v1 v2 v3 (decide ((r1.1.length:Int)=1)))
  else (
   Rx x0 k Ad r1.1 r1.2 v1 v2 v3 false))
 else (
  (Lc Ad).bind λr2=>
  if (!r2)=true then (
   some (Zh.z0,false))
  else (
   (Rv Ad).bind λr3=>
   if (!(r3.toList == x0.toList))=true then (
    some (Zh.z0,false))
   else (
    some (Ad,true))))
def Ql (x0:ByteArray)  : Nat->Zh->(List ByteArray)->Int->Int->Option (Zh×Bool)
 | 0,_,_,_,_=>none
 | m+1,Ad,v1,v2,v3=>Kl x0  (Ql x0  m) Ad v1 v2 v3
def T7 (x0:ByteArray)  (v7:List ByteArray) (v8:Bool):Option (Zh×Bool):=
 if v8=true then (
  some (Zh.z0,false))
 else (
  (Ys v7 0 5).bind λs0=>
  (Lb s0).bind λr4=>
  if (!r4.2)=true then (
   some (Zh.z0,false))
  else (
   (idx r4.1 0).bind λa5=>
   (idx r4.1 1).bind λa6=>
   (idx r4.1 2).bind λa7=>
   (idx r4.1 3).bind λa8=>
   (idx r4.1 4).bind λa9=>
   (Ys v7 5 (v7.length:Int)).bind λs1=>
   Ql x0 FU (Zh.mk [] a5 a6 a7 a8 a9) s1 (s1.length:Int) 0))
def Le (x0:ByteArray):Option (Zh×Bool):=
 (Kr x0 (Zd [32])).bind λr5=>
 if decide ((r5.length:Int) < 6)=true then (
  T7 x0 r5 true)
 else (
  T7 x0 r5 (decide ((r5.length:Int) > 9)))
def Jh (x0:ByteArray) (x1:ByteArray):Option ByteArray:=if x0.size<=9223372036854775807 then some ⟨(Lib.trimSuffix x0.data.toList x1.data.toList).toArray⟩ else none
def T8  : Option (List ByteArray):=
 some [(Zd [98,121,116,101]),(Zd [104,97,108,102]),(Zd [119,111,114,100])]
def We (x0:List ByteArray) (x1:ByteArray)  (k:Int->Option Int) (v0:Int):Option Int:=
 if decide (v0 < (x0.length:Int))=true then (
  (idx x0 v0).bind λa0=>
  if (x1.toList == a0.toList)=true then (
   some v0)
  else (
   k (Zo v0 1)))
 else (
  some (-1))
def Wo (x0:List ByteArray) (x1:ByteArray)  : Nat->Int->Option Int
 | 0,_=>none
 | m+1,v0=>We x0 x1  (Wo x0 x1  m) v0
def Xy (x0:List ByteArray) (x1:ByteArray):Option Int:=
 Wo x0 x1 FU 0
def T9  : Option (List ByteArray):=
 some [(Zd [111,110,101]),(Zd [102,111,117,114]),(Zd [119,114,97,112]),(Zd [101,105,103,104,116])]
def Ry (x0:Int):Option Int:=
 (Ym x0 0 3).bind λr0=>
 if (!r0)=true then (
  some 0)
 else (
  (idx [1,4,4,8] x0).bind λa0=>
  some a0)
def IK (x0:Int):Option Int:=
 (Ym x0 0 2).bind λr0=>
 if (!r0)=true then (
  some 0)
 else (
  (KR x0).bind λn0=>
  some (QU 1 x0))
def Rz (x0:Int) (x1:Int):Option Bool:=
 (Ym x1 0 2).bind λr0=>
 if r0=true then (
  if decide (x0≥0)=true then (
   (IK x1).bind λr1=>
   (GF r1).bind λn0=>
   some (decide ((Dd x0 r1)=0)))
  else (
   some false))
 else (
  some false)
def ZT (x0:Int) (x1:Int) (x2:Int)  (v0:Bool):Option Int:=
 if v0=true then (
  some (-1))
 else (
  (IK x1).bind λr0=>
  (IK x1).bind λr1=>
  if decide (x2=2)=true then (
   (GF (Ky 4 r1)).bind λn0=>
   if decide ((Dd (Zo x0 r0) (Ky 4 r1))=0)=true then (
    some (Xd (Zo x0 r0) (Ky 4 r1)))
   else (
    some (Zo x0 r0)))
  else (
   some (Zo x0 r0)))
def mS (x0:Int) (x1:Int) (x2:Int):Option Int:=
 (Rz x0 x1).bind λr2=>
 if (!r2)=true then (
  ZT x0 x1 x2 true)
 else (
  if decide (x0≥512)=true then (
   ZT x0 x1 x2 true)
  else (
   (Ry x2).bind λr3=>
   ZT x0 x1 x2 (decide (r3=0))))
def ZU (x0:Int) (x1:Int) (x2:Int)  (k:Int->(List Int)->Int->Int->Option (List Int)) (v0:Int) (v1:List Int) (v2:Int) (v3:Int):Option (List Int):=
 if decide (v3 < v2)=true then (
  (mS v0 x1 x2).bind λr0=>
  if decide (r0 < 0)=true then (
   some [])
  else (
   (Y4 8 v1 [v0]).bind λz0=>
   k r0 z0 v2 (Zo v3 1)))
 else (
  some v1)
def mT (x0:Int) (x1:Int) (x2:Int)  : Nat->Int->(List Int)->Int->Int->Option (List Int)
 | 0,_,_,_,_=>none
 | m+1,v0,v1,v2,v3=>ZU x0 x1 x2  (mT x0 x1 x2  m) v0 v1 v2 v3
def ZV (x0:Int) (x1:Int) (x2:Int):Option (List Int):=
 (Ry x2).bind λr1=>
 mT x0 x1 x2 FU x0 [] r1 0
def y9 (x0:Int) (x1:Int) (x2:Int)  (k:(List Int)->Int->Int->Option Bool) (v0:List Int) (v1:Int) (v2:Int):Option Bool:=
 if decide (v2 < v1)=true then (
  (idx v0 v2).bind λa0=>
  (idx v0 0).bind λa1=>
  if decide ((Ft a0 64)≠(Ft a1 64))=true then (
   some false)
  else (
   k v0 v1 (Zo v2 1)))
 else (
  some (decide ((v0.length:Int) > 0)))
def mU (x0:Int) (x1:Int) (x2:Int)  : Nat->(List Int)->Int->Int->Option Bool
 | 0,_,_,_=>none
 | m+1,v0,v1,v2=>y9 x0 x1 x2  (mU x0 x1 x2  m) v0 v1 v2
def mV (x0:Int) (x1:Int) (x2:Int):Option Bool:=
 (ZV x0 x1 x2).bind λr0=>
 mU x0 x1 x2 FU r0 (r0.length:Int) 0
def ZW (x0:Int):Option Int:=
 (IK x0).bind λr0=>
 if decide (r0=0)=true then (
  some 0)
 else (
  (IK x0).bind λr1=>
  (KR (Ky 8 r1)).bind λn0=>
  some (QU 1 (Ky 8 r1)))
def Lf (x0:Int) (x1:Int):Option Bool:=
 (ZW x1).bind λr0=>
 (Ym x0 0 (Xd r0 1)).bind λr1=>
 some r1
def mX (x0:Int) (x1:Zk):Option Bool:=
 (Lf x0 x1.size).bind λr0=>
 some (!r0)
def Zkg (x0:List Int) (Bf:Zk)  (k:Int->Option Int) (v0:Int):Option Int:=
 if decide (v0 < (x0.length:Int))=true then (
  (idx x0 v0).bind λa0=>
  (mX a0 Bf).bind λr0=>
  if r0=true then (
   some v0)
  else (
   k (Zo v0 1)))
 else (
  some (-1))
def Kz (x0:List Int) (Bf:Zk)  : Nat->Int->Option Int
 | 0,_=>none
 | m+1,v0=>Zkg x0 Bf  (Kz x0 Bf  m) v0
def J5 (x0:List Int) (Bf:Zk):Option Int:=
 Kz x0 Bf FU 0
def W4 (x0:List Int) (Bf:Zk):Option Bool:=
 (J5 x0 Bf).bind λr0=>
 some (decide (r0≥0))
def mY (x0:Zk)  (v0:Int):Option Bool:=
 (mV x0.addr x0.size x0.Az).bind λr0=>
 if r0=true then (
  if decide ((x0.Aa.length:Int)=v0)=true then (
   (W4 x0.Aa x0).bind λr1=>
   some (!r1))
  else (
   some false))
 else (
  some false)
def Ok (x0:Zk):Option Bool:=
 if x0.write=true then (
  (Ry x0.Az).bind λr2=>
  mY x0 r2)
 else (
  mY x0 0)
def R0 (x0:Bool):Option ByteArray:=
 if x0=true then (
  some (Zd [119,114,105,116,101]))
 else (
  some (Zd [114,101,97,100]))
def TA (x0:Zk):Option ByteArray:=
 (Ok x0).bind λr0=>
 if (!r0)=true then (
  some ByteArray.empty)
 else (
  (R0 x0.write).bind λr1=>
  (T8).bind λr2=>
  (idx r2 x0.size).bind λa0=>
  (T9).bind λr3=>
  (idx r3 x0.Az).bind λa1=>
  (FL x0.addr).bind λr4=>
  if x0.lock=true then (
   (Y4 16 [r1,a0,a1,r4] [(Zd [108,111,99,107])]).bind λz0=>
   (Ld x0.Aa).bind λr5=>
   (Y4 16 z0 r5).bind λz1=>
   (Qf z1 (Zd [32])).bind λr6=>
   some r6)
  else (
   (Ld x0.Aa).bind λr5=>
   (Y4 16 [r1,a0,a1,r4] r5).bind λz1=>
   (Qf z1 (Zd [32])).bind λr6=>
   some r6))
def R1 (x0:ByteArray)  (Ad:Zk) (v0:List ByteArray) (v1:List ByteArray):Option (Zk×Bool):=
 (idx v0 3).bind λa0=>
 (La a0 18).bind λr0=>
 (Lb v1).bind λr1=>
 if (!r0.2)=true then (
  some (Zk.z0,false))
 else (
  if (!r1.2)=true then (
   some (Zk.z0,false))
  else (
   (Ok {Ad with addr:=r0.1,Aa:=r1.1}).bind λr2=>
   if (!r2)=true then (
    some (Zk.z0,false))
   else (
    (TA {Ad with addr:=r0.1,Aa:=r1.1}).bind λr3=>
    if (!(r3.toList == x0.toList))=true then (
     some (Zk.z0,false))
    else (
     some ({Ad with addr:=r0.1,Aa:=r1.1},true)))))
def Ol (x0:ByteArray)  (Ad:Zk) (v0:List ByteArray) (v1:List ByteArray) (v2:Bool):Option (Zk×Bool):=
 if v2=true then (
  (Ys v1 1 (v1.length:Int)).bind λs0=>
  R1 x0 {Ad with lock:=true} v0 s0)
 else (
  R1 x0 Ad v0 v1)
def TB (x0:ByteArray):Option (Zk×Bool):=
 (Kr x0 (Zd [32])).bind λr4=>
 if decide ((r4.length:Int) < 4)=true then (
  some (Zk.z0,false))
 else (
  (idx r4 0).bind λa1=>
  (T8).bind λr5=>
  (idx r4 1).bind λa2=>
  (Xy r5 a2).bind λr6=>
  (T9).bind λr7=>
  (idx r4 2).bind λa3=>
  (Xy r7 a3).bind λr8=>
  (Ys r4 4 (r4.length:Int)).bind λs1=>
  if decide ((s1.length:Int) > 0)=true then (
   (idx s1 0).bind λa4=>
   Ol x0 (Zk.mk (a1.toList == (Zd [119,114,105,116,101]).toList) 0 r6 r8 false []) r4 s1 (a4.toList == (Zd [108,111,99,107]).toList))
  else (
   Ol x0 (Zk.mk (a1.toList == (Zd [119,114,105,116,101]).toList) 0 r6 r8 false []) r4 s1 false))
def ZX (x0:ByteArray) (x1:List Int):Option ByteArray:=
 if decide ((x1.length:Int)=0)=true then (
  some ByteArray.empty)
 else (
  (Ya x0 (Zd [32])).bind λn0=>
  (Ld x1).bind λr0=>
  (Qf r0 (Zd [32])).bind λr1=>
  (Ya (x0++(Zd [32])) r1).bind λn1=>
  (Ya ((x0++(Zd [32]))++r1) (Zd [10])).bind λn2=>
  some (((x0++(Zd [32]))++r1)++(Zd [10])))
def zA (x0:Zb)  (k:ByteArray->Int->Option ByteArray) (v0:ByteArray) (v1:Int):Option ByteArray:=
 if decide (v1 < (x0.Al.length:Int))=true then (
  (idx x0.Al v1).bind λa0=>
  (TA a0.Bo).bind λr0=>
  if (r0.toList == ByteArray.empty.toList)=true then (
   some ByteArray.empty)
  else (
   (FL a0.at_).bind λr1=>
   (Ya (Zd [112,111,115,116,32]) r1).bind λn0=>
   (Ya ((Zd [112,111,115,116,32])++r1) (Zd [32])).bind λn1=>
   (FL a0.Aj).bind λr2=>
   (Ya (((Zd [112,111,115,116,32])++r1)++(Zd [32])) r2).bind λn2=>
   (Ya ((((Zd [112,111,115,116,32])++r1)++(Zd [32]))++r2) (Zd [32])).bind λn3=>
   (Ya (((((Zd [112,111,115,116,32])++r1)++(Zd [32]))++r2)++(Zd [32])) r0).bind λn4=>
   (Ya ((((((Zd [112,111,115,116,32])++r1)++(Zd [32]))++r2)++(Zd [32]))++r0) (Zd [10])).bind λn5=>
   (Ya v0 (((((((Zd [112,111,115,116,32])++r1)++(Zd [32]))++r2)++(Zd [32]))++r0)++(Zd [10]))).bind λn6=>
   k (v0++(((((((Zd [112,111,115,116,32])++r1)++(Zd [32]))++r2)++(Zd [32]))++r0)++(Zd [10]))) (Zo v1 1)))
 else (
  some v0)
def ZY (x0:Zb)  : Nat->ByteArray->Int->Option ByteArray
 | 0,_,_=>none
 | m+1,v0,v1=>zA x0  (ZY x0  m) v0 v1
def mZ (x0:Zb):Option ByteArray:=
 (ZX (Zd [119,97,105,116,115]) x0.waits).bind λr3=>
 (ZX (Zd [115,97,121,115]) x0.A3).bind λr4=>
 (Ya r3 r4).bind λn7=>
 ZY x0 FU (r3++r4) 0
def ZZ (x0:ByteArray) (AM:Zb->(List ByteArray)->Int->Int->Option (Zb×Bool)) (Ad:Zb) (A2:Zk) (v0:List Int) (v1:List ByteArray) (v2:Int) (v3:Int) (v4:Bool):Option (Zb×Bool):=
 if v4=true then (
  some (Zb.z0,false))
 else (
  (idx v0 0).bind λa0=>
  (idx v0 1).bind λa1=>
  (Y4 80 Ad.Al [(Zl.mk a0 a1 A2)]).bind λz0=>
  AM {Ad with Al:=z0} v1 v2 (Zo v3 1))
def J7 (x0:ByteArray) (AM:Zb->(List ByteArray)->Int->Int->Option (Zb×Bool)) (Ad:Zb) (v5:List ByteArray) (v1:List ByteArray) (v2:Int) (v3:Int) (v6:Bool):Option (Zb×Bool):=
 if v6=true then (
  (Ys v5 1 (v5.length:Int)).bind λs0=>
  (Lb s0).bind λr0=>
  if (!r0.2)=true then (
   some (Zb.z0,false))
  else (
   (idx v5 0).bind λa2=>
   if (a2.toList == (Zd [119,97,105,116,115]).toList)=true then (
    AM {Ad with waits:=r0.1} v1 v2 (Zo v3 1))
   else (
    AM {Ad with A3:=r0.1} v1 v2 (Zo v3 1))))
 else (
  AM Ad v1 v2 (Zo v3 1))
def Q6 (x0:ByteArray) (AM:Zb->(List ByteArray)->Int->Int->Option (Zb×Bool)) (Ad:Zb) (v5:List ByteArray) (v1:List ByteArray) (v2:Int) (v3:Int) (v7:Bool):Option (Zb×Bool):=
 if v7=true then (
  (Ys v5 1 3).bind λs1=>
  (Lb s1).bind λr1=>
  (Ys v5 3 (v5.length:Int)).bind λs2=>
  (Qf s2 (Zd [32])).bind λr2=>
  (TB r2).bind λr3=>
  if (!r1.2)=true then (
   ZZ x0 AM Ad r3.1 r1.1 v1 v2 v3 true)
  else (
   ZZ x0 AM Ad r3.1 r1.1 v1 v2 v3 (!r3.2)))
 else (
  (idx v5 0).bind λa3=>
  if (a3.toList == (Zd [119,97,105,116,115]).toList)=true then (
   J7 x0 AM Ad v5 v1 v2 v3 true)
  else (
   J7 x0 AM Ad v5 v1 v2 v3 (a3.toList == (Zd [115,97,121,115]).toList)))
def Jw (x0:ByteArray)  (k:Zb->(List ByteArray)->Int->Int->Option (Zb×Bool)) (Ad:Zb) (v1:List ByteArray) (v2:Int) (v3:Int):Option (Zb×Bool):=
 if decide (v3 < v2)=true then (
  (idx v1 v3).bind λa4=>
  (Kr a4 (Zd [32])).bind λr4=>
  (idx r4 0).bind λa5=>
  if (a5.toList == (Zd [112,111,115,116]).toList)=true then (
   Q6 x0 k Ad r4 v1 v2 v3 (decide ((r4.length:Int) > 3)))
  else (
   Q6 x0 k Ad r4 v1 v2 v3 false))
 else (
  (mZ Ad).bind λr5=>
  if (!(r5.toList == x0.toList))=true then (
   some (Zb.z0,false))
  else (
   some (Ad,true)))
def Q4 (x0:ByteArray)  : Nat->Zb->(List ByteArray)->Int->Int->Option (Zb×Bool)
 | 0,_,_,_,_=>none
 | m+1,Ad,v1,v2,v3=>Jw x0  (Q4 x0  m) Ad v1 v2 v3
def M5 (x0:ByteArray):Option (Zb×Bool):=
 (Jh x0 (Zd [10])).bind λr6=>
 (Kr r6 (Zd [10])).bind λr7=>
 Q4 x0 FU Zb.z0 r7 (r7.length:Int) 0
def nA (At:Zh) (Aq:Zb) (x1:ByteArray)  (v0:ByteArray) (v1:Bool):Option (ByteArray×Z3):=
 if v1=true then (
  (Ya x1 (Zd [10])).bind λn0=>
  (M5 (x1++(Zd [10]))).bind λr0=>
  if (!r0.2)=true then (
   some ((Zd [110,111]),(Z3.mk At Aq none)))
  else (
   if (v0.toList == (Zd [119,97,105,116,115]).toList)=true then (
    some ((Zd [111,107]),(Z3.mk At {Aq with waits:=r0.1.waits} none)))
   else (
    if (v0.toList == (Zd [115,97,121,115]).toList)=true then (
     some ((Zd [111,107]),(Z3.mk At {Aq with A3:=r0.1.A3} none)))
    else (
     (Y4 80 Aq.Al r0.1.Al).bind λz0=>
     some ((Zd [111,107]),(Z3.mk At {Aq with Al:=z0} none))))))
 else (
  some ((Zd [119,104,97,116]),(Z3.mk At Aq none)))
def nB (At:Zh) (Aq:Zb) (x1:ByteArray):Option (ByteArray×Z3):=
 (Ru x1 (Zd [32])).bind λr1=>
 if (r1.1.toList == (Zd [99,111,110,102]).toList)=true then (
  (Le r1.2.1).bind λr2=>
  if (!r2.2)=true then (
   some ((Zd [110,111]),(Z3.mk At Aq none)))
  else (
   some ((Zd [111,107]),(Z3.mk r2.1 Zb.z0 none))))
 else (
  if (r1.1.toList == (Zd [119,97,105,116,115]).toList)=true then (
   nA At Aq x1 r1.1 (r1.1.toList == (Zd [119,97,105,116,115]).toList))
  else (
   if (r1.1.toList == (Zd [115,97,121,115]).toList)=true then (
    nA At Aq x1 r1.1 (r1.1.toList == (Zd [115,97,121,115]).toList))
   else (
    nA At Aq x1 r1.1 (r1.1.toList == (Zd [112,111,115,116]).toList))))
def nC (x0:List Ze):Option (List Ze):=Y4 32 [] x0
def aA (x0:Zh):Option Zh:=
 (nC x0.Ab).bind λr0=>
 some {x0 with Ab:=r0}
def Yll  : Option Zm:=
 (Hj 8 4 0).bind λm0=>
 some (Zm.mk m0 0 [])
def aB  : Option Zf:=
 (Hj 8 192 0).bind λm0=>
 (Yll).bind λr0=>
 some (Zf.mk m0 r0)
def nD (x0:Ze):Option Zj:=
 if (!x0.prio)=true then (
  some Zj.z0)
 else (
  some (Zj.mk (EM x0.cap 0) 0))
def nE (x0:Zh)  (k:Za->Int->Option (Za×Bool)) (Ad:Za) (v0:Int):Option (Za×Bool):=
 if decide (v0 < (x0.Ab.length:Int))=true then (
  (idx x0.Ab v0).bind λa0=>
  (Y4 56 Ad.m [Zg.z0]).bind λz0=>
  (nD a0).bind λr0=>
  (Y4 16 Ad.buckets [r0]).bind λz1=>
  (Y4 8 Ad.splits [0]).bind λz2=>
  k {Ad with m:=z0,buckets:=z1,splits:=z2} (Zo v0 1))
 else (
  some (Ad,true))
def nF (x0:Zh)  : Nat->Za->Int->Option (Za×Bool)
 | 0,_,_=>none
 | m+1,Ad,v0=>nE x0  (nF x0  m) Ad v0
def aC (x0:Zh):Option (Za×Bool):=
 (Lc x0).bind λr1=>
 if (!r1)=true then (
  some (Za.z0,false))
 else (
  (aA x0).bind λr2=>
  (aB).bind λr3=>
  nF x0 FU (Za.mk r2 0 [] Yb.z0 [] [] (-1) 0 (-1) Zi.z0 Zi.z0 r3 0 []) 0)
def R2 (At:Zh) (Aq:Zb) (x1:ByteArray)  (v0:Bool):Option (ByteArray×Z3):=
 if v0=true then (
  some ((Zd [110,111,110,101]),(Z3.mk At Aq none)))
 else (
  some ((Zd [119,104,97,116]),(Z3.mk At Aq none)))
def aD (At:Zh) (Aq:Zb) (x1:ByteArray):Option (ByteArray×Z3):=
 if (x1.toList == (Zd [110,101,119]).toList)=true then (
  (aC At).bind λr0=>
  if (!r0.2)=true then (
   some ((Zd [110,111]),(Z3.mk At Aq none)))
  else (
   some ((Zd [111,107]),(Z3.mk At Aq (some r0.1)))))
 else (
  if (x1.toList == (Zd [99,111,110,102]).toList)=true then (
   (Rv At).bind λr1=>
   if (!(r1.toList == ByteArray.empty.toList))=true then (
    some (r1,(Z3.mk At Aq none)))
   else (
    some ((Zd [110,111,110,101]),(Z3.mk At Aq none))))
  else (
   if (x1.toList == (Zd [115,116,101,112]).toList)=true then (
    R2 At Aq x1 (x1.toList == (Zd [115,116,101,112]).toList))
   else (
    if (x1.toList == (Zd [111,117,116]).toList)=true then (
     R2 At Aq x1 (x1.toList == (Zd [111,117,116]).toList))
    else (
     if (x1.toList == (Zd [105,100,108,101]).toList)=true then (
      R2 At Aq x1 (x1.toList == (Zd [105,100,108,101]).toList))
     else (
      if (x1.toList == (Zd [111,107]).toList)=true then (
       R2 At Aq x1 (x1.toList == (Zd [111,107]).toList))
      else (
       R2 At Aq x1 (x1.toList == (Zd [108,111,103]).toList)))))))
def nG (At:Zh) (Aq:Zb) (AG:Za) (x1:ByteArray)  (v0:ByteArray) (v1:Bool):Option (ByteArray×Z3):=
 if v1=true then (
  (Ya x1 (Zd [10])).bind λn0=>
  (M5 (x1++(Zd [10]))).bind λr0=>
  if (!r0.2)=true then (
   some ((Zd [110,111]),(Z3.mk At Aq (some AG))))
  else (
   if (v0.toList == (Zd [119,97,105,116,115]).toList)=true then (
    some ((Zd [111,107]),(Z3.mk At {Aq with waits:=r0.1.waits} (some AG))))
   else (
    if (v0.toList == (Zd [115,97,121,115]).toList)=true then (
     some ((Zd [111,107]),(Z3.mk At {Aq with A3:=r0.1.A3} (some AG))))
    else (
     (Y4 80 Aq.Al r0.1.Al).bind λz0=>
     some ((Zd [111,107]),(Z3.mk At {Aq with Al:=z0} (some AG)))))))
 else (
  some ((Zd [119,104,97,116]),(Z3.mk At Aq (some AG))))
def nH (At:Zh) (Aq:Zb) (AG:Za) (x1:ByteArray):Option (ByteArray×Z3):=
 (Ru x1 (Zd [32])).bind λr1=>
 if (r1.1.toList == (Zd [99,111,110,102]).toList)=true then (
  (Le r1.2.1).bind λr2=>
  if (!r2.2)=true then (
   some ((Zd [110,111]),(Z3.mk At Aq (some AG))))
  else (
   some ((Zd [111,107]),(Z3.mk r2.1 Zb.z0 none))))
 else (
  if (r1.1.toList == (Zd [119,97,105,116,115]).toList)=true then (
   nG At Aq AG x1 r1.1 (r1.1.toList == (Zd [119,97,105,116,115]).toList))
  else (
   if (r1.1.toList == (Zd [115,97,121,115]).toList)=true then (
    nG At Aq AG x1 r1.1 (r1.1.toList == (Zd [115,97,121,115]).toList))
   else (
    nG At Aq AG x1 r1.1 (r1.1.toList == (Zd [112,111,115,116]).toList))))
def nI (x0:Zk):Option Bool:=
 (Ok x0).bind λr0=>
 some (!r0)
def Zgk (x0:List Zk)  (k:Int->Option Int) (v0:Int):Option Int:=
 if decide (v0 < (x0.length:Int))=true then (
  (idx x0 v0).bind λa0=>
  (nI a0).bind λr0=>
  if r0=true then (
   some v0)
  else (
   k (Zo v0 1)))
 else (
  some (-1))
def Qm (x0:List Zk)  : Nat->Int->Option Int
 | 0,_=>none
 | m+1,v0=>Zgk x0  (Qm x0  m) v0
def Kc (x0:List Zk):Option Int:=
 Qm x0 FU 0
def Wc (x0:List Zk):Option Bool:=
 (Kc x0).bind λr0=>
 some (decide (r0≥0))
def Om (x0:Zg):Option Int:=
 if decide ((x0.queue.length:Int)=0)=true then (
  some 0)
 else (
  (idx x0.queue 0).bind λa0=>
  (Ry a0.Az).bind λr0=>
  some r0)
def W3 (x0:Zg)  (v0:Bool):Option Bool:=
 if v0=true then (
  some false)
 else (
  if decide ((x0.queue.length:Int)=0)=true then (
   if decide (x0.Ao=0)=true then (
    if decide (x0.done=0)=true then (
     if decide (x0.tries=0)=true then (
      if (!x0.Ax)=true then (
       some (!x0.broken))
      else (
       some false))
     else (
      some false))
    else (
     some false))
   else (
    some false))
  else (
   (Om x0).bind λr0=>
   (Ym x0.done 0 (Xd r0 1)).bind λr1=>
   if r1=true then (
    (Om x0).bind λr2=>
    (Ym x0.Ao x0.done (D3 (Zo x0.done 2) r2)).bind λr3=>
    some r3)
   else (
    some false)))
def Jb (x0:Zg):Option Bool:=
 if decide ((x0.queue.length:Int) > 4)=true then (
  W3 x0 true)
 else (
  if decide (x0.tries < 0)=true then (
   W3 x0 true)
  else (
   (Wc x0.queue).bind λr4=>
   W3 x0 r4))
def nJ (x0:Zg) (x1:Int)  (v0:Bool):Option Int:=
 if v0=true then (
  some (-1))
 else (
  (idx x0.queue 0).bind λa0=>
  (ZV a0.addr a0.size a0.Az).bind λr0=>
  (idx r0 x1).bind λa1=>
  some a1)
def On (x0:Zg) (x1:Int):Option Int:=
 (Jb x0).bind λr1=>
 if (!r1)=true then (
  nJ x0 x1 true)
 else (
  (Om x0).bind λr2=>
  (Ym x1 0 (Xd r2 1)).bind λr3=>
  nJ x0 x1 (!r3))
def Xh (x0:List Int):Option (List Int):=Y4 8 [] x0
def R3 (x0:Zk):Option Zk:=
 (Xh x0.Aa).bind λr0=>
 some {x0 with Aa:=r0}
def nK (x0:Zb) (x1:Int)  (k:(List Zl)->Int->Option (List Zl)) (v0:List Zl) (v1:Int):Option (List Zl):=
 if decide (v1 < (x0.Al.length:Int))=true then (
  (idx x0.Al v1).bind λa0=>
  if decide (a0.at_=x1)=true then (
   (R3 a0.Bo).bind λr0=>
   (Y4 80 v0 [{a0 with Bo:=r0}]).bind λz0=>
   k z0 (Zo v1 1))
  else (
   k v0 (Zo v1 1)))
 else (
  some v0)
def nL (x0:Zb) (x1:Int)  : Nat->(List Zl)->Int->Option (List Zl)
 | 0,_,_=>none
 | m+1,v0,v1=>nK x0 x1  (nL x0 x1  m) v0 v1
def nM (x0:Zb) (x1:Int):Option (List Zl):=
 nL x0 x1 FU [] 0
def IL (x0:Zh) (x1:Int):Option Bool:=
 (Ym x1 0 (Xd (x0.Ab.length:Int) 1)).bind λr0=>
 some r0
def Ymv (x0:Zg)  (k:(List Zk)->Int->Option Zg) (v0:List Zk) (v1:Int):Option Zg:=
 if decide (v1 < (x0.queue.length:Int))=true then (
  (idx x0.queue v1).bind λa0=>
  (R3 a0).bind λr0=>
  (Y4 64 v0 [r0]).bind λz0=>
  k z0 (Zo v1 1))
 else (
  some {x0 with queue:=v0})
def nN (x0:Zg)  : Nat->(List Zk)->Int->Option Zg
 | 0,_,_=>none
 | m+1,v0,v1=>Ymv x0  (nN x0  m) v0 v1
def Oo (x0:Zg):Option Zg:=
 nN x0 FU [] 0
def aE (x0:Zg) (x1:Zk)  (Ad:Zg) (v0:Bool):Option (Zg×Bool):=
 if v0=true then (
  some (Ad,false))
 else (
  (R3 x1).bind λr0=>
  (Y4 64 Ad.queue [r0]).bind λz0=>
  some ({Ad with queue:=z0},true))
def nO (x0:Zg) (x1:Zk):Option (Zg×Bool):=
 (Oo x0).bind λr1=>
 (Jb x0).bind λr2=>
 if (!r2)=true then (
  aE x0 x1 r1 true)
 else (
  (Ok x1).bind λr3=>
  if (!r3)=true then (
   aE x0 x1 r1 true)
  else (
   aE x0 x1 r1 (decide ((x0.queue.length:Int)=4))))
def aF (x0:Zj) (x1:Ze):Option Bool:=
 if (!x1.prio)=true then (
  some (decide (x0.tokens=0)&&(decide (x0.count=0)&&true)))
 else (
  (Ym x0.tokens 0 x1.cap).bind λr0=>
  if r0=true then (
   if decide (x0.count≥0)=true then (
    some (decide (x0.count < x1.every)))
   else (
    some false))
  else (
   some false))
def TC (x0:Zj) (x1:Ze):Option Bool:=
 if x1.prio=true then (
  (aF x0 x1).bind λr0=>
  some r0)
 else (
  some false)
def nP (x0:Zj) (x1:Ze):Option Zj:=
 (TC x0 x1).bind λr0=>
 if (!r0)=true then (
  some x0)
 else (
  if decide ((Zo x0.count 1)=x1.every)=true then (
   some (Zj.mk (D3 (Zo x0.tokens 1) x1.cap) 0))
  else (
   some (Zj.mk x0.tokens (Zo x0.count 1))))
def nQ (x0:Zg)  (Ad:Zg) (v0:Bool):Option (Zg×Bool):=
 if v0=true then (
  some (Ad,false))
 else (
  some ({Ad with Ao:=(Xd Ad.Ao 1)},true))
def nR (x0:Zg):Option (Zg×Bool):=
 (Oo x0).bind λr0=>
 (Jb x0).bind λr1=>
 if (!r1)=true then (
  nQ x0 r0 true)
 else (
  nQ x0 r0 (decide (x0.Ao=x0.done)))
def nS (x0:Zj) (x1:Ze):Option Zj:=
 (TC x0 x1).bind λr0=>
 if r0=true then (
  if decide (x0.tokens < x1.cap)=true then (
   some (Zj.mk (Zo x0.tokens 1) x0.count))
  else (
   some x0))
 else (
  some x0)
def zB (x0:Zh) (x1:Int)  (v0:Bool):Option Int:=
 if v0=true then (
  some 0)
 else (
  (idx x0.Ab x1).bind λa0=>
  some (Ky a0.weight x0.Av))
def TD (x0:Zh) (x1:Int):Option Int:=
 (Lc x0).bind λr0=>
 if (!r0)=true then (
  zB x0 x1 true)
 else (
  (IL x0 x1).bind λr1=>
  zB x0 x1 (!r1))
def R4 (x0:Yb) (x1:Zh):Option Bool:=
 (Lc x1).bind λr0=>
 if r0=true then (
  (IL x1 x0.at_).bind λr1=>
  if r1=true then (
   (TD x1 x0.at_).bind λr2=>
   (Ym x0.Bc 0 r2).bind λr3=>
   some r3)
  else (
   some false))
 else (
  some false)
def nT (x0:Yb) (x1:Zh) (x2:Int)  (v0:Bool):Option Yb:=
 if v0=true then (
  (TD x1 x2).bind λr0=>
  some (Yb.mk x0.at_ (D3 (Zo x0.Bc 1) r0)))
 else (
  some x0)
def nU (x0:Yb) (x1:Zh) (x2:Int):Option Yb:=
 (R4 x0 x1).bind λr1=>
 if r1=true then (
  nT x0 x1 x2 (decide (x2=x0.at_)))
 else (
  nT x0 x1 x2 false)
def TE (x0:Za) (x1:Zi):Option Za:=
 (idx x0.m x1.Aj).bind λa0=>
 (nR a0).bind λr0=>
 (Jz x0.m x1.Aj r0.1).bind λy0=>
 if decide (x1.B2=1)=true then (
  (idx x0.buckets x1.Aj).bind λa1=>
  (idx x0.Ae.Ab x1.Aj).bind λa2=>
  (nS a1 a2).bind λr1=>
  (Jz x0.buckets x1.Aj r1).bind λy1=>
  some {x0 with m:=y0,buckets:=y1})
 else (
  if decide (x1.B2=2)=true then (
   (nU x0.Bm x0.Ae x1.Aj).bind λr2=>
   some {x0 with m:=y0,Bm:=r2})
  else (
   some {x0 with m:=y0}))
def nV (x0:List Int) (x1:Int)  (v0:Bool):Option Int:=
 if v0=true then (
  some 0)
 else (
  (GF (x0.length:Int)).bind λn0=>
  (idx x0 (Dd x1 (x0.length:Int))).bind λa0=>
  some a0)
def TF (x0:List Int) (x1:Int):Option Int:=
 if decide ((x0.length:Int)=0)=true then (
  nV x0 x1 true)
 else (
  nV x0 x1 (decide (x1 < 0)))
def nW (x0:Zh) (x1:Zb) (x2:Int):Option Int:=
 (TF x1.waits x2).bind λr0=>
 some (EM 1 (D3 (Zo (EM 0 (D3 r0 99)) 1) x0.Ap))
def nX (x0:Zg) (x1:Int):Option Int:=
 (idx x0.queue 0).bind λa0=>
 if a0.write=true then (
  (idx a0.Aa x1).bind λa1=>
  some a1)
 else (
  some 0)
def aG (x0:Zm):Option Zm:=
 (Xh x0.AB).bind λr0=>
 (Xh x0.A1).bind λr1=>
 some (Zm.mk r0 x0.timer r1)
def TG (x0:Zf):Option Zf:=
 (Xh x0.mem).bind λr0=>
 (aG x0.dev).bind λr1=>
 some (Zf.mk r0 r1)
def nY (x0:Int):Option Bool:=
 (Ym x0 0 255).bind λr0=>
 some (!r0)
def Zk8 (x0:List Int)  (k:Int->Option Int) (v0:Int):Option Int:=
 if decide (v0 < (x0.length:Int))=true then (
  (idx x0 v0).bind λa0=>
  (nY a0).bind λr0=>
  if r0=true then (
   some v0)
  else (
   k (Zo v0 1)))
 else (
  some (-1))
def K9 (x0:List Int)  : Nat->Int->Option Int
 | 0,_=>none
 | m+1,v0=>Zk8 x0  (K9 x0  m) v0
def zC (x0:List Int):Option Int:=
 K9 x0 FU 0
def Qj (x0:List Int):Option Bool:=
 (zC x0).bind λr0=>
 some (decide (r0≥0))
def TH (x0:List Int) (x1:Int) (x2:Int):Option Bool:=
 if decide ((x0.length:Int)<=512)=true then (
  (Qj x0).bind λr0=>
  if (!r0)=true then (
   (Rz x1 x2).bind λr1=>
   if r1=true then (
    (IK x2).bind λr2=>
    some (decide (x1<=(Xd (x0.length:Int) r2))))
   else (
    some false))
  else (
   some false))
 else (
  some false)
def nZ (x0:Int):Option Bool:=
 (Lf x0 2).bind λr0=>
 some (!r0)
def Zkr (x0:List Int)  (k:Int->Option Int) (v0:Int):Option Int:=
 if decide (v0 < (x0.length:Int))=true then (
  (idx x0 v0).bind λa0=>
  (nZ a0).bind λr0=>
  if r0=true then (
   some v0)
  else (
   k (Zo v0 1)))
 else (
  some (-1))
def Kx (x0:List Int)  : Nat->Int->Option Int
 | 0,_=>none
 | m+1,v0=>Zkr x0  (Kx x0  m) v0
def J4 (x0:List Int):Option Int:=
 Kx x0 FU 0
def X9 (x0:List Int):Option Bool:=
 (J4 x0).bind λr0=>
 some (decide (r0≥0))
def aH (x0:Zm):Option Bool:=
 if decide ((x0.AB.length:Int)=4)=true then (
  if decide ((x0.A1.length:Int)<=4)=true then (
   (X9 x0.AB).bind λr0=>
   if (!r0)=true then (
    (X9 x0.A1).bind λr1=>
    if (!r1)=true then (
     (Lf x0.timer 2).bind λr2=>
     some r2)
    else (
     some false))
   else (
    some false))
  else (
   some false))
 else (
  some false)
def R5 (x0:Zf):Option Bool:=
 if decide ((x0.mem.length:Int)=192)=true then (
  (TH x0.mem 0 0).bind λr0=>
  if r0=true then (
   (aH x0.dev).bind λr1=>
   some r1)
  else (
   some false))
 else (
  some false)
def oA (x0:Int)  (v0:Bool):Option Int:=
 if v0=true then (
  some 0)
 else (
  if decide (x0 < 128)=true then (
   some 1)
  else (
   if decide (x0 < 192)=true then (
    some 2)
   else (
    some 3)))
def aI (x0:Int):Option Int:=
 if decide (x0 < 0)=true then (
  oA x0 true)
 else (
  oA x0 (decide (x0≥224)))
def aJ (x0:Zm) (x1:Bool) (x2:Int) (x3:Int)  (Ad:Zm) (v0:Bool):Option (Zm×Int×Bool):=
 if v0=true then (
  some (Ad,0,false))
 else (
  if x1=true then (
   (idx Ad.AB (Ft x2 4)).bind λa0=>
   (Jz Ad.AB (Ft x2 4) x3).bind λy0=>
   some ({Ad with AB:=y0},x3,true))
  else (
   (idx x0.AB (Ft x2 4)).bind λa1=>
   some (Ad,a1,true)))
def aK (x0:Zm) (x1:Bool) (x2:Int) (x3:Int)  (Ad:Zm) (v1:Bool):Option (Zm×Int×Bool):=
 if v1=true then (
  (idx x0.A1 0).bind λa2=>
  (Ys x0.A1 1 (x0.A1.length:Int)).bind λs0=>
  (Xh s0).bind λr0=>
  some ({Ad with A1:=r0},a2,true))
 else (
  if decide (x2≥16)=true then (
   aJ x0 x1 x2 x3 Ad true)
  else (
   if decide (x2 < 0)=true then (
    aJ x0 x1 x2 x3 Ad true)
   else (
    aJ x0 x1 x2 x3 Ad (decide ((Dd x2 4)≠0)))))
def aL (x0:Zm) (x1:Bool) (x2:Int) (x3:Int)  (Ad:Zm) (v2:Bool):Option (Zm×Int×Bool):=
 if v2=true then (
  (Y4 8 Ad.A1 [x3]).bind λz0=>
  some ({Ad with A1:=z0},x3,true))
 else (
  if decide (x2=20)=true then (
   if (!x1)=true then (
    aK x0 x1 x2 x3 Ad (decide ((x0.A1.length:Int) > 0)))
   else (
    aK x0 x1 x2 x3 Ad false))
  else (
   aK x0 x1 x2 x3 Ad false))
def oC (x0:Zm) (x1:Bool) (x2:Int) (x3:Int)  (Ad:Zm) (v3:Bool):Option (Zm×Int×Bool):=
 if v3=true then (
  some ({Ad with timer:=x3},x3,true))
 else (
  if decide (x2=16)=true then (
   (ZW 2).bind λr1=>
   (GF r1).bind λn0=>
   some ({Ad with timer:=(Dd (Zo x0.timer 1) r1)},x0.timer,true))
  else (
   if decide (x2=20)=true then (
    if x1=true then (
     aL x0 x1 x2 x3 Ad (decide ((x0.A1.length:Int) < 4)))
    else (
     aL x0 x1 x2 x3 Ad false))
   else (
    aL x0 x1 x2 x3 Ad false)))
def R6 (x0:Zm) (x1:Bool) (x2:Int) (x3:Int)  (Ad:Zm) (v4:Bool):Option (Zm×Int×Bool):=
 if v4=true then (
  some (Ad,0,false))
 else (
  if decide (x2=16)=true then (
   oC x0 x1 x2 x3 Ad x1)
  else (
   oC x0 x1 x2 x3 Ad false))
def oD (x0:Zm) (x1:Bool) (x2:Int) (x3:Int):Option (Zm×Int×Bool):=
 (aG x0).bind λr2=>
 (aH x0).bind λr3=>
 if (!r3)=true then (
  R6 x0 x1 x2 x3 r2 true)
 else (
  if x1=true then (
   (Lf x3 2).bind λr4=>
   R6 x0 x1 x2 x3 r2 (!r4))
  else (
   R6 x0 x1 x2 x3 r2 false))
def aM (x0:List Int) (x1:Int) (x2:Int) (x3:Int)  (k:(List Int)->Int->Int->Option (List Int×Bool)) (v0:List Int) (v1:Int) (v2:Int):Option (List Int×Bool):=
 if decide (v2 < v1)=true then (
  (KR (Ky 8 v2)).bind λn0=>
  (idx v0 (Zo x1 v2)).bind λa0=>
  (Jz v0 (Zo x1 v2) (QT (QV x3 (Ky 8 v2)) 255)).bind λy0=>
  k y0 v1 (Zo v2 1))
 else (
  some (v0,true))
def oF (x0:List Int) (x1:Int) (x2:Int) (x3:Int)  : Nat->(List Int)->Int->Int->Option (List Int×Bool)
 | 0,_,_,_=>none
 | m+1,v0,v1,v2=>aM x0 x1 x2 x3  (oF x0 x1 x2 x3  m) v0 v1 v2
def oG (x0:List Int) (x1:Int) (x2:Int) (x3:Int)  (v0:List Int) (v3:Bool):Option (List Int×Bool):=
 if v3=true then (
  some (v0,false))
 else (
  (IK x2).bind λr0=>
  oF x0 x1 x2 x3 FU v0 r0 0)
def oH (x0:List Int) (x1:Int) (x2:Int) (x3:Int):Option (List Int×Bool):=
 (Xh x0).bind λr1=>
 (TH x0 x1 x2).bind λr2=>
 if (!r2)=true then (
  oG x0 x1 x2 x3 r1 true)
 else (
  (Lf x3 x2).bind λr3=>
  oG x0 x1 x2 x3 r1 (!r3))
def aN (x0:List Int) (x1:Int) (x2:Int)  (k:Int->Int->Int->Option (Int×Bool)) (v0:Int) (v1:Int) (v2:Int):Option (Int×Bool):=
 if decide (v2 < v1)=true then (
  (idx x0 (Zo x1 v2)).bind λa0=>
  (KR (Ky 8 v2)).bind λn0=>
  k (yB v0 (QU a0 (Ky 8 v2))) v1 (Zo v2 1))
 else (
  some (v0,true))
def oI (x0:List Int) (x1:Int) (x2:Int)  : Nat->Int->Int->Int->Option (Int×Bool)
 | 0,_,_,_=>none
 | m+1,v0,v1,v2=>aN x0 x1 x2  (oI x0 x1 x2  m) v0 v1 v2
def oJ (x0:List Int) (x1:Int) (x2:Int):Option (Int×Bool):=
 (TH x0 x1 x2).bind λr0=>
 if (!r0)=true then (
  some (0,false))
 else (
  (IK x2).bind λr1=>
  oI x0 x1 x2 FU 0 r1 0)
def TI (x0:Zf) (x1:Bool) (x2:Int) (x3:Int) (x4:Int)  (Ad:Zf) (v0:Int) (v1:Bool):Option (Zf×Int×Int):=
 if (!v1)=true then (
  (TG x0).bind λr0=>
  some (r0,0,1))
 else (
  some (Ad,v0,0))
def oK (x0:Zf) (x1:Bool) (x2:Int) (x3:Int) (x4:Int)  (Ad:Zf) (v2:Bool):Option (Zf×Int×Int):=
 if v2=true then (
  if x1=true then (
   (oH x0.mem x2 x3 x4).bind λr1=>
   TI x0 x1 x2 x3 x4 (Zf.mk r1.1 Ad.dev) x4 r1.2)
  else (
   (oJ x0.mem x2 x3).bind λr2=>
   TI x0 x1 x2 x3 x4 Ad r2.1 r2.2))
 else (
  TI x0 x1 x2 x3 x4 Ad x4 false)
def oL (x0:Zf) (x1:Bool) (x2:Int) (x3:Int) (x4:Int)  (Ad:Zf) (v3:Int) (v4:Bool):Option (Zf×Int×Int):=
 if v4=true then (
  (oD x0.dev x1 (Xd x2 192) x4).bind λr3=>
  TI x0 x1 x2 x3 x4 (Zf.mk Ad.mem r3.1) r3.2.1 r3.2.2)
 else (
  if decide (v3=1)=true then (
   oK x0 x1 x2 x3 x4 Ad true)
  else (
   oK x0 x1 x2 x3 x4 Ad (decide (v3=2))))
def J1 (x0:Zf) (x1:Bool) (x2:Int) (x3:Int) (x4:Int)  (Ad:Zf) (v5:Bool):Option (Zf×Int×Int):=
 if v5=true then (
  some (Ad,0,1))
 else (
  (aI x2).bind λr4=>
  if decide (r4=3)=true then (
   oL x0 x1 x2 x3 x4 Ad r4 (decide (x3=2)))
  else (
   oL x0 x1 x2 x3 x4 Ad r4 false))
def aO (x0:Zf) (x1:Bool) (x2:Int) (x3:Int) (x4:Int):Option (Zf×Int×Int):=
 (TG x0).bind λr5=>
 (R5 x0).bind λr6=>
 if (!r6)=true then (
  J1 x0 x1 x2 x3 x4 r5 true)
 else (
  (Rz x2 x3).bind λr7=>
  if (!r7)=true then (
   J1 x0 x1 x2 x3 x4 r5 true)
  else (
   if x1=true then (
    (Lf x4 x3).bind λr8=>
    J1 x0 x1 x2 x3 x4 r5 (!r8))
   else (
    J1 x0 x1 x2 x3 x4 r5 false)))
def aP (x0:Za) (x1:Zi):Option (Zf×Int×Int):=
 (idx x0.m x1.Aj).bind λa0=>
 (idx a0.queue 0).bind λa1=>
 (On a0 x1.Ao).bind λr0=>
 (nX a0 x1.Ao).bind λr1=>
 (aO x0.model a1.write r0 a1.size r1).bind λr2=>
 some (r2.1,r2.2.1,r2.2.2)
def oM (x0:Zg)  (Ad:Zg) (v0:Bool):Option (Zg×Bool):=
 if v0=true then (
  some (Ad,false))
 else (
  (Om {Ad with done:=(Zo Ad.done 1)}).bind λr0=>
  if decide ((Zo Ad.done 1)=r0)=true then (
   (Ys Ad.queue 1 (Ad.queue.length:Int)).bind λs0=>
   some ((Zg.mk s0 0 0 0 false false),true))
  else (
   some ((Zg.mk Ad.queue Ad.Ao (Zo Ad.done 1) 0 false Ad.broken),true)))
def oN (x0:Zg):Option (Zg×Bool):=
 (Oo x0).bind λr1=>
 (Jb x0).bind λr2=>
 if (!r2)=true then (
  oM x0 r1 true)
 else (
  oM x0 r1 (decide (x0.Ao=x0.done)))
def aQ (x0:Za):Option Za:=
 some {x0 with Af:=(-1),held:=0}
def oO (x0:Za) (x1:Zi)  (Ad:Za) (A2:Zg):Option Za:=
 (idx Ad.m x1.Aj).bind λa0=>
 (Jz Ad.m x1.Aj A2).bind λy0=>
 some {Ad with m:=y0}
def oP (x0:Za) (x1:Zi)  (Ad:Za) (A2:Zg) (v0:Bool):Option Za:=
 if v0=true then (
  (aQ Ad).bind λr0=>
  oO x0 x1 r0 A2)
 else (
  oO x0 x1 Ad A2)
def aR (x0:Za) (x1:Zi)  (Ad:Za) (A2:Zg) (AI:Zt):Option Za:=
 (Y4 56 Ad.log [AI]).bind λz0=>
 (oN A2).bind λr1=>
 if decide (Ad.Af=x1.Aj)=true then (
  oP x0 x1 {Ad with log:=z0} r1.1 (decide ((r1.1.queue.length:Int) < (A2.queue.length:Int))))
 else (
  oP x0 x1 {Ad with log:=z0} r1.1 false)
def oQ (x0:Za) (x1:Zi):Option Za:=
 (idx x0.m x1.Aj).bind λa1=>
 (idx a1.queue 0).bind λa2=>
 (On a1 x1.Ao).bind λr2=>
 if decide (x1.Ar=0)=true then (
  (aP x0 x1).bind λr3=>
  aR x0 x1 {x0 with model:=r3.1} a1 (Zt.mk x0.now x1.Aj a2.write r2 a2.size r3.2.1 x1.Ar))
 else (
  aR x0 x1 x0 a1 (Zt.mk x0.now x1.Aj a2.write r2 a2.size 0 x1.Ar))
def oR (x0:Za) (x1:Zb) (x2:Zq)  (Ad:Za):Option (Bool×Za×Zq):=
 some (false,Ad,{x2 with Ar:=x0.Aa.Ar})
def TJ (x0:Za) (x1:Zb) (x2:Zq)  (v0:Bool):Option (Bool×Za×Zq):=
 if v0=true then (
  if x0.addr.live=true then (
   (TE {x0 with Aa:={x0.Aa with second:=true}} x0.addr).bind λr0=>
   oR x0 x1 x2 {r0 with addr:=Zi.z0})
  else (
   oR x0 x1 x2 {x0 with Aa:={x0.Aa with second:=true}}))
 else (
  if decide (x0.Aa.Ar=2)=true then (
   (idx x0.m x0.Aa.Aj).bind λa0=>
   (Jz x0.m x0.Aa.Aj {a0 with tries:=(Zo a0.tries 1)}).bind λy0=>
   (TE {x0 with m:=y0,Aa:=Zi.z0} x0.Aa).bind λr1=>
   some (true,r1,{x2 with Ar:=x0.Aa.Ar}))
  else (
   if decide (x0.Aa.Ar=3)=true then (
    (idx x0.m x0.Aa.Aj).bind λa1=>
    (Jz x0.m x0.Aa.Aj {a1 with Ax:=true}).bind λy1=>
    (nW x0.Ae x1 x0.Au).bind λr2=>
    (idx x0.splits x0.Aa.Aj).bind λa2=>
    (Jz x0.splits x0.Aa.Aj r2).bind λy2=>
    (TE {x0 with m:=y1,splits:=y2,Aa:=Zi.z0} x0.Aa).bind λr3=>
    some (true,r3,{x2 with Ar:=x0.Aa.Ar}))
   else (
    (oQ {x0 with Aa:=Zi.z0} x0.Aa).bind λr4=>
    some (true,r4,{x2 with Ar:=x0.Aa.Ar}))))
def oS (x0:Za) (x1:Zb) (x2:Zq):Option (Bool×Za×Zq):=
 if (!x0.Aa.live)=true then (
  some (true,x0,x2))
 else (
  if decide (x0.Aa.left > 0)=true then (
   some (false,{x0 with Aa:={x0.Aa with left:=(Xd x0.Aa.left 1)}},x2))
  else (
   if decide (x0.Aa.Ar≠0)=true then (
    TJ x0 x1 x2 (!x0.Aa.second))
   else (
    TJ x0 x1 x2 false)))
def oT (x0:Zh) (x1:Zb) (x2:Int):Option Int:=
 (TF x1.waits x2).bind λr0=>
 some (EM 0 (D3 r0 x0.As))
def oU (x0:Zb) (x1:Int):Option Int:=
 (TF x0.A3 x1).bind λr0=>
 if decide (r0=2)=true then (
  some r0)
 else (
  if decide (r0=3)=true then (
   some r0)
  else (
   some 0))
def K2 (x0:Za) (x1:Zb) (x2:Zi)  (Ad:Zg) (v0:Int) (v1:Int) (v2:Int) (v3:Int) (v4:Bool):Option (Int×Int):=
 if v4=true then (
  some (2,v2))
 else (
  if decide (v3=3)=true then (
   if decide (v0=2)=true then (
    if (!Ad.Ax)=true then (
     if decide (x2.Aj≠x0.Af)=true then (
      some (3,v2))
     else (
      some (v1,v2)))
    else (
     some (v1,v2)))
   else (
    some (v1,v2)))
  else (
   some (v1,v2)))
def aS (x0:Za) (x1:Zb) (x2:Zi)  (A2:Zg) (v0:Int) (v1:Int) (v2:Int):Option (Int×Int):=
 (oU x1 x0.Au).bind λr0=>
 if decide (r0=2)=true then (
  if decide (v0≠3)=true then (
   K2 x0 x1 x2 A2 v0 v1 v2 r0 (decide (A2.tries < x0.Ae.An)))
  else (
   K2 x0 x1 x2 A2 v0 v1 v2 r0 false))
 else (
  K2 x0 x1 x2 A2 v0 v1 v2 r0 false)
def R7 (x0:Za) (x1:Zb) (x2:Zi)  (A2:Zg) (v0:Int) (v5:Bool):Option (Int×Int):=
 if v5=true then (
  some (1,0))
 else (
  (aP x0 x2).bind λr1=>
  (oT x0.Ae x1 x0.Au).bind λr2=>
  if decide (v0=3)=true then (
   aS x0 x1 x2 A2 v0 r1.2.2 (Zo r2 2))
  else (
   aS x0 x1 x2 A2 v0 r1.2.2 r2))
def oW (x0:Za) (x1:Zb) (x2:Zi):Option (Int×Int):=
 (idx x0.m x2.Aj).bind λa0=>
 (On a0 x2.Ao).bind λr3=>
 (aI r3).bind λr4=>
 if a0.broken=true then (
  R7 x0 x1 x2 a0 r4 true)
 else (
  R7 x0 x1 x2 a0 r4 (decide (r4=0)))
def aT (x0:Zg):Option Bool:=
 (Jb x0).bind λr0=>
 if r0=true then (
  (Om x0).bind λr1=>
  some (decide (x0.Ao < r1)))
 else (
  some false)
def oX (x0:Zj) (x1:Ze)  (v0:Bool):Option (Zj×Bool):=
 if v0=true then (
  some (x0,false))
 else (
  some ((Zj.mk (Xd x0.tokens 1) x0.count),true))
def oY (x0:Zj) (x1:Ze):Option (Zj×Bool):=
 (TC x0 x1).bind λr0=>
 if (!r0)=true then (
  oX x0 x1 true)
 else (
  oX x0 x1 (decide (x0.tokens=0)))
def zD (x0:Yb) (x1:Zh) (x2:List Bool)  (k:Int->Option (Yb×Int)) (v0:Int):Option (Yb×Int):=
 if decide (v0<=(x1.Ab.length:Int))=true then (
  (GF (x1.Ab.length:Int)).bind λn0=>
  (idx x2 (Dd (Zo x0.at_ v0) (x1.Ab.length:Int))).bind λa0=>
  if a0=true then (
   (TD x1 (Dd (Zo x0.at_ v0) (x1.Ab.length:Int))).bind λr0=>
   some ((Yb.mk (Dd (Zo x0.at_ v0) (x1.Ab.length:Int)) (Xd r0 1)),(Dd (Zo x0.at_ v0) (x1.Ab.length:Int))))
  else (
   k (Zo v0 1)))
 else (
  some ((Yb.mk x0.at_ 0),(-1)))
def oZ (x0:Yb) (x1:Zh) (x2:List Bool)  : Nat->Int->Option (Yb×Int)
 | 0,_=>none
 | m+1,v0=>zD x0 x1 x2  (oZ x0 x1 x2  m) v0
def o4 (x0:Yb) (x1:Zh) (x2:List Bool)  (v1:Bool):Option (Yb×Int):=
 if v1=true then (
  some ((Yb.mk x0.at_ (Xd x0.Bc 1)),x0.at_))
 else (
  oZ x0 x1 x2 FU 1)
def o5 (x0:Yb) (x1:Zh) (x2:List Bool)  (v2:Bool):Option (Yb×Int):=
 if v2=true then (
  some (x0,(-1)))
 else (
  if decide (x0.Bc > 0)=true then (
   (idx x2 x0.at_).bind λa1=>
   o4 x0 x1 x2 a1)
  else (
   o4 x0 x1 x2 false))
def o6 (x0:Yb) (x1:Zh) (x2:List Bool):Option (Yb×Int):=
 (R4 x0 x1).bind λr1=>
 if (!r1)=true then (
  o5 x0 x1 x2 true)
 else (
  o5 x0 x1 x2 (decide ((x2.length:Int)≠(x1.Ab.length:Int))))
def aU (x0:Za)  (k:(List Bool)->Int->Int->Option (Int×Int×Za)) (v0:List Bool) (v1:Int) (v2:Int):Option (Int×Int×Za):=
 if decide (v2 < v1)=true then (
  (idx v0 v2).bind λa0=>
  if (!a0)=true then (
   k v0 v1 (Zo v2 1))
  else (
   (idx x0.buckets v2).bind λa1=>
   (idx x0.Ae.Ab v2).bind λa2=>
   (oY a1 a2).bind λr0=>
   if r0.2=true then (
    (Jz x0.buckets v2 r0.1).bind λy0=>
    some (v2,1,{x0 with buckets:=y0}))
   else (
    k v0 v1 (Zo v2 1))))
 else (
  if decide (x0.Af≠(-1))=true then (
   some ((-1),0,x0))
  else (
   (o6 x0.Bm x0.Ae v0).bind λr1=>
   some (r1.2,2,{x0 with Bm:=r1.1})))
def aV (x0:Za)  : Nat->(List Bool)->Int->Int->Option (Int×Int×Za)
 | 0,_,_,_=>none
 | m+1,v0,v1,v2=>aU x0  (aV x0  m) v0 v1 v2
def o7 (x0:Za)  (v0:List Bool) (v3:Bool):Option (Int×Int×Za):=
 if v3=true then (
  some (x0.Af,3,x0))
 else (
  aV x0 FU v0 (v0.length:Int) 0)
def o8 (x0:Za)  (k:(List Bool)->Int->Option (Int×Int×Za)) (v0:List Bool) (v4:Int):Option (Int×Int×Za):=
 if decide (v4 < (x0.m.length:Int))=true then (
  (idx x0.m v4).bind λa3=>
  (aT a3).bind λr2=>
  if r2=true then (
   (idx x0.splits v4).bind λa4=>
   if decide (a4=0)=true then (
    if decide (x0.Af=(-1))=true then (
     (Y4 1 v0 [true]).bind λz0=>
     k z0 (Zo v4 1))
    else (
     (Y4 1 v0 [decide (x0.Af=v4)]).bind λz0=>
     k z0 (Zo v4 1)))
   else (
    (Y4 1 v0 [false]).bind λz0=>
    k z0 (Zo v4 1)))
  else (
   (Y4 1 v0 [false]).bind λz0=>
   k z0 (Zo v4 1)))
 else (
  if decide (x0.Af≠(-1))=true then (
   (idx v0 x0.Af).bind λa5=>
   o7 x0 v0 a5)
  else (
   o7 x0 v0 false))
def o9 (x0:Za)  : Nat->(List Bool)->Int->Option (Int×Int×Za)
 | 0,_,_=>none
 | m+1,v0,v4=>o8 x0  (o9 x0  m) v0 v4
def pA (x0:Za):Option (Int×Int×Za):=
 o9 x0 FU [] 0
def TK (x0:Zg):Option Bool:=
 if decide ((x0.queue.length:Int) > 0)=true then (
  (idx x0.queue 0).bind λa0=>
  if a0.lock=true then (
   some (!x0.broken))
  else (
   some false))
 else (
  some false)
def pB (x0:Zg)  (Ad:Zg) (v0:Bool):Option (Zg×Bool):=
 if v0=true then (
  some (Ad,false))
 else (
  some ({Ad with Ao:=(Zo Ad.Ao 1)},true))
def pC (x0:Zg):Option (Zg×Bool):=
 (Oo x0).bind λr0=>
 (aT x0).bind λr1=>
 if (!r1)=true then (
  pB x0 r0 true)
 else (
  pB x0 r0 (decide (x0.Ao=(Zo x0.done 2))))
def pD (x0:Za)  (Ad:Za) (A2:Zg) (v0:Int):Option (Int×Za):=
 (pC A2).bind λr0=>
 (idx Ad.m v0).bind λa0=>
 (Jz Ad.m v0 r0.1).bind λy0=>
 some (v0,{Ad with m:=y0,last:=v0})
def pE (x0:Za)  (Ad:Za) (A2:Zg) (v0:Int) (v1:Bool):Option (Int×Za):=
 if v1=true then (
  pD x0 {Ad with Af:=v0,held:=0} A2 v0)
 else (
  pD x0 Ad A2 v0)
def R8 (x0:Za)  (Ad:Za) (A2:Zg) (v0:Int):Option (Int×Za):=
 (TK A2).bind λr1=>
 if r1=true then (
  pE x0 Ad A2 v0 (decide (Ad.Af=(-1))))
 else (
  pE x0 Ad A2 v0 false)
def pF (x0:Za):Option (Int×Za):=
 (pA x0).bind λr2=>
 if decide (r2.1 < 0)=true then (
  some ((-1),r2.2.2))
 else (
  (idx r2.2.2.m r2.1).bind λa1=>
  if decide (a1.Ao=0)=true then (
   R8 x0 {r2.2.2 with addr:=(Zi.mk true r2.1 a1.Ao true r2.2.1 0 0 false)} a1 r2.1)
  else (
   R8 x0 {r2.2.2 with addr:=(Zi.mk true r2.1 a1.Ao (decide (r2.2.2.last≠r2.1)) r2.2.1 0 0 false)} a1 r2.1))
def aW (x0:Za) (x1:Zb)  (Ad:Za) (A2:Zq):Option (Zq×Za):=
 some (A2,{Ad with now:=(Zo Ad.now 1)})
def aX (x0:Za) (x1:Zb)  (Ad:Za) (A2:Zq):Option (Zq×Za):=
 (pF Ad).bind λr0=>
 aW x0 x1 r0.2 {A2 with C0:=r0.1}
def TL (x0:Za) (x1:Zb)  (Ad:Za) (AI:Zq):Option (Zq×Za):=
 if Ad.addr.live=true then (
  (oW Ad x1 Ad.addr).bind λr1=>
  aX x0 x1 {Ad with addr:=Zi.z0,Aa:={Ad.addr with left:=r1.2,Ar:=r1.1},Au:=(Zo Ad.Au 1)} AI)
 else (
  aX x0 x1 Ad AI)
def Oq (x0:Za) (x1:Zb)  (Ad:Za) (AI:Zq) (v0:Bool):Option (Zq×Za):=
 if v0=true then (
  (idx Ad.m Ad.Af).bind λa0=>
  (Jz Ad.m Ad.Af {a0 with broken:=true}).bind λy0=>
  (aQ {Ad with m:=y0}).bind λr2=>
  TL x0 x1 r2 AI)
 else (
  TL x0 x1 Ad AI)
def Ot (x0:Za) (x1:Zb)  (Ad:Za) (AI:Zq):Option (Zq×Za):=
 (oS Ad x1 AI).bind λr3=>
 if r3.1=true then (
  if decide (r3.2.1.Af≠(-1))=true then (
   Oq x0 x1 r3.2.1 {r3.2.2 with ready:=r3.1} (decide (r3.2.1.held=r3.2.1.Ae.Am)))
  else (
   Oq x0 x1 r3.2.1 {r3.2.2 with ready:=r3.1} false))
 else (
  aW x0 x1 r3.2.1 {r3.2.2 with ready:=r3.1})
def pG (x0:Za) (x1:Zb)  (k:Za->Zq->Int->Int->Option (Zq×Za)) (Ad:Za) (AI:Zq) (v1:Int) (v2:Int):Option (Zq×Za):=
 if decide (v2 < v1)=true then (
  (idx Ad.splits v2).bind λa1=>
  (Jz Ad.splits v2 (EM (Xd a1 1) 0)).bind λy1=>
  (idx Ad.buckets v2).bind λa2=>
  (idx Ad.Ae.Ab v2).bind λa3=>
  (nP a2 a3).bind λr4=>
  (Jz Ad.buckets v2 r4).bind λy2=>
  k {Ad with buckets:=y2,splits:=y1} AI v1 (Zo v2 1))
 else (
  if decide (Ad.Af≠(-1))=true then (
   Ot x0 x1 {Ad with held:=(D3 (Zo Ad.held 1) Ad.Ae.Am)} AI)
  else (
   Ot x0 x1 Ad AI))
def R9 (x0:Za) (x1:Zb)  : Nat->Za->Zq->Int->Int->Option (Zq×Za)
 | 0,_,_,_,_=>none
 | m+1,Ad,AI,v1,v2=>pG x0 x1  (R9 x0 x1  m) Ad AI v1 v2
def pH (x0:Za) (x1:Zb)  (k:Za->Zq->(List Zl)->Int->Int->Option (Zq×Za)) (Ad:Za) (AI:Zq) (v3:List Zl) (v4:Int) (v5:Int):Option (Zq×Za):=
 if decide (v5 < v4)=true then (
  (idx v3 v5).bind λa4=>
  (IL Ad.Ae a4.Aj).bind λr5=>
  if r5=true then (
   (idx Ad.m a4.Aj).bind λa5=>
   (nO a5 a4.Bo).bind λr6=>
   (Jz Ad.m a4.Aj r6.1).bind λy3=>
   k {Ad with m:=y3} AI v3 v4 (Zo v5 1))
  else (
   k Ad AI v3 v4 (Zo v5 1)))
 else (
  R9 x0 x1 FU Ad AI (Ad.splits.length:Int) 0)
def aY (x0:Za) (x1:Zb)  : Nat->Za->Zq->(List Zl)->Int->Int->Option (Zq×Za)
 | 0,_,_,_,_,_=>none
 | m+1,Ad,AI,v3,v4,v5=>pH x0 x1  (aY x0 x1  m) Ad AI v3 v4 v5
def aZ (x0:Za) (x1:Zb)  (AI:Zq):Option (Zq×Za):=
 (nM x1 x0.now).bind λr7=>
 aY x0 x1 FU x0 AI r7 (r7.length:Int) 0
def bA (x0:Za) (x1:Zb)  (AI:Zq):Option (Zq×Za):=
 if x0.Aa.live=true then (
  (idx x0.m x0.Aa.Aj).bind λa6=>
  (On a6 x0.Aa.Ao).bind λr8=>
  aZ x0 x1 {AI with Aa:=r8,from_:=x0.Aa.Aj})
 else (
  aZ x0 x1 AI)
def RA (x0:Za) (x1:Zb):Option (Zq×Za):=
 if x0.addr.live=true then (
  (idx x0.m x0.addr.Aj).bind λa7=>
  (On a7 x0.addr.Ao).bind λr9=>
  if x0.addr.first=true then (
   bA x0 x1 (Zq.mk x0.now r9 2 x0.addr.Aj (-1) (-1) true 0 (-1)))
  else (
   bA x0 x1 (Zq.mk x0.now r9 3 x0.addr.Aj (-1) (-1) true 0 (-1))))
 else (
  bA x0 x1 (Zq.mk x0.now (-1) 0 (-1) (-1) (-1) true 0 (-1)))
def RB (x0:Int) (x1:List ByteArray):Option ByteArray:=
 (Ym x0 0 (Xd (x1.length:Int) 1)).bind λr0=>
 if (!r0)=true then (
  some ByteArray.empty)
 else (
  (idx x1 x0).bind λa0=>
  some a0)
def bB (x0:Int):Option ByteArray:=
 (RB x0 [(Zd [105,100,108,101]),ByteArray.empty,(Zd [102,105,114,115,116]),(Zd [110,101,120,116])]).bind λr0=>
 some r0
def M6 (x0:Int):Option ByteArray:=
 if decide (x0 < 0)=true then (
  some (Zd [45]))
 else (
  (FL x0).bind λr0=>
  some r0)
def TM (x0:Int):Option ByteArray:=
 (RB x0 [(Zd [111,107,97,121]),(Zd [101,114,114,111,114]),(Zd [114,101,116,114,121]),(Zd [115,112,108,105,116])]).bind λr0=>
 some r0
def bC (x0:Zq)  (v0:ByteArray):Option ByteArray:=
 (FL x0.A4).bind λr0=>
 (bB x0.kind).bind λr1=>
 (M6 x0.Aj).bind λr2=>
 (Ya r2 (Zd [58])).bind λn0=>
 (M6 x0.addr).bind λr3=>
 (Ya (r2++(Zd [58])) r3).bind λn1=>
 (M6 x0.from_).bind λr4=>
 (Ya r4 (Zd [58])).bind λn2=>
 (M6 x0.Aa).bind λr5=>
 (Ya (r4++(Zd [58])) r5).bind λn3=>
 (TM x0.Ar).bind λr6=>
 (M6 x0.C0).bind λr7=>
 (Qf [r0,r1,((r2++(Zd [58]))++r3),((r4++(Zd [58]))++r5),v0,r6,r7] (Zd [32])).bind λr8=>
 some r8
def pI (x0:Zq):Option ByteArray:=
 if x0.ready=true then (
  bC x0 (Zd [114,101,97,100,121]))
 else (
  bC x0 (Zd [119,97,105,116]))
def pJ (x0:List Zj):Option (List Zj):=Y4 16 [] x0
def pK (x0:List Zt):Option (List Zt):=Y4 56 [] x0
def pL (x0:Za)  (k:Za->(List Zg)->Int->Option Za) (Ad:Za) (v0:List Zg) (v1:Int):Option Za:=
 if decide (v1 < (x0.m.length:Int))=true then (
  (idx x0.m v1).bind λa0=>
  (Oo a0).bind λr0=>
  (Y4 56 v0 [r0]).bind λz0=>
  k Ad z0 (Zo v1 1))
 else (
  (pJ Ad.buckets).bind λr1=>
  (Xh Ad.splits).bind λr2=>
  (TG Ad.model).bind λr3=>
  (pK Ad.log).bind λr4=>
  some {Ad with m:=v0,buckets:=r1,splits:=r2,model:=r3,log:=r4})
def bD (x0:Za)  : Nat->Za->(List Zg)->Int->Option Za
 | 0,_,_,_=>none
 | m+1,Ad,v0,v1=>pL x0  (bD x0  m) Ad v0 v1
def bE (x0:Za):Option Za:=
 (aA x0.Ae).bind λr5=>
 bD x0 FU {x0 with Ae:=r5} [] 0
def pM (x0:Za)  (k:Int->Option Bool) (v0:Int):Option Bool:=
 if decide (v0 < (x0.m.length:Int))=true then (
  (idx x0.m v0).bind λa0=>
  (Jb a0).bind λr0=>
  if (!r0)=true then (
   some false)
  else (
   if decide (a0.tries > x0.Ae.An)=true then (
    some false)
   else (
    (idx x0.buckets v0).bind λa1=>
    (idx x0.Ae.Ab v0).bind λa2=>
    (aF a1 a2).bind λr1=>
    if (!r1)=true then (
     some false)
    else (
     (idx x0.splits v0).bind λa3=>
     (Ym a3 0 x0.Ae.Ap).bind λr2=>
     if (!r2)=true then (
      some false)
     else (
      k (Zo v0 1))))))
 else (
  some true)
def zE (x0:Za)  : Nat->Int->Option Bool
 | 0,_=>none
 | m+1,v0=>pM x0  (zE x0  m) v0
def Kd (x0:Za)  (v1:Bool):Option Bool:=
 if v1=true then (
  some false)
 else (
  zE x0 FU 0)
def pN (x0:Za):Option Bool:=
 if decide ((x0.m.length:Int)≠(x0.Ae.Ab.length:Int))=true then (
  Kd x0 true)
 else (
  if decide ((x0.buckets.length:Int)≠(x0.Ae.Ab.length:Int))=true then (
   Kd x0 true)
  else (
   Kd x0 (decide ((x0.splits.length:Int)≠(x0.Ae.Ab.length:Int)))))
def pO (x0:Zi):Option Bool:=
 some (!x0.live)
def Zhs (x0:List Zi)  (k:Int->Option Int) (v0:Int):Option Int:=
 if decide (v0 < (x0.length:Int))=true then (
  (idx x0 v0).bind λa0=>
  (pO a0).bind λr0=>
  if r0=true then (
   some v0)
  else (
   k (Zo v0 1)))
 else (
  some (-1))
def Qw (x0:List Zi)  : Nat->Int->Option Int
 | 0,_=>none
 | m+1,v0=>Zhs x0  (Qw x0  m) v0
def Kn (x0:List Zi):Option Int:=
 Qw x0 FU 0
def Zhb (x0:List Zi)  (k:(List Zi)->Int->Int->Option (List Zi)) (v0:List Zi) (v1:Int) (v2:Int):Option (List Zi):=
 if decide (v2 < (v0.length:Int))=true then (
  (idx v0 v2).bind λa0=>
  (pO a0).bind λr0=>
  if (!r0)=true then (
   (idx v0 v1).bind λa1=>
   (Jz v0 v1 a0).bind λy0=>
   k y0 (Zo v1 1) (Zo v2 1))
  else (
   k v0 v1 (Zo v2 1)))
 else (
  (Ys v0 v1 (v0.length:Int)).bind λs0=>
  (KQ Zi.z0 v0 v1 (v0.length:Int)).bind λy1=>
  (Ys y1 0 v1).bind λs1=>
  some s1)
def Qr (x0:List Zi)  : Nat->(List Zi)->Int->Int->Option (List Zi)
 | 0,_,_,_=>none
 | m+1,v0,v1,v2=>Zhb x0  (Qr x0  m) v0 v1 v2
def Wu (x0:List Zi):Option (List Zi):=
 (Kn x0).bind λr1=>
 if decide (r1=(-1))=true then (
  some x0)
 else (
  Qr x0 FU x0 r1 (Zo r1 1))
def pP (x0:Za):Option (List Zi):=
 (Wu [x0.addr,x0.Aa]).bind λr0=>
 some r0
def Jc (x0:Za) (AM:(List Int)->(List Zi)->Int->Int->Option Bool) (Ad:Zi) (v0:List Int) (v1:List Zi) (v2:Int) (v3:Int) (v4:Bool):Option Bool:=
 if v4=true then (
  some false)
 else (
  (idx v0 Ad.Aj).bind λa0=>
  (Jz v0 Ad.Aj (Zo a0 1)).bind λy0=>
  AM y0 v1 v2 (Zo v3 1))
def Q1 (x0:Za)  (v5:Bool):Option Bool:=
 if v5=true then (
  some false)
 else (
  if (!x0.Aa.second)=true then (
   some true)
  else (
   if decide (x0.Aa.left=0)=true then (
    if decide (x0.Aa.Ar≠0)=true then (
     some (!x0.addr.live))
    else (
     some false))
   else (
    some false)))
def bF (x0:Za)  (A2:Zg) (v6:Bool):Option Bool:=
 if v6=true then (
  some false)
 else (
  if decide (x0.Aa.Ar=3)=true then (
   if A2.Ax=true then (
    Q1 x0 true)
   else (
    Q1 x0 (decide (x0.Aa.Aj=x0.Af))))
  else (
   Q1 x0 false))
def TN (x0:Za)  (A2:Zg) (v7:Bool):Option Bool:=
 if v7=true then (
  some false)
 else (
  if decide (x0.Aa.Ar=2)=true then (
   bF x0 A2 (decide (A2.tries≥x0.Ae.An)))
  else (
   bF x0 A2 false))
def Xi (x0:Za)  (v8:Bool):Option Bool:=
 if v8=true then (
  some false)
 else (
  if (!x0.Aa.live)=true then (
   some ((x0.Aa.live == false)&&(decide (x0.Aa.Aj=0)&&(decide (x0.Aa.Ao=0)&&((x0.Aa.first == false)&&(decide (x0.Aa.B2=0)&&(decide (x0.Aa.left=0)&&(decide (x0.Aa.Ar=0)&&((x0.Aa.second == false)&&true)))))))))
  else (
   (idx x0.m x0.Aa.Aj).bind λa1=>
   if decide (x0.Aa.Ao≠a1.done)=true then (
    TN x0 a1 true)
   else (
    (Ym x0.Aa.left 0 (Zo x0.Ae.As 2)).bind λr0=>
    if (!r0)=true then (
     TN x0 a1 true)
    else (
     (Ym x0.Aa.Ar 0 3).bind λr1=>
     TN x0 a1 (!r1)))))
def Wz (x0:Za)  (k:(List Int)->Int->Option Bool) (v0:List Int) (v9:Int):Option Bool:=
 if decide (v9 < (x0.m.length:Int))=true then (
  (idx x0.m v9).bind λa2=>
  (idx v0 v9).bind λa3=>
  if decide ((Xd a2.Ao a2.done)≠a3)=true then (
   some false)
  else (
   k v0 (Zo v9 1)))
 else (
  if x0.addr.live=true then (
   (idx x0.m x0.addr.Aj).bind λa4=>
   if decide (x0.addr.Ao≠(Xd a4.Ao 1))=true then (
    Xi x0 true)
   else (
    if decide (x0.addr.left≠0)=true then (
     Xi x0 true)
    else (
     if decide (x0.addr.Ar≠0)=true then (
      Xi x0 true)
     else (
      if x0.addr.second=true then (
       Xi x0 true)
      else (
       if (!x0.addr.live)=true then (
        Xi x0 (!((x0.addr.live == false)&&(decide (x0.addr.Aj=0)&&(decide (x0.addr.Ao=0)&&((x0.addr.first == false)&&(decide (x0.addr.B2=0)&&(decide (x0.addr.left=0)&&(decide (x0.addr.Ar=0)&&((x0.addr.second == false)&&true))))))))))
       else (
        Xi x0 false))))))
  else (
   if (!x0.addr.live)=true then (
    Xi x0 (!((x0.addr.live == false)&&(decide (x0.addr.Aj=0)&&(decide (x0.addr.Ao=0)&&((x0.addr.first == false)&&(decide (x0.addr.B2=0)&&(decide (x0.addr.left=0)&&(decide (x0.addr.Ar=0)&&((x0.addr.second == false)&&true))))))))))
   else (
    Xi x0 false)))
def bG (x0:Za)  : Nat->(List Int)->Int->Option Bool
 | 0,_,_=>none
 | m+1,v0,v9=>Wz x0  (bG x0  m) v0 v9
def W0 (x0:Za)  (k:(List Int)->(List Zi)->Int->Int->Option Bool) (v0:List Int) (v1:List Zi) (v2:Int) (v3:Int):Option Bool:=
 if decide (v3 < v2)=true then (
  (idx v1 v3).bind λa5=>
  (IL x0.Ae a5.Aj).bind λr2=>
  if (!r2)=true then (
   Jc x0 k a5 v0 v1 v2 v3 true)
  else (
   (Ym a5.B2 1 3).bind λr3=>
   if (!r3)=true then (
    Jc x0 k a5 v0 v1 v2 v3 true)
   else (
    (idx x0.splits a5.Aj).bind λa6=>
    Jc x0 k a5 v0 v1 v2 v3 (decide (a6≠0)))))
 else (
  bG x0 FU v0 0)
def pQ (x0:Za)  : Nat->(List Int)->(List Zi)->Int->Int->Option Bool
 | 0,_,_,_,_=>none
 | m+1,v0,v1,v2,v3=>W0 x0  (pQ x0  m) v0 v1 v2 v3
def TO (x0:Za):Option Bool:=
 (Hj 8 (x0.m.length:Int) 0).bind λm0=>
 (pP x0).bind λr4=>
 pQ x0 FU m0 r4 (r4.length:Int) 0
def pR (x0:Za)  (k:Int->Option Bool) (v0:Int):Option Bool:=
 if decide (v0 < (x0.m.length:Int))=true then (
  (idx x0.m v0).bind λa0=>
  if decide (a0.Ao > 0)=true then (
   (TK a0).bind λr0=>
   if r0=true then (
    if decide (x0.Af≠v0)=true then (
     some false)
    else (
     k (Zo v0 1)))
   else (
    k (Zo v0 1)))
  else (
   k (Zo v0 1)))
 else (
  if decide (x0.Af=(-1))=true then (
   some (decide (x0.held=0)))
  else (
   (IL x0.Ae x0.Af).bind λr1=>
   if r1=true then (
    (idx x0.m x0.Af).bind λa1=>
    (TK a1).bind λr2=>
    if r2=true then (
     (idx x0.splits x0.Af).bind λa2=>
     if decide (a2=0)=true then (
      (Ym x0.held 0 x0.Ae.Am).bind λr3=>
      some r3)
     else (
      some false))
    else (
     some false))
   else (
    some false)))
def zF (x0:Za)  : Nat->Int->Option Bool
 | 0,_=>none
 | m+1,v0=>pR x0  (zF x0  m) v0
def TP (x0:Za):Option Bool:=
 zF x0 FU 0
def pS (x0:Za)  (k:Int->Int->Option Bool) (v0:Int) (v1:Int):Option Bool:=
 if decide (v1 < (x0.log.length:Int))=true then (
  (idx x0.log v1).bind λa0=>
  if decide (a0.A4<=v0)=true then (
   some false)
  else (
   if decide (a0.A4≥x0.now)=true then (
    some false)
   else (
    (IL x0.Ae a0.Aj).bind λr0=>
    if (!r0)=true then (
     some false)
    else (
     (Rz a0.addr a0.size).bind λr1=>
     if (!r1)=true then (
      some false)
     else (
      if decide (a0.addr≥512)=true then (
       some false)
      else (
       (Lf a0.value a0.size).bind λr2=>
       if (!r2)=true then (
        some false)
       else (
        if decide (a0.Ar≠0)=true then (
         if decide (a0.Ar≠1)=true then (
          some false)
         else (
          k a0.A4 (Zo v1 1)))
        else (
         k a0.A4 (Zo v1 1)))))))))
 else (
  some true)
def pT (x0:Za)  : Nat->Int->Int->Option Bool
 | 0,_,_=>none
 | m+1,v0,v1=>pS x0  (pT x0  m) v0 v1
def TQ (x0:Za):Option Bool:=
 pT x0 FU (-1) 0
def TR (x0:Za):Option Bool:=
 (Lc x0.Ae).bind λr0=>
 if r0=true then (
  (Ym x0.now 0 4000).bind λr1=>
  if r1=true then (
   (pN x0).bind λr2=>
   if r2=true then (
    (R4 x0.Bm x0.Ae).bind λr3=>
    if r3=true then (
     if decide (x0.last=(-1))=true then (
      (R5 x0.model).bind λr4=>
      if r4=true then (
       (Ym x0.Au 0 x0.now).bind λr5=>
       if r5=true then (
        (TO x0).bind λr6=>
        if r6=true then (
         (TP x0).bind λr7=>
         if r7=true then (
          (TQ x0).bind λr8=>
          some r8)
         else (
          some false))
        else (
         some false))
       else (
        some false))
      else (
       some false))
     else (
      (IL x0.Ae x0.last).bind λr9=>
      if r9=true then (
       (R5 x0.model).bind λr4=>
       if r4=true then (
        (Ym x0.Au 0 x0.now).bind λr5=>
        if r5=true then (
         (TO x0).bind λr6=>
         if r6=true then (
          (TP x0).bind λr7=>
          if r7=true then (
           (TQ x0).bind λr8=>
           some r8)
          else (
           some false))
         else (
          some false))
        else (
         some false))
       else (
        some false))
      else (
       some false)))
    else (
     some false))
   else (
    some false))
  else (
   some false))
 else (
  some false)
def Yfy (x0:Zb)  (k:Int->Int->Option Int) (v0:Int) (v1:Int):Option Int:=
 if decide (v1 < (x0.Al.length:Int))=true then (
  (idx x0.Al v1).bind λa0=>
  k (EM v0 a0.at_) (Zo v1 1))
 else (
  some v0)
def pU (x0:Zb)  : Nat->Int->Int->Option Int
 | 0,_,_=>none
 | m+1,v0,v1=>Yfy x0  (pU x0  m) v0 v1
def pV (x0:Zb):Option Int:=
 pU x0 FU (-1) 0
def bH (x0:Zg):Option Bool:=
 some (decide ((x0.queue.length:Int) > 0))
def Zhp (x0:List Zg)  (k:Int->Option Int) (v0:Int):Option Int:=
 if decide (v0 < (x0.length:Int))=true then (
  (idx x0 v0).bind λa0=>
  (bH a0).bind λr0=>
  if r0=true then (
   some v0)
  else (
   k (Zo v0 1)))
 else (
  some (-1))
def Wg (x0:List Zg)  : Nat->Int->Option Int
 | 0,_=>none
 | m+1,v0=>Zhp x0  (Wg x0  m) v0
def Ko (x0:List Zg):Option Int:=
 Wg x0 FU 0
def Q2 (x0:List Zg):Option Bool:=
 (Ko x0).bind λr0=>
 some (decide (r0≥0))
def bI (x0:Za):Option Bool:=
 (Q2 x0.m).bind λr0=>
 some (!r0)
def bJ (x0:Za) (x1:Zb)  (Ad:Za):Option (Za×Int):=
 (bE Ad).bind λr0=>
 some (r0,(Xd Ad.now x0.now))
def bK (x0:Za) (x1:Zb)  (k:Za->Int->Option (Za×Int)) (A2:Za) (v0:Int):Option (Za×Int):=
 if decide (A2.now < 4000)=true then (
  (bI A2).bind λr1=>
  if (!r1)=true then (
   (RA A2 x1).bind λr2=>
   k r2.2 v0)
  else (
   if decide (A2.now<=v0)=true then (
    (RA A2 x1).bind λr2=>
    k r2.2 v0)
   else (
    bJ x0 x1 A2)))
 else (
  bJ x0 x1 A2)
def RC (x0:Za) (x1:Zb)  : Nat->Za->Int->Option (Za×Int)
 | 0,_,_=>none
 | m+1,A2,v0=>bK x0 x1  (RC x0 x1  m) A2 v0
def pW (x0:Za) (x1:Zb):Option (Za×Int):=
 (bE x0).bind λr3=>
 (TR x0).bind λr4=>
 if (!r4)=true then (
  some (r3,0))
 else (
  (pV x1).bind λr5=>
  RC x0 x1 FU r3 r5)
def zG (x0:List Zt)  (k:Zf->Int->Option (Zf×Int)) (Ad:Zf) (v0:Int):Option (Zf×Int):=
 if decide (v0 < (x0.length:Int))=true then (
  (idx x0 v0).bind λa0=>
  if decide (a0.Ar=1)=true then (
   k Ad (Zo v0 1))
  else (
   (aO Ad a0.write a0.addr a0.size a0.value).bind λr0=>
   if decide (r0.2.2≠a0.Ar)=true then (
    some (Ad,v0))
   else (
    if decide (r0.2.1≠a0.value)=true then (
     some (Ad,v0))
    else (
     k r0.1 (Zo v0 1)))))
 else (
  some (Ad,(-1)))
def bL (x0:List Zt)  : Nat->Zf->Int->Option (Zf×Int)
 | 0,_,_=>none
 | m+1,Ad,v0=>zG x0  (bL x0  m) Ad v0
def pX (x0:List Zt):Option (Zf×Int):=
 (aB).bind λr1=>
 bL x0 FU r1 0
def pY (x0:Zt):Option ByteArray:=
 (FL x0.A4).bind λr0=>
 (FL x0.Aj).bind λr1=>
 (R0 x0.write).bind λr2=>
 (FL x0.addr).bind λr3=>
 (FL x0.value).bind λr4=>
 (TM x0.Ar).bind λr5=>
 (Qf [r0,r1,r2,r3,r4,r5] (Zd [32])).bind λr6=>
 some r6
def pZ (At:Zh) (Aq:Zb) (AG:Za) (x1:ByteArray):Option (ByteArray×Z3):=
 if (x1.toList == (Zd [115,116,101,112]).toList)=true then (
  if decide (AG.now=4000)=true then (
   some ((Zd [101,110,100]),(Z3.mk At Aq (some AG))))
  else (
   (RA AG Aq).bind λr0=>
   (pI r0.1).bind λr1=>
   some (r1,(Z3.mk At Aq (some r0.2)))))
 else (
  if (x1.toList == (Zd [111,117,116]).toList)=true then (
   (pW AG Aq).bind λr2=>
   (FL r2.2).bind λr3=>
   some (r3,(Z3.mk At Aq (some r2.1))))
  else (
   if (x1.toList == (Zd [105,100,108,101]).toList)=true then (
    (bI AG).bind λr4=>
    if r4=true then (
     some ((Zd [121,101,115]),(Z3.mk At Aq (some AG))))
    else (
     some ((Zd [110,111]),(Z3.mk At Aq (some AG)))))
   else (
    if (x1.toList == (Zd [111,107]).toList)=true then (
     (pX AG.log).bind λr5=>
     (M6 r5.2).bind λr6=>
     some (r6,(Z3.mk At Aq (some AG))))
    else (
     if decide ((AG.log.length:Int)=0)=true then (
      some ((Zd [45]),(Z3.mk At Aq (some AG))))
     else (
      (idx AG.log (Xd (AG.log.length:Int) 1)).bind λa0=>
      (pY a0).bind λr7=>
      (Ya r7 (Zd [32,111,102,32])).bind λn0=>
      (FL (AG.log.length:Int)).bind λr8=>
      (Ya (r7++(Zd [32,111,102,32])) r8).bind λn1=>
      some (((r7++(Zd [32,111,102,32]))++r8),(Z3.mk At Aq (some AG))))))))
def Jx (At:Zh) (Aq:Zb) (AG:Za) (x1:ByteArray)  (v0:Bool):Option (ByteArray×Z3):=
 if v0=true then (
  (pZ At Aq AG x1).bind λr0=>
  match r0 with
  | (z0,⟨z1,z2,none⟩)=>(
   some (z0,(Z3.mk z1 z2 none)))
  | (z0,⟨z1,z2,some z3⟩)=>(
   some (z0,(Z3.mk z1 z2 (some z3)))))
 else (
  some ((Zd [119,104,97,116]),(Z3.mk At Aq (some AG))))
def bM (At:Zh) (Aq:Zb) (AG:Za) (x1:ByteArray):Option (ByteArray×Z3):=
 if (x1.toList == (Zd [110,101,119]).toList)=true then (
  (aC At).bind λr1=>
  if (!r1.2)=true then (
   some ((Zd [110,111]),(Z3.mk At Aq (some AG))))
  else (
   some ((Zd [111,107]),(Z3.mk At Aq (some r1.1)))))
 else (
  if (x1.toList == (Zd [99,111,110,102]).toList)=true then (
   (Rv At).bind λr2=>
   if (!(r2.toList == ByteArray.empty.toList))=true then (
    some (r2,(Z3.mk At Aq (some AG))))
   else (
    some ((Zd [110,111,110,101]),(Z3.mk At Aq (some AG)))))
  else (
   if (x1.toList == (Zd [115,116,101,112]).toList)=true then (
    Jx At Aq AG x1 (x1.toList == (Zd [115,116,101,112]).toList))
   else (
    if (x1.toList == (Zd [111,117,116]).toList)=true then (
     Jx At Aq AG x1 (x1.toList == (Zd [111,117,116]).toList))
    else (
     if (x1.toList == (Zd [105,100,108,101]).toList)=true then (
      Jx At Aq AG x1 (x1.toList == (Zd [105,100,108,101]).toList))
     else (
      if (x1.toList == (Zd [111,107]).toList)=true then (
       Jx At Aq AG x1 (x1.toList == (Zd [111,107]).toList))
      else (
       Jx At Aq AG x1 (x1.toList == (Zd [108,111,103]).toList)))))))
def p5 (x0:ByteArray)  (k:Z3->ByteArray->(List ByteArray)->Int->Int->Option ByteArray) (Ad:Z3) (v0:ByteArray) (v1:List ByteArray) (v2:Int) (v3:Int):Option ByteArray:=
 match Ad with
 | ⟨z0,z1,none⟩=>(
  if decide (v3 < v2)=true then (
   (idx v1 v3).bind λa0=>
   if (a0.toList == ByteArray.empty.toList)=true then (
    k (Z3.mk z0 z1 none) v0 v1 v2 (Zo v3 1))
   else (
    (Rt a0 (Zd [32])).bind λr0=>
    if r0=true then (
     (nB z0 z1 a0).bind λr1=>
     match r1 with
     | (z2,⟨z3,z4,none⟩)=>(
      (Ya z2 (Zd [10])).bind λn0=>
      (Ya v0 (z2++(Zd [10]))).bind λn1=>
      k (Z3.mk z3 z4 none) (v0++(z2++(Zd [10]))) v1 v2 (Zo v3 1))
     | (z2,⟨z3,z4,some z5⟩)=>(
      (Ya z2 (Zd [10])).bind λn0=>
      (Ya v0 (z2++(Zd [10]))).bind λn1=>
      k (Z3.mk z3 z4 (some z5)) (v0++(z2++(Zd [10]))) v1 v2 (Zo v3 1)))
    else (
     (aD z0 z1 a0).bind λr2=>
     match r2 with
     | (z6,⟨z7,z8,none⟩)=>(
      (Ya z6 (Zd [10])).bind λn2=>
      (Ya v0 (z6++(Zd [10]))).bind λn3=>
      k (Z3.mk z7 z8 none) (v0++(z6++(Zd [10]))) v1 v2 (Zo v3 1))
     | (z6,⟨z7,z8,some z9⟩)=>(
      (Ya z6 (Zd [10])).bind λn2=>
      (Ya v0 (z6++(Zd [10]))).bind λn3=>
      k (Z3.mk z7 z8 (some z9)) (v0++(z6++(Zd [10]))) v1 v2 (Zo v3 1)))))
  else (
   some v0))
 | ⟨z0,z1,some RD⟩=>(
  if decide (v3 < v2)=true then (
   (idx v1 v3).bind λa0=>
   if (a0.toList == ByteArray.empty.toList)=true then (
    k (Z3.mk z0 z1 (some RD)) v0 v1 v2 (Zo v3 1))
   else (
    (Rt a0 (Zd [32])).bind λr0=>
    if r0=true then (
     (nH z0 z1 RD a0).bind λr1=>
     match r1 with
     | (z2,⟨z3,z4,none⟩)=>(
      (Ya z2 (Zd [10])).bind λn0=>
      (Ya v0 (z2++(Zd [10]))).bind λn1=>
      k (Z3.mk z3 z4 none) (v0++(z2++(Zd [10]))) v1 v2 (Zo v3 1))
     | (z2,⟨z3,z4,some z5⟩)=>(
      (Ya z2 (Zd [10])).bind λn0=>
      (Ya v0 (z2++(Zd [10]))).bind λn1=>
      k (Z3.mk z3 z4 (some z5)) (v0++(z2++(Zd [10]))) v1 v2 (Zo v3 1)))
    else (
     (bM z0 z1 RD a0).bind λr2=>
     match r2 with
     | (z6,⟨z7,z8,none⟩)=>(
      (Ya z6 (Zd [10])).bind λn2=>
      (Ya v0 (z6++(Zd [10]))).bind λn3=>
      k (Z3.mk z7 z8 none) (v0++(z6++(Zd [10]))) v1 v2 (Zo v3 1))
     | (z6,⟨z7,z8,some z9⟩)=>(
      (Ya z6 (Zd [10])).bind λn2=>
      (Ya v0 (z6++(Zd [10]))).bind λn3=>
      k (Z3.mk z7 z8 (some z9)) (v0++(z6++(Zd [10]))) v1 v2 (Zo v3 1)))))
  else (
   some v0))
def Jp (x0:ByteArray)  : Nat->Z3->ByteArray->(List ByteArray)->Int->Int->Option ByteArray
 | 0,_,_,_,_,_=>none
 | m+1,Ad,v0,v1,v2,v3=>p5 x0  (Jp x0  m) Ad v0 v1 v2 v3
def zH (x0:ByteArray)  (v4:List ByteArray) (v5:Bool):Option ByteArray:=
 if v5=true then (
  some ByteArray.empty)
 else (
  Jp x0 FU Z3.z0 ByteArray.empty v4 (v4.length:Int) 0)
def RE (x0:ByteArray)  (v4:List ByteArray):Option ByteArray:=
 if decide ((x0.size:Int) > 3000)=true then (
  zH x0 v4 true)
 else (
  zH x0 v4 (decide ((v4.length:Int) > 60)))
def p6 (x0:ByteArray):Option ByteArray:=
 (Kr x0 (Zd [10])).bind λr3=>
 (idx r3 (Xd (r3.length:Int) 1)).bind λa1=>
 if (a1.toList == ByteArray.empty.toList)=true then (
  (Ys r3 0 (Xd (r3.length:Int) 1)).bind λs0=>
  RE x0 s0)
 else (
  RE x0 r3)
def zI (x0:ByteArray):Option Bool:=
 if decide ((x0.size:Int) > 1048576)=true then (
  some true)
 else (
  (mI x0).bind λr0=>
  (p6 x0).bind λr1=>
  if (!(r1.toList == r0.toList))=true then (
   some false)
  else (
   some true))
end Go.Proofs.YthdljdelfgofdaaGreatDoor.Ev
