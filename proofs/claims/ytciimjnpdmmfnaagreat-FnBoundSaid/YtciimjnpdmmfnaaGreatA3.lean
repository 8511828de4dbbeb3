/- A part of the proof of FnBound: see the text YtciimjnpdmmfnaaGreatLawFnBound for what is proved and its conditions. Conditions here: those in each line. -/
import Derived.Test.YtciimjnpdmmfnaaGreatA2
import Derived.KernelRfl
import GoSem.ClaimData
namespace Go.Proofs.YtciimjnpdmmfnaaGreat.Ev
open Go Go.RowKit KM
set_option linter.unusedVariables false
set_option linter.unusedSimpArgs false
section
variable {P:Program} {M:Hints}
def OpOk (P:Program) (M:Hints) (f:Operand→V) (s:St) (k:Nat) (o:Oper) (y:V×St):Prop:=∃C,Zba P M C∧Yp P M C f s k o=some y
theorem Zey (hP:FuncsOk P) {f:Operand→V} {s:St} {k:Nat} {o:Oper}:KP (opt (Yp P M Y1 f s k o)) (OpOk P M f s k o):=Jg.mono fun y h=>⟨Y1,Xa hP,h⟩
theorem Yaj (hP:FuncsOk P) {f:Operand→V} {s:St} {k:Nat} {d:Option Tmp} {ty t yt:TypeId} {pos:String} {af:Array Edge} {g:Option (Nat×Bool)} {op:BinOp} {x y:Operand}:KP (opK P M f s k ⟨d,.binOp op t x y yt,ty,pos,af,g⟩) (OpOk P M f s k ⟨d,.binOp op t x y yt,ty,pos,af,g⟩):=by
 have base:∀{v:V},binX P op t x y (f x) (f y)=some v→(∃a b,f x=.lit a∧f y=.lit b)→Yp P M Y1 f s k ⟨d,.binOp op t x y yt,ty,pos,af,g⟩=some (v,s):=fun {v} h ⟨a,b,h1,h2⟩=>by
  have e:Wy P f ⟨d,.binOp op t x y yt,ty,pos,af,g⟩=some v:=by rw[Ybp];exact h
  simp only[Yp,h1,h2,e,Option.map_some]
 have base2:∀{v:V},binX P op t x y (f x) (f y)=some v→(∃a b,f x=.agg a∧f y=.agg b)→Yp P M Y1 f s k ⟨d,.binOp op t x y yt,ty,pos,af,g⟩=some (v,s):=fun {v} h ⟨a,b,h1,h2⟩=>by
  have e:Wy P f ⟨d,.binOp op t x y yt,ty,pos,af,g⟩=some v:=by rw[Ybp];exact h
  simp only[Yp,h1,h2,e,Option.map_some]
 simp only[opK]
 split
 ·rename_i k1 a k2 b h1 h2
  refine Zd Yeu (fun v hv=>Zp ⟨Y1,Xa hP,base ?_ ⟨_,_,h1,h2⟩⟩)
  rw[h1,h2,Yeh];exact hv
 ·rename_i a b h1 h2
  refine Zd Yds (fun v hv=>Zp ⟨Y1,Xa hP,base ?_ ⟨_,_,h1,h2⟩⟩)
  rw[h1,h2,Ydt];exact hv
 ·rename_i a b h1 h2
  split
  ·rename_i h3
   refine Zp ⟨Y1,Xa hP,base ?_ ⟨_,_,h1,h2⟩⟩
   rw[h1,h2,Ydp h3]
  ·rename_i h3
   refine Zp ⟨Y1,Xa hP,base ?_ ⟨_,_,h1,h2⟩⟩
   rw[h1,h2,Yes h3]
  ·exact Zg
 ·rename_i xs ys h1 h2
  refine Xm (fun hc=>Zd Jg (fun b hb=>?_)) (fun _=>Zg)
  split
  ·exact Zp ⟨Y1,Xa hP,base2 (by rw[h1,h2,Ybm hc.1 hc.2.1 hc.2.2 hb]) ⟨_,_,h1,h2⟩⟩
  ·exact Zp ⟨Y1,Xa hP,base2 (by rw[h1,h2,Yau hc.1 hc.2.1 hc.2.2 hb]) ⟨_,_,h1,h2⟩⟩
  ·exact Zg
 ·rename_i hy
  split
  all_goals first
   | exact Zey hP
   | (
     rename_i hx
     refine Xm (fun he=>Zd Zej (fun rows hr=>Zd Z0 (fun _ hn=>?_))) (fun _=>Zg)
     obtain⟨r,l,rfl⟩:=List.exists_cons_of_ne_nil hn
     have hf:¬(Xr P t).isSome=false:=by rw[he];decide
     split
     ·exact Zp ⟨Y1,Xa hP,by simp only[Yp,hx,hy];rw[if_neg hf];rw[hx] at hr;rw[hr]⟩
     ·exact Zp ⟨Y1,Xa hP,by simp only[Yp,hx,hy];rw[if_neg hf];rw[hx] at hr;rw[hr]⟩
     ·exact Zg)
 ·exact Zey hP
theorem Zz0 (hP:FuncsOk P) {f:Operand→V} {s:St} {k:Nat} {d:Option Tmp} {ty t:TypeId} {pos:String} {af:Array Edge} {g:Option (Nat×Bool)} {n:Nat} {parts:Array (Nat×Operand)}:KP (opK P M f s k ⟨d,.buildSlice t n parts,ty,pos,af,g⟩) (OpOk P M f s k ⟨d,.buildSlice t n parts,ty,pos,af,g⟩):=by
 simp only[opK]
 refine Zd Jg (fun e he=>Zd Jg (fun z hz=>Xm (fun _=>Zg) (fun hc=>Zd Jg (fun cs hcs=>Zd Z34 (fun y hy=>Zp ⟨Y1,Xa hP,?_⟩)))))
 simp only[Yp,he,Option.bind_some,hz]
 rw[if_neg hc,hcs,Option.bind_some,hy]
 rfl
theorem Yd2 (hP:FuncsOk P) {f:Operand→V} {s:St} {k:Nat} {d:Option Tmp} {ty:TypeId} {pos:String} {af:Array Edge} {g:Option (Nat×Bool)} {c a b:Operand}:KP (opK P M f s k ⟨d,.pick c a b,ty,pos,af,g⟩) (OpOk P M f s k ⟨d,.pick c a b,ty,pos,af,g⟩):=by
 simp only[opK]
 split
 ·rename_i t hc
  refine Zd Z2w (fun e he=>?_)
  subst he
  cases t with
  | true=>exact Zp ⟨Y1,Xa hP,by simp only[Yp,hc,if_true]⟩
  | false=>exact Zp ⟨Y1,Xa hP,by simp only[Yp,hc,Bool.false_eq_true,if_false]⟩
 ·exact Zg
theorem Z1u (hP:FuncsOk P) {f:Operand→V} {s:St} {k:Nat} {d:Option Tmp} {ty t:TypeId} {pos:String} {af:Array Edge} {g:Option (Nat×Bool)} {x ix:Operand}:KP (opK P M f s k ⟨d,.indexAddr t x ix,ty,pos,af,g⟩) (OpOk P M f s k ⟨d,.indexAddr t x ix,ty,pos,af,g⟩):=by
 simp only[opK]
 refine Zd Jg (fun e he=>Xm (fun _=>Zg) (fun hz=>Zd W3 (fun o _=>?_)))
 split
 ·rename_i n r
  refine Xm (fun hr=>Zd Z0 (fun _ hn=>?_)) (fun _=>Zg)
  split
  ·rename_i i off len hx
   refine Zd Z0 (fun _ hlt=>?_)
   split
   ·rename_i b hb
    refine Zd Z0 (fun _ hrow=>Zp ⟨Y1,Xa hP,?_⟩)
    rw[Z7c] at hrow ⊢
    simp only[Yp,he,Option.bind_some,hz,if_false,hn,hx,hlt,if_true,hb,hrow,hr]
   ·exact Zg
  ·rename_i rows hx
   refine Zd Z0 (fun _ hrow=>Zp ⟨Y1,Xa hP,?_⟩)
   simp only[Yp,he,Option.bind_some,hz,if_false,hn,hx,if_true,hrow,hr]
  ·rename_i rows hx
   refine Zd Z0 (fun _ hrow=>Zp ⟨Y1,Xa hP,?_⟩)
   simp only[Yp,he,Option.bind_some,hz,if_false,hn,hx,if_true,hrow,hr]
  ·exact Zg
 ·exact Zg
theorem Ydz (hP:FuncsOk P) {f:Operand→V} {s:St} {k:Nat} {d:Option Tmp} {ty t:TypeId} {pos:String} {af:Array Edge} {g:Option (Nat×Bool)} {a:Operand}:KP (opK P M f s k ⟨d,.load t a,ty,pos,af,g⟩) (OpOk P M f s k ⟨d,.load t a,ty,pos,af,g⟩):=by
 simp only[opK]
 split
 ·rename_i i j n ha
  split
  ·rename_i b hb
   split
   ·exact Zey hP
   ·refine Zd W3 (fun o _=>?_)
    split
    ·rename_i row
     refine Zd Z0 (fun _ hrow=>Xm (fun hl=>Zd Jg (fun v hv=>Zp ⟨Y1,Xa hP,?_⟩)) (fun _=>Zg))
     simp only[Yp,ha,hb,Option.bind_some,hrow,hl,if_true,hv,Option.map_some]
    ·exact Zg
  ·exact Zg
 ·exact Zey hP
theorem Yax (hP:FuncsOk P) {f:Operand→V} {s:St} {k:Nat} {d:Option Tmp} {ty t:TypeId} {pos:String} {af:Array Edge} {g:Option (Nat×Bool)} {a x:Operand}:KP (opK P M f s k ⟨d,.store t a x,ty,pos,af,g⟩) (OpOk P M f s k ⟨d,.store t a x,ty,pos,af,g⟩):=by
 simp only[opK]
 split
 ·rename_i i j n ha
  split
  ·rename_i b hb
   split
   ·exact Zey hP
   ·rename_i hbx
    refine Zd W3 (fun o _=>?_)
    split
    ·rename_i row R
     refine Zd Z0 (fun _ hrow=>Zd Jg (fun cs hcs=>Xm (fun hc=>Zd Z4f (fun y hy=>?_)) (fun _=>Zg)))
     split
     ·rename_i b2 hb2
      refine Zd Z0 (fun _ hR=>Zp ⟨Y1,Xa hP,?_⟩)
      have hc':b.own=true∧cs.length=Zi P t∧n+Zi P t≤row.length∧Zi P t≠0:=hc
      simp only[Yp,ha,hb,Option.bind_some,hrow,hcs]
      rw[if_pos hc',hbx]
      simp only[Bool.false_eq_true,if_false,hy,Option.bind_some,hb2,hR]
     ·exact Zg
    ·exact Zg
  ·exact Zg
 ·exact Zg
def Z3b (x:V) (l h:Nat):Option V:=match x with
 | .sl id off _=>some (.sl id (off+l) (h - l))
 | .tr rows=>some (.tr ((rows.drop l).take (h - l)))
 | .vw rows=>some (.vw ((rows.drop l).take (h - l)))
 | _=>none
theorem Zrm {s:St} {t e:TypeId} {x:V} {rows:List (List V)} {lo hi:Option Operand} {f:Operand→V} {l h:Nat} (he:Xr P t=some e) (hr:s.rowsOf x=some rows) (hl:match lo with|some z=>Ws (f z)=some l|none=>l=0) (hh:match hi with|some z=>Ws (f z)=some h|none=>rows.length=h)
  (h1:l≤h∧h≤rows.length) (h2:Zf5 (Zi P e) rows=true) (h3:Zi P e≠0):Ziz P s t x (lo.map f) (hi.map f)=Z3b x l h:=by
 have key:∀(a b:Option Nat),a=some l→b=some h→(a.bind fun l=>b.bind fun h=>if l≤h∧h≤rows.length∧Zf5 (Zi P e) rows=true∧Zi P e≠0 then Z3b x l h else none)=Z3b x l h:=by
  rintro _ _ rfl rfl
  simp only[Option.bind_some]
  rw[if_pos ⟨h1.1,h1.2,h2,h3⟩]
 unfold Ziz
 rw[he,Option.bind_some,hr,Option.bind_some]
 refine key _ _ ?_ ?_
 ·cases lo with
  | none=>simp only at hl;rw[hl];rfl
  | some z=>exact hl
 ·cases hi with
  | none=>simp only at hh;rw[←hh];rfl
  | some z=>exact hh
theorem Yb1 (hP:FuncsOk P) {f:Operand→V} {s:St} {k:Nat} {d:Option Tmp} {ty t:TypeId} {pos:String} {af:Array Edge} {g:Option (Nat×Bool)} {x:Operand} {lo hi mx:Option Operand}:KP (opK P M f s k ⟨d,.slice t x lo hi mx,ty,pos,af,g⟩) (OpOk P M f s k ⟨d,.slice t x lo hi mx,ty,pos,af,g⟩):=by
 cases mx with
 | some m=>exact Zey hP
 | none=>
  simp only[opK]
  split
  ·rename_i id off len hx
   refine Zd W3 (fun o _=>?_)
   split
   ·rename_i l h n R
    refine Zd Jg (fun e he=>Zd Zej (fun rows hr=>Zd Z0 (fun _ hl=>Zd Z0 (fun _ hh=>Zd Z0 (fun _ h1=>Zd Z0 (fun _ h2=>Zd Z0 (fun _ h4=>Xm (fun h3=>Zp ⟨Y1,Xa hP,?_⟩) (fun _=>Zg))))))))
    simp only[Yp,Zrm he hr hl hh h1 h2 h3]
    rw[hx,h4,Z7c]
    rfl
   ·exact Zg
  ·rename_i rws hx
   refine Zd W3 (fun o _=>?_)
   split
   ·rename_i l h n R
    refine Zd Jg (fun e he=>Zd Zej (fun rows hr=>Zd Z0 (fun _ hl=>Zd Z0 (fun _ hh=>Zd Z0 (fun _ h1=>Zd Z0 (fun _ h2=>Zd Z0 (fun _ h4=>Xm (fun h3=>Zp ⟨Y1,Xa hP,?_⟩) (fun _=>Zg))))))))
    simp only[Yp,Zrm he hr hl hh h1 h2 h3]
    rw[hx] at hr ⊢
    have:rws=rows:=by simpa [St.rowsOf] using hr
    rw[←h4,←this]
    rfl
   ·exact Zg
  ·rename_i rws hx
   refine Zd W3 (fun o _=>?_)
   split
   ·rename_i l h n R
    refine Zd Jg (fun e he=>Zd Zej (fun rows hr=>Zd Z0 (fun _ hl=>Zd Z0 (fun _ hh=>Zd Z0 (fun _ h1=>Zd Z0 (fun _ h2=>Zd Z0 (fun _ h4=>Xm (fun h3=>Zp ⟨Y1,Xa hP,?_⟩) (fun _=>Zg))))))))
    simp only[Yp,Zrm he hr hl hh h1 h2 h3]
    rw[hx] at hr ⊢
    have:rws=rows:=by simpa [St.rowsOf] using hr
    rw[←h4,←this]
    rfl
   ·exact Zg
  ·exact Zey hP
theorem Z1e (hP:FuncsOk P) {f:Operand→V} {s:St} {k:Nat} {d:Option Tmp} {ty t:TypeId} {pos:String} {af:Array Edge} {g:Option (Nat×Bool)} {l c:Operand}:KP (opK P M f s k ⟨d,.makeSlice t l c,ty,pos,af,g⟩) (OpOk P M f s k ⟨d,.makeSlice t l c,ty,pos,af,g⟩):=by
 simp only[opK]
 refine Zd W3 (fun o _=>?_)
 split
 ·rename_i n R
  refine Zd Jg (fun e he=>Zd Jg (fun z hz=>Zd Z0 (fun _ hl=>Zd Z0 (fun _ hc=>Zd Z0 (fun _ h1=>Zd Z0 (fun _ hR=>Xm (fun h2=>Zp ⟨Y1,Xa hP,?_⟩) (fun _=>Zg)))))))
  simp only[Yp,he,hz,Option.bind_some,hl,hc]
  rw[if_pos ⟨by trivial,h1.1,h1.2,h2.1,h2.2⟩,hR,←hR,List.length_replicate]
 ·exact Zg
theorem Yd9 (hP:FuncsOk P) {f:Operand→V} {s:St} {k:Nat} {d:Option Tmp} {ty:TypeId} {pos:String} {af:Array Edge} {g:Option (Nat×Bool)} {c:Call}:KP (opK P M f s k ⟨d,.call c,ty,pos,af,g⟩) (OpOk P M f s k ⟨d,.call c,ty,pos,af,g⟩):=by
 simp only[opK]
 split
 ·rename_i x hc
  split
  ·rename_i h caps hx
   refine (Yeg hP).mono fun y ⟨C,h1,h2⟩=>⟨C,h1,?_⟩
   simp only[Yp,hc,hx,h2]
  ·exact Zg
 ·rename_i hc
  split
  ·rename_i b x t t' ha ht
   refine Xm (fun he=>Yfn.kp.mono fun y hy=>⟨Y1,Xa hP,?_⟩) (fun _=>Zg)
   simp only[Yp,hc,ha,ht,he,if_true]
   rw[←he];exact hy
  ·exact Zg
 ·rename_i hc
  split
  ·rename_i x t ha ht
   split
   ·rename_i i off n hx
    refine Zd W3 (fun o _=>?_)
    split
    ·refine Zd Z0 (fun _ hn=>Xm (fun he=>Zp ⟨Y1,Xa hP,?_⟩) (fun _=>Zg))
     simp only[Yp,hc,ha,ht,hx,he,if_true,hn]
    ·exact Zg
   ·rename_i rows hx
    refine Zd W3 (fun o _=>?_)
    split
    ·refine Zd Z0 (fun _ hn=>Xm (fun he=>Zp ⟨Y1,Xa hP,?_⟩) (fun _=>Zg))
     simp only[Yp,hc,ha,ht,hx,he,if_true,hn]
    ·exact Zg
   ·rename_i rows hx
    refine Zd W3 (fun o _=>?_)
    split
    ·refine Zd Z0 (fun _ hn=>Xm (fun he=>Zp ⟨Y1,Xa hP,?_⟩) (fun _=>Zg))
     simp only[Yp,hc,ha,ht,hx,he,if_true,hn]
    ·exact Zg
   ·exact Zey hP
  ·exact Zg
 ·rename_i hc
  split
  ·rename_i x t ha ht
   refine Zd Jg (fun e he=>Zd Jg (fun z hz=>?_))
   split
   ·rename_i i off n hx
    split
    ·rename_i b hb
     refine Zd W3 (fun o _=>?_)
     split
     ·refine Xm (fun h=>Zd Z0 (fun _ h1=>Zd Z0 (fun _ h2=>Zp ⟨Y1,Xa hP,?_⟩))) (fun _=>Zg)
      simp only[Yp,hc,ha,ht,hx,he,hz,hb,Option.bind_some]
      rw[if_pos ⟨h.1,h.2.1,h1,h.2.2.1,h.2.2.2.1,h.2.2.2.2⟩,h2]
     ·exact Zg
    ·exact Zg
   ·exact Zg
  ·exact Zg
 ·exact Zey hP
theorem Yar (hP:FuncsOk P) {f:Operand→V} {s:St} {k:Nat} {o:Oper}:KP (opK P M f s k o) (OpOk P M f s k o):=by
 obtain⟨d,op,ty,pos,af,g⟩:=o
 cases op with
 | binOp op t x y yt=>exact Yaj hP
 | pick c a b=>exact Yd2 hP
 | buildSlice t n parts=>exact Zz0 hP
 | indexAddr t x ix=>exact Z1u hP
 | load t a=>exact Ydz hP
 | store t a x=>exact Yax hP
 | slice t x lo hi mx=>exact Yb1 hP
 | makeSlice t l c=>exact Z1e hP
 | call c=>exact Yd9 hP
 | _=>simp only[opK];exact Zey hP
def Zyp (s:St) (ops:Array Oper) (o:Oper):KM (Bool×St):=
 match o.guard with
 | none=>ret (true,s)
 | some (j,b)=>match (ops[j]?).bind (·.dst) with
  | some d=>match s.env d with
   | .lit (.bool c)=>bnd hear fun o=>match o with
    | .t e=>bnd (obl (c=e)) fun _=>ret (e == b,⟨upd s.env d (.lit (.bool e)),s.heap,s.ep⟩)
    | .k=>ret (c == b,s)
    | _=>fail
   | .tup []=>ret (false,s)
   | _=>fail
  | none=>fail
theorem Z0m {s:St} {ops:Array Oper} {o:Oper}:KP (Zyp s ops o) (fun y=>wanted s ops o=some y.1∧y.2=s):=by
 unfold Zyp wanted
 cases o.guard with
 | none=>exact Zp ⟨rfl,rfl⟩
 | some p=>
  obtain⟨j,b⟩:=p
  simp only
  cases hd:(ops[j]?).bind (·.dst) with
  | none=>exact Zg
  | some d=>
   simp only[Option.map_some]
   cases he:s.env d with
   | lit v=>cases v with
    | bool c=>
     refine Zd W3 (fun q _=>?_)
     cases q with
     | t e=>
      refine Zd Z0 (fun _ hc=>Zp ⟨by subst hc;rfl,?_⟩)
      have:upd s.env d (.lit (.bool e))=s.env:=by
       funext t
       unfold upd
       split
       ·rename_i h;rw[h,he,hc]
       ·rfl
      rw[this]
     | k=>exact Zp ⟨rfl,rfl⟩
     | _=>exact Zg
    | _=>exact Zg
   | tup l=>cases l with
    | nil=>exact Zp ⟨rfl,rfl⟩
    | cons x l=>exact Zg
   | _=>exact Zg
def opsK (P:Program) (M:Hints) (ops:Array Oper):(k:Nat)→List Oper→(s:St)→KM St
 | _,[],s=>ret s
 | k,o::rest,s=>bnd (Zyp s ops o) fun g=>if g.1 then bnd (opK P M g.2.opV g.2 k o) fun y=>opsK P M ops (k+1) rest (y.2.put o.dst y.1) else opsK P M ops (k+1) rest (g.2.put o.dst (.tup []))
theorem Z5l {C C':Nat→X5} {ops:Array Oper}:∀(l:List Oper) {k:Nat} {s:St},(∀j,k≤j→C j=C' j)→Zcj P M C ops s k l=Zcj P M C' ops s k l:=by
 intro l
 induction l with
 | nil=>intros;rfl
 | cons o l ih=>
  intro k s h
  simp only[Zcj,h k (Nat.le_refl _)]
  simp only[fun s=>ih (k:=k+1) (s:=s) (fun j hj=>h j (by omega))]
theorem Z3j {C C':Nat→X5} {ops:Array Oper}:∀(l:List Oper) {k:Nat} {s:St} {recs:List Rec},(∀j,k≤j→C j=C' j)→Je P M C ops s recs k l=Je P M C' ops s recs k l:=by
 intro l
 induction l with
 | nil=>intros;rfl
 | cons o l ih=>
  intro k s recs h
  simp only[Je,h k (Nat.le_refl _)]
  simp only[fun s recs=>ih (k:=k+1) (s:=s) (recs:=recs) (fun j hj=>h j (by omega))]
def setC (C:Nat→X5) (k:Nat) (D:X5):Nat→X5:=fun j=>if j=k then D else C j
theorem Ygo (hP:FuncsOk P) {ops:Array Oper}:∀(l:List Oper) {k:Nat} {s:St},KP (opsK P M ops k l s) (fun s'=>∃C:Nat→X5,(∀j,Zba P M (C j))∧Zcj P M C ops s k l=some s'):=by
 intro l
 induction l with
 | nil=>intro k s;exact Zp ⟨fun _=>Y1,fun _=>Xa hP,rfl⟩
 | cons o l ih=>
  intro k s
  simp only[opsK,Zcj]
  refine Zd Z0m (fun g hg=>?_)
  obtain⟨g,s0⟩:=g
  obtain⟨hg,hs0⟩:=hg
  simp only at hg hs0
  subst hs0
  cases g with
  | true=>
   simp only[if_true]
   refine Zd (Yar hP) (fun y hy=>ih.mono fun s' ⟨C,h1,h2⟩=>?_)
   obtain⟨D,d1,d2⟩:=hy
   refine⟨setC C k D,fun j=>?_,?_⟩
   ·unfold setC;split
    ·exact d1
    ·exact h1 j
   ·rw[hg]
    simp only[Option.bind_some,if_true,setC]
    unfold evOp
    rw[d2,Option.bind_some,←h2]
    exact Z5l l (fun j hj=>by simp only[setC];rw[if_neg (by omega)])
  | false=>
   simp only[Bool.false_eq_true,if_false]
   refine ih.mono fun s' ⟨C,h1,h2⟩=>⟨C,h1,?_⟩
   rw[hg]
   exact h2
def Zyy (P:Program) (M:Hints) (ops:Array Oper):(recs:List Rec)→(k:Nat)→List Oper→(s:St)→KM St
 | _,_,[],s=>ret s
 | recs,k,o::rest,s=>bnd (Zyp s ops o) fun g=>if g.1 then (if Zhe ops g.2.ep recs (Zlf recs o) k o (touch g.2 o) (Zgf M g.2.opV o)=true then
   bnd (opK P M g.2.opV (g.2.only (touch g.2 o)) k o) fun y=>Zyy P M ops (recs++[⟨Zlf recs o,touch g.2 o,Zgf M g.2.opV o⟩]) (k+1) rest ((g.2.merge k (touch g.2 o) (Zgf M g.2.opV o) y.2).put o.dst y.1) else fail)
  else if Zhe ops g.2.ep recs (Zlf recs o) k o [] false=true then Zyy P M ops (recs++[⟨Zlf recs o,[],false⟩]) (k+1) rest (g.2.put o.dst (.tup [])) else fail
theorem Yc0 (hP:FuncsOk P) {ops:Array Oper}:∀(l:List Oper) {k:Nat} {s:St} {recs:List Rec},KP (Zyy P M ops recs k l s) (fun s'=>∃C:Nat→X5,(∀j,Zba P M (C j))∧Je P M C ops s recs k l=some s'):=by
 intro l
 induction l with
 | nil=>intro k s recs;exact Zp ⟨fun _=>Y1,fun _=>Xa hP,rfl⟩
 | cons o l ih=>
  intro k s recs
  simp only[Zyy,Je]
  refine Zd Z0m (fun g hg=>?_)
  obtain⟨g,s0⟩:=g
  obtain⟨hg,hs0⟩:=hg
  simp only at hg hs0
  subst hs0
  cases g with
  | true=>
   simp only[if_true]
   refine Xm (fun ha=>Zd (Yar hP) (fun y hy=>ih.mono fun s' ⟨C,h1,h2⟩=>?_)) (fun _=>Zg)
   obtain⟨D,d1,d2⟩:=hy
   refine⟨setC C k D,fun j=>?_,?_⟩
   ·unfold setC;split
    ·exact d1
    ·exact h1 j
   ·rw[hg]
    simp only[Option.bind_some,if_true,setC,ha]
    rw[d2,Option.bind_some,←h2]
    exact Z3j l (fun j hj=>by simp only[setC];rw[if_neg (by omega)])
  | false=>
   simp only[Bool.false_eq_true,if_false]
   refine Xm (fun ha=>ih.mono fun s' ⟨C,h1,h2⟩=>⟨C,h1,?_⟩) (fun _=>Zg)
   rw[hg]
   simp only[Option.bind_some,Bool.false_eq_true,if_false,ha,if_true]
   exact h2
end
inductive It where
 | c (x:Code)
 | blk (i:Nat)
def SX (P:Program) (R:Ex→St→Prop):List It→Ex→St→Prop
 | [],e,s=>R e s
 | .c x::k,.normal,s=>Cx P x s (fun e s=>SX P R k e s)
 | .c x::k,.ret,s=>SX P R k .ret s
 | .c x::k,.exit j,s=>SX P R k (.exit j) s
 | .blk i::k,.exit j,s=>if j=i then SX P R k .normal s else SX P R k (.exit j) s
 | .blk i::k,.normal,s=>SX P R k .normal s
 | .blk i::k,.ret,s=>SX P R k .ret s
structure Res where
 stk:List It
 ex:Ex
 st:St
def mach (P:Program) (M:Hints):(n:Nat)→List It→Ex→(s:St)→KM Res
 | 0,stk,ex,s=>ret ⟨stk,ex,s⟩
 | n+1,stk,ex,s=>match stk with
  | []=>ret ⟨[],ex,s⟩
  | .blk i::k=>match ex with
   | .exit j=>if j=i then mach P M n k .normal s else mach P M n k (.exit j) s
   | .normal=>mach P M n k .normal s
   | .ret=>mach P M n k .ret s
  | .c x::k=>match ex with
   | .ret=>mach P M n k .ret s
   | .exit j=>mach P M n k (.exit j) s
   | .normal=>match x with
    | .skip=>mach P M n k .normal s
    | .ret=>mach P M n k .ret s
    | .exit i=>mach P M n k (.exit i) s
    | .seq a b=>mach P M n (.c a::.c b::k) .normal s
    | .cond c a b=>match s.opV c with
     | .lit (.bool t)=>bnd (Z19 t) fun e=>if e then mach P M n (.c a::k) .normal s else mach P M n (.c b::k) .normal s
     | _=>fail
    | .block i c=>mach P M n (.c c::.blk i::k) .normal s
    | .loop c=>mach P M n (.c c::.c (.loop c)::k) .normal s
    | .region _ ops d=>match d with
     | false=>bnd (opsK P M ops 0 ops.toList ⟨s.env,s.heap,s.ep+1⟩) fun s'=>mach P M n k .normal s'
     | true=>if Region.noSelect ops=true then bnd (Zyy P M ops [] 0 ops.toList ⟨s.env,s.heap,s.ep+1⟩) fun s'=>mach P M n k .normal s' else fail
    | _=>fail
section
variable {P:Program} {M:Hints} {R:Ex→St→Prop}
theorem Yf2 (M:Hints) (hP:FuncsOk P) {k:List It} {S:St} {i:Nat} {d0 d1:Tmp} {x0 y:Operand} {t yt e ty0 ty1:TypeId} {p0 p1:String} {af0 af1:Array Edge} (hte:Xr P t=some e) (hx:S.opV x0=.tr []) (hy:(({S with ep:=S.ep+1}:St).put (some d0) (.tr [])).opV y=.lit (.slice none 0 0))
  (h:∀b,SX P R k .normal ((({S with ep:=S.ep+1}:St).put (some d0) (.tr [])).put (some d1) (.lit (.bool b)))):
  SX P R (.c (.region i #[⟨some d0,.move x0,ty0,p0,af0,none⟩,⟨some d1,.binOp .eql t (.tmp d0) y yt,ty1,p1,af1,none⟩] false)::k) .normal S:=
 Ygs M hP (R:=fun e s=>SX P R k e s) hte hx hy h
def Yae:List It→Option (Operand×Tmp×Tmp×TypeId×Operand×List It)
 | .c (.region _ ops false)::k=>match ops.toList with
  | [⟨some d0,.move x0,_,_,_,none⟩,⟨some d1,.binOp .eql t (.tmp d) y _,_,_,_,none⟩]=>if d=d0 then some (x0,d0,d1,t,y,k) else none
  | _=>none
 | _=>none
theorem Zr4 (M:Hints) (hP:FuncsOk P) {stk k:List It} {S:St} {d0 d1:Tmp} {x0 y:Operand} {t e:TypeId} (hs:Yae stk=some (x0,d0,d1,t,y,k)) (hte:Xr P t=some e) (hx:S.opV x0=.tr []) (hy:(({S with ep:=S.ep+1}:St).put (some d0) (.tr [])).opV y=.lit (.slice none 0 0))
  (h:∀b,SX P R k .normal ((({S with ep:=S.ep+1}:St).put (some d0) (.tr [])).put (some d1) (.lit (.bool b)))):SX P R stk .normal S:=by
 unfold Yae at hs
 split at hs
 ·rename_i i ops k'
  split at hs
  ·rename_i c0 z0 ty0 p0 af0 c1 u d z yt ty1 p1 af1 hl
   split at hs
   ·rename_i hd
    simp only[Option.some.injEq,Prod.mk.injEq] at hs
    obtain⟨rfl,rfl,rfl,rfl,rfl,rfl⟩:=hs
    subst hd
    obtain rfl:ops=#[⟨some d,.move z0,ty0,p0,af0,none⟩,⟨some c1,.binOp .eql u (.tmp d) z yt,ty1,p1,af1,none⟩]:=by
     apply Array.toList_inj.1;rw[hl]
    exact Yf2 M hP hte hx hy h
   ·cases hs
  ·cases hs
 ·cases hs
theorem Ygn (hP:FuncsOk P):∀(n:Nat) {stk:List It} {ex:Ex} {s:St},KP (mach P M n stk ex s) (fun r=>SX P R r.stk r.ex r.st→SX P R stk ex s):=by
 intro n
 induction n with
 | zero=>intro stk ex s;exact Zp id
 | succ n ih=>
  intro stk ex s
  simp only[mach]
  split
  ·exact Zp id
  ·rename_i i k
   split
   ·rename_i j
    refine Xm (fun hj=>ih.mono fun r hr h=>?_) (fun hj=>ih.mono fun r hr h=>?_)
    ·simp only[SX];rw[if_pos hj];exact hr h
    ·simp only[SX];rw[if_neg hj];exact hr h
   ·exact ih.mono fun r hr h=>hr h
   ·exact ih.mono fun r hr h=>hr h
  ·rename_i x k
   split
   ·exact ih.mono fun r hr h=>hr h
   ·exact ih.mono fun r hr h=>hr h
   ·split
    ·exact ih.mono fun r hr h=>Yfz (hr h)
    ·exact ih.mono fun r hr h=>Cx_ret (hr h)
    ·exact ih.mono fun r hr h=>Yft (hr h)
    ·refine ih.mono fun r hr h=>Cx_seq (Zy6 (hr h) fun e s h=>?_)
     cases e<;>exact h
    ·rename_i c a b
     split
     ·rename_i t hc
      refine Zd Z2w (fun e he=>?_)
      subst he
      cases t with
      | true=>exact ih.mono fun r hr h=>Z67 hc (hr h)
      | false=>exact ih.mono fun r hr h=>Z67 hc (hr h)
     ·exact Zg
    ·rename_i i c
     refine ih.mono fun r hr h=>Ydc (Zy6 (hr h) fun e s h=>?_)
     cases e<;>exact h
    ·rename_i c
     refine ih.mono fun r hr h=>Ygi (Zy6 (hr h) fun e s h=>?_)
     cases e<;>exact h
    ·rename_i i ops d
     split
     ·refine Zd (Ygo hP _) (fun s' hs=>ih.mono fun r hr h=>?_)
      obtain⟨C,h1,h2⟩:=hs
      exact Cx_ops hP C h1 h2 (hr h)
     ·refine Xm (fun hn=>Zd (Yc0 hP _) (fun s' hs=>ih.mono fun r hr h=>?_)) (fun _=>Zg)
      obtain⟨C,h1,h2⟩:=hs
      exact Yfo hP C h1 hn h2 (hr h)
    ·exact Zg
theorem Z4b (hP:FuncsOk P) (n:Nat) {stk:List It} {ex:Ex} {s:St}:KP (mach P M n stk ex s) (fun r=>∀R,SX P R r.stk r.ex r.st→SX P R stk ex s):=fun q a obs q' e ho R=>Ygn hP n q a obs q' e ho
def endK (P:Program) (M:Hints) (f:FuncId) (fn:Func) (xs:List V) (r:Res):KM (V×List V):=match r.stk with
 | []=>match r.ex with
  | .exit _=>fail
  | .normal=>retK P M f fn xs r.st
  | .ret=>retK P M f fn xs r.st
 | _=>fail
def runK (P:Program) (M:Hints) (f:FuncId) (fn:Func) (xs:List V) (n:Nat) (stk:List It) (s:St):KM (V×List V):=
 bnd (mach P M n stk .normal s) (endK P M f fn xs)
theorem Ygt (hP:FuncsOk P) {f:FuncId} {fn:Func} {xs:List V} {n:Nat} {stk:List It} {s:St}:KP (runK P M f fn xs n stk s) (fun y=>SX P (RetC P M f fn xs y) stk .normal s):=by
 refine Zd (Z4b hP n) (fun r hr=>?_)
 obtain⟨st,ex,s1⟩:=r
 unfold endK
 cases st with
 | cons x l=>exact Zg
 | nil=>cases ex with
  | exit i=>exact Zg
  | normal=>exact Z66.kp.mono fun y hy=>hr _ ⟨trivial,hy⟩
  | ret=>exact Z66.kp.mono fun y hy=>hr _ ⟨trivial,hy⟩
def told {α:Type} (x:Option (α×List Prop×List O)):Option (Prop×α):=match x with|some (a,obs,[])=>some (All obs,a)|_=>none
theorem Z7i {α:Type} {x:KM α} {q:List O} {Q:α→Prop} {p:Prop} {a:α} (h:KP x Q) (e:told (x q)=some (p,a)) (hp:p):Q a:=by
 unfold told at e
 split at e
 ·rename_i b obs hx
  injection e with e
  injection e with e1 e2
  subst e2
  exact h q _ _ _ hx (by rw[e1];exact hp)
 ·cases e
theorem Z7p (hP:FuncsOk P) {f:FuncId} {fn:Func} {xs:List V} {y:V×List V} {stk:List It} {s:St} {p:Prop} (n:Nat) (q:List O) (hp:p) (e:told (runK P M f fn xs n stk s q)=some (p,y)):SX P (RetC P M f fn xs y) stk .normal s:=
 Z7i (x:=runK P M f fn xs n stk s) (Q:=fun y=>SX P (RetC P M f fn xs y) stk .normal s) (Ygt hP) e hp
def ren1 (f:List (Id×Id)):V→V
 | .ptr id i off=>match renI f id with|some id'=>.ptr id' i off|none=>.undef
 | .sl id off len=>match renI f id with|some id'=>.sl id' off len|none=>(match off,len with|0,0=>.lit (.slice none 0 0)|_,_=>.undef)
 | .lit v=>.lit v
 | .tr rows=>.tr rows
 | .vw rows=>.vw rows
 | .rp sh row off=>.rp sh row off
 | _=>.undef
def renV (f:List (Id×Id)):V→V
 | .agg xs=>.agg (xs.map (ren1 f))
 | .tup xs=>.tup (xs.map (ren1 f))
 | .fn g xs=>.fn g (xs.map (ren1 f))
 | x=>ren1 f x
theorem Zz2 {f:List (Id×Id)} {x:V} (h:ren1 f x≠.undef∨x=.undef):VR1 f x (ren1 f x):=by
 cases x with
 | undef=>trivial
 | ptr id i off=>
  simp only[ren1] at h ⊢
  split
  ·rename_i id' hr;exact⟨hr,rfl,rfl⟩
  ·rename_i hr;rw[hr] at h;simp at h
 | sl id off len=>
  simp only[ren1] at h ⊢
  split
  ·rename_i id' hr;exact⟨hr,rfl,rfl⟩
  ·rename_i hr
   rw[hr] at h
   simp only at h
   split
   ·exact⟨hr,rfl,rfl⟩
   ·rename_i hne
    exfalso
    split at h
    ·rename_i h1 h2;exact hne rfl rfl
    ·simp at h
 | lit v=>rfl
 | tr rows=>rfl
 | vw rows=>rfl
 | rp sh row off=>rfl
 | agg _=>simp[ren1] at h
 | tup _=>simp[ren1] at h
 | fn _ _=>simp[ren1] at h
 | own _ _=>simp[ren1] at h
 | obx _=>simp[ren1] at h
def okV:V→Bool|.undef=>false|_=>true
theorem okV_ne {x:V} (h:okV x=true):x≠.undef:=by rintro rfl;cases h
theorem Zu8 {f:List (Id×Id)}:∀{xs:List V},(xs.map (ren1 f)).all okV=true→VRs f xs (xs.map (ren1 f)):=by
 intro xs
 induction xs with
 | nil=>intro _;trivial
 | cons x xs ih=>
  intro h
  simp only[List.map_cons,List.all_cons,Bool.and_eq_true] at h
  exact⟨Zz2 (.inl (okV_ne h.1)),ih h.2⟩
def okVs:V→Bool
 | .agg xs|.tup xs|.fn _ xs=>xs.all okV
 | x=>okV x
theorem Ygu {f:List (Id×Id)} {x:V} (h:okVs (renV f x)=true):VR f x (renV f x):=by
 cases x with
 | agg xs=>exact Zu8 h
 | tup xs=>exact Zu8 h
 | fn g xs=>exact⟨rfl,Zu8 h⟩
 | undef=>trivial
 | lit v=>rfl
 | tr rows=>rfl
 | vw rows=>rfl
 | rp sh row off=>rfl
 | own e rows=>cases h
 | obx cs=>cases h
 | ptr id i off=>exact Zz2 (x:=.ptr id i off) (.inl fun e=>by have h2:okVs (ren1 f (.ptr id i off))=true:=h;rw[e] at h2;cases h2)
 | sl id off len=>exact Zz2 (x:=.sl id off len) (.inl fun e=>by have h2:okVs (ren1 f (.sl id off len))=true:=h;rw[e] at h2;cases h2)
def renB (f:List (Id×Id)) (p:Id×Blk):Option Blk:=match renI f p.1 with
 | none=>none
 | some _=>some ⟨p.2.box,p.2.own,p.2.cl,(if p.2.box then 0 else p.2.el),if p.2.box then p.2.rows.map (fun r=>r.map (ren1 f)) else p.2.rows⟩
def wasB (f:List (Id×Id)) (S:St) (p:Id×Blk):Option Blk:=match renI f p.1 with
 | none=>none
 | some id'=>(S.heap id').map fun c=>⟨c.box,c.own,c.cl,(if c.box then 0 else c.el),c.rows⟩
def newB (f:List (Id×Id)) (p:Id×Blk):Bool:=match renI f p.1 with
 | none=>!p.2.box&&p.2.own&&(match p.2.rows with|[]=>true|_=>false)
 | some _=>if p.2.box then (match p.2.rows with|[r]=>(r.map (ren1 f)).all okV|_=>false) else true
theorem Yga {f:List (Id×Id)} {S:St} {p:Id×Blk} (h:wasB f S p=renB f p) (hn:newB f p=true):BR f S p.1 p.2:=by
 obtain⟨id,b⟩:=p
 unfold BR
 unfold wasB renB at h
 unfold newB at hn
 simp only at h hn ⊢
 split
 ·rename_i hr
  rw[hr] at hn
  simp only[Bool.and_eq_true,Bool.not_eq_true'] at hn
  refine⟨hn.1.1,hn.1.2,?_⟩
  cases hb:b.rows with
  | nil=>rfl
  | cons x l=>rw[hb] at hn;simp at hn
 ·rename_i id' hr
  rw[hr] at h hn
  simp only at h hn
  obtain⟨c,h1,h2⟩:=Option.map_eq_some_iff.1 h
  injection h2 with e1 e2 e3 e4 e5
  refine⟨c,h1,e1,e2,e3,?_⟩
  cases hbx:b.box with
  | true=>
   rw[hbx] at hn e1 e5
   simp only[if_true] at hn e5 ⊢
   cases hb:b.rows with
   | nil=>rw[hb] at hn;cases hn
   | cons r l=>cases l with
    | cons r2 l=>rw[hb] at hn;cases hn
    | nil=>
     rw[hb] at hn e5
     exact⟨r,_,rfl,e5,Zu8 hn⟩
  | false=>
   rw[hbx] at e1 e4 e5
   rw[e1] at e4
   simp only[Bool.false_eq_true,if_false] at e4 e5 ⊢
   exact⟨e4,e5⟩
def wasL (f:List (Id×Id)) (l:List (Nat×V)) (h:List (Id×Blk)) (S:St):List V×List (Option Blk):=(l.map fun p=>S.env p.1,h.map fun p=>wasB f S p)
def renL (f:List (Id×Id)) (l:List (Nat×V)) (h:List (Id×Blk)):List V×List (Option Blk):=(l.map fun p=>renV f p.2,h.map fun p=>renB f p)
def cutB (f:List (Id×Id)) (l:List (Nat×V)) (h:List (Id×Blk)) (ep:Nat):Bool:=wkB f l h ep&&(l.all fun p=>okVs (renV f p.2))&&h.all fun p=>newB f p
theorem Zxx {α β:Type} {g1 g2:α→β} {l:List α} (h:l.map g1=l.map g2):∀x∈l,g1 x=g2 x:=by
 induction l with
 | nil=>intro x hx;simp at hx
 | cons y l ih=>
  simp only[List.map_cons,List.cons.injEq] at h
  intro x hx
  rcases List.mem_cons.1 hx with rfl|hx
  ·exact h.1
  ·exact ih h.2 x hx
theorem Ygk {f:List (Id×Id)} {l:List (Nat×V)} {h:List (Id×Blk)} {ep:Nat} {S:St} (e:wasL f l h S=renL f l h) (hb:cutB f l h ep=true):Weak f S l h ep:=by
 simp only[wasL,renL,Prod.mk.injEq] at e
 simp only[cutB,Bool.and_eq_true,List.all_eq_true] at hb
 refine⟨fun p hp=>?_,fun p hp=>Yga (Zxx e.2 p hp) (hb.2 p hp),hb.1.1⟩
 rw[Zxx e.1 p hp]
 exact Ygu (hb.1.2 p hp)
def len1:V→KM V
 | .sl id off len=>bnd hear fun o=>match o with
  | .num n _ _ _=>bnd (obl (len=n)) fun _=>ret (.sl id off n)
  | _=>fail
 | x=>ret x
theorem Z7r {x:V}:KP (len1 x) (fun y=>y=x):=by
 unfold len1
 split
 ·refine Zd W3 (fun o _=>?_)
  split
  ·exact Zd Z0 (fun _ h=>Zp (by rw[h]))
  ·exact Zg
 ·exact Zp rfl
def lens:List V→KM (List V)
 | []=>ret []
 | x::xs=>bnd (len1 x) fun y=>bnd (lens xs) fun ys=>ret (y::ys)
theorem Zzp:∀{xs:List V},KP (lens xs) (fun ys=>ys=xs):=by
 intro xs
 induction xs with
 | nil=>exact Zp rfl
 | cons x xs ih=>exact Zd Z7r (fun y hy=>Zd ih (fun ys hys=>Zp (by rw[hy,hys])))
def lenV:V→KM V
 | .agg xs=>bnd (lens xs) fun ys=>ret (.agg ys)
 | .fn g xs=>bnd (lens xs) fun ys=>ret (.fn g ys)
 | x=>len1 x
theorem Ygw {x:V}:KP (lenV x) (fun y=>y=x):=by
 unfold lenV
 split
 ·exact Zd Zzp (fun y hy=>Zp (by rw[hy]))
 ·exact Zd Zzp (fun y hy=>Zp (by rw[hy]))
 ·exact Z7r
def Z8j (S:St):List (Nat×V)→KM (List V)
 | []=>ret []
 | p::l=>bnd (lenV (S.env p.1)) fun y=>bnd (Z8j S l) fun ys=>ret (y::ys)
theorem Ygz {S:St}:∀{l:List (Nat×V)},KP (Z8j S l) (fun ys=>ys=l.map fun p=>S.env p.1):=by
 intro l
 induction l with
 | nil=>exact Zp rfl
 | cons p l ih=>exact Zd Ygw (fun y hy=>Zd ih (fun ys hys=>Zp (by rw[hy,hys];rfl)))
def lenB:Option Blk→KM (Option Blk)
 | some ⟨true,own,cl,el,[row]⟩=>bnd (lens row) fun r=>ret (some ⟨true,own,cl,el,[r]⟩)
 | x=>ret x
theorem Ygy {x:Option Blk}:KP (lenB x) (fun y=>y=x):=by
 unfold lenB
 split
 ·exact Zd Zzp (fun r hr=>Zp (by rw[hr]))
 ·exact Zp rfl
def lenH (f:List (Id×Id)) (S:St):List (Id×Blk)→KM (List (Option Blk))
 | []=>ret []
 | p::l=>bnd (lenB (wasB f S p)) fun y=>bnd (lenH f S l) fun ys=>ret (y::ys)
theorem Yf8 {f:List (Id×Id)} {S:St}:∀{l:List (Id×Blk)},KP (lenH f S l) (fun ys=>ys=l.map fun p=>wasB f S p):=by
 intro l
 induction l with
 | nil=>exact Zp rfl
 | cons p l ih=>exact Zd Ygy (fun y hy=>Zd ih (fun ys hys=>Zp (by rw[hy,hys];rfl)))
def Ya0 (f:List (Id×Id)) (l:List (Nat×V)) (h:List (Id×Blk)) (r:Res):KM (List It×List V×List (Option Blk)):=match r.ex with
 | .normal=>bnd (Z8j r.st l) fun vs=>bnd (lenH f r.st h) fun bs=>ret (r.stk,vs,bs)
 | _=>fail
def cutK (P:Program) (M:Hints) (f:List (Id×Id)) (l:List (Nat×V)) (h:List (Id×Blk)) (n:Nat) (stk:List It) (s:St):KM (List It×List V×List (Option Blk)):=
 bnd (mach P M n stk .normal s) (Ya0 f l h)
def isC:List It→Bool
 | .c _::_=>true
 | _=>false
theorem Z7s (hP:FuncsOk P) {stk k2:List It} {s:St} {p:Prop} {l:List (Nat×V)} {h:List (Id×Blk)} {ep:Nat} (f:List (Id×Id)) (n:Nat) (q:List O) (hp:p) (hn:SX P R k2 .normal (mkS l h ep))
  (e:told (cutK P M f l h n stk s q)=some (p,(k2,renL f l h))) (hb:(isC k2&&cutB f l h ep)=true):SX P R stk .normal s:=by
 simp only[Bool.and_eq_true] at hb
 refine Z7i (x:=cutK P M f l h n stk s) (Q:=fun y=>y=(k2,renL f l h)→SX P R stk .normal s) ?_ e hp rfl
 refine Zd (Z4b hP n) (fun r hr=>?_)
 obtain⟨st,ex,s1⟩:=r
 unfold Ya0
 cases ex with
 | normal=>
  refine Zd Ygz (fun vs hvs=>Zd Yf8 (fun bs hbs=>Zp fun hy=>hr _ ?_))
  simp only[Prod.mk.injEq] at hy
  simp only
  rw[hy.1]
  have hy2:wasL f l h s1=renL f l h:=by
   rw[←hy.2,hvs,hbs];rfl
  cases k2 with
  | nil=>cases hb.1
  | cons x k=>cases x with
   | blk i=>cases hb.1
   | c x=>exact Yfj f (Ygk hy2 hb.2) hn
 | ret=>exact Zg
 | exit i=>exact Zg
end
end Go.Proofs.YtciimjnpdmmfnaaGreat.Ev
namespace Go.Proofs.YtciimjnpdmmfnaaGreat.Ev
open Go
set_option linter.unusedVariables false
section
variable {α:Type}
def idx (xs:List α) (i:Int):Option α:=if 0≤i then xs[i.toNat]? else none
def appI (sz:Nat) (xs ys:List α):Option (List α):=if (xs.length+ys.length)*sz≤140737488355328∧xs.length+ys.length≤9223372036854775807 then some (xs++ys) else none
def mkI (sz:Nat) (n:Int) (z:α):Option (List α):=if 0≤n∧n.toNat*sz≤70368744177664∧n.toNat≤9223372036854775807 then some (List.replicate n.toNat z) else none
def Kb (xs:List α) (l h:Int):Option (List α):=if 0≤l∧l≤h∧h.toNat≤xs.length then some ((xs.drop l.toNat).take (h.toNat - l.toNat)) else none
def clrI (z:α) (xs:List α) (l h:Int):Option (List α):=if l.toNat+(h.toNat - l.toNat)≤xs.length then some (xs.take l.toNat++List.replicate (h.toNat - l.toNat) z++xs.drop (l.toNat+(h.toNat - l.toNat))) else none
def setO (xs:List α) (i:Int) (a:α):Option (List α):=some (xs.set i.toNat a)
def lenE {β:Type} (xs:List α) (ys:List β):Option Unit:=if xs.length=ys.length then some () else none
end
def strL (l:List UInt8):ByteArray:=⟨l.toArray⟩
def FU:Nat:=18446744073709551616
def w64 (n:Int):Int:=IntKind.i64.wrap n
def addW (a b:Int):Int:=IntKind.i64.wrap (a+b)
def subW (a b:Int):Int:=IntKind.i64.wrap (a - b)
def mulW (a b:Int):Int:=IntKind.i64.wrap (a*b)
def quoW (a b:Int):Int:=IntKind.i64.wrap (a.tdiv b)
def remW (a b:Int):Int:=a.tmod b
def andW (a b:Int):Int:=IntKind.i64.wrap ((BitVec.ofInt IntKind.i64.bits a &&& BitVec.ofInt IntKind.i64.bits b).toNat)
def orW (a b:Int):Int:=IntKind.i64.wrap ((BitVec.ofInt IntKind.i64.bits a ||| BitVec.ofInt IntKind.i64.bits b).toNat)
def xorW (a b:Int):Int:=IntKind.i64.wrap ((BitVec.ofInt IntKind.i64.bits a ^^^ BitVec.ofInt IntKind.i64.bits b).toNat)
def shlW (a b:Int):Int:=IntKind.i64.wrap (a*2^min b.toNat IntKind.i64.bits)
def shrW (a b:Int):Int:=a.fdiv (2^min b.toNat IntKind.i64.bits)
def minI (x y:Int):Int:=if y < x then y else x
def maxI (x y:Int):Int:=if y > x then y else x
def nzI (b:Int):Option Unit:=if b=0 then none else some ()
def nnI (b:Int):Option Unit:=if 0≤b then some () else none
theorem Ycr {n:Int} (h1:-9223372036854775808≤n) (h2:n < 9223372036854775808):w64 n=n:=by
 simp[w64,IntKind.wrap,IntKind.bits,IntKind.signed];omega
end Go.Proofs.YtciimjnpdmmfnaaGreat.Ev
namespace Go.Proofs.YtciimjnpdmmfnaaGreat.Ev
open Go Go.RowKit KM
set_option linter.unusedVariables false
set_option linter.unusedSimpArgs false
abbrev il (n:Int):V:=.lit (.int .i64 n)
abbrev bl (b:Bool):V:=.lit (.bool b)
section
variable {P:Program} {M:Hints}
def entS (M:Hints) (f:FuncId) (xs:List V):St:=(St.enters ⟨fun _=>.undef,fun _=>none,0⟩ 0 (M.modes f) xs).getD ⟨fun _=>.undef,fun _=>none,0⟩
theorem Yfg (hP:FuncsOk P) {f:FuncId} {fn:Func} {c:Code} {xs:List V} {r:V} {os:List V} (hfn:P.funcs[f]?=some fn) (hc:fn.body=some c) (hs:(St.enters ⟨fun _=>.undef,fun _=>none,0⟩ 0 (M.modes f) xs).isSome=true)
  (h:SX P (RetC P M f fn xs (r,os)) [.c c] .normal (entS M f xs)):Fine P M (f,xs,r,os):=by
 obtain⟨s1,h1⟩:=Option.isSome_iff_exists.1 hs
 refine Yf0 hP hfn hc h1 ?_
 have:entS M f xs=s1:=by unfold entS;rw[h1];rfl
 rw[←this]
 exact h
end
theorem aa {p q:Prop} (h:p) (k:q):p∧q:=⟨h,k⟩
theorem tt:True:=trivial
theorem Yd8 {α β:Type} {x:Option α} {f:α→Option β} {b:β} (h:x.bind f=some b):∃a,x=some a∧f a=some b:=Option.bind_eq_some_iff.1 h
theorem Ydm {β:Type} {t:Bool} {x y:Option β} {b:β} (h:(if t=true then x else y)=some b):(t=true∧x=some b)∨(t=false∧y=some b):=by
 cases t with
 | true=>exact .inl ⟨rfl,h⟩
 | false=>exact .inr ⟨rfl,h⟩
section
variable {α:Type}
theorem ixn {xs:List α} {i:Int} {a:α} (h:idx xs i=some a):Ws (il i)=some i.toNat:=by
 unfold idx at h
 split at h
 ·rename_i h0;simp[Ws,h0]
 ·cases h
theorem ixr (e:α→List V) {xs:List α} {i:Int} {a:α} (h:idx xs i=some a):(xs.map e)[i.toNat]?=some (e a):=by
 unfold idx at h
 split at h
 ·rw[List.getElem?_map,h];rfl
 ·cases h
theorem ixl (e:α→List V) {xs:List α} {i:Int} {a:α} (h:idx xs i=some a):i.toNat < (xs.map e).length:=(List.getElem?_eq_some_iff.1 (ixr e h)).1
theorem lenr (e:α→List V) (xs:List α):(xs.map e).length=xs.length:=List.length_map ..
theorem lene (e:α→List V) (xs:List α):(xs.map e).length=(xs.map e).length:=rfl
theorem alr (n:Nat) {e:α→List V} (he:∀a,(e a).length=n) (xs:List α):Zf5 n (xs.map e)=true:=by
 unfold Zf5
 rw[List.all_eq_true]
 intro r hr
 obtain⟨a,_,rfl⟩:=List.mem_map.1 hr
 simp[he]
theorem ltr {e:α→List V} (he:∀a,(e a).all Zp1=true) (xs:List α):Kf (xs.map e)=true:=by
 unfold Kf
 rw[List.all_eq_true]
 intro r hr
 obtain⟨a,_,rfl⟩:=List.mem_map.1 hr
 exact he a
theorem apm (e:α→List V) {sz:Nat} {xs ys zs:List α} (h:appI sz xs ys=some zs):xs.map e++ys.map e=zs.map e:=by
 unfold appI at h
 split at h
 ·injection h with h;rw[←h,List.map_append]
 ·cases h
theorem apl (e:α→List V) {sz:Nat} {xs ys zs:List α} (h:appI sz xs ys=some zs):((xs.map e).length+(ys.map e).length)*sz≤140737488355328∧(xs.map e).length+(ys.map e).length≤9223372036854775807:=by
 unfold appI at h
 split at h
 ·rename_i hh;simpa using hh
 ·cases h
theorem apm0 (e:α→List V) {sz:Nat} {ys zs:List α} (h:appI sz [] ys=some zs):ys.map e=zs.map e:=apm e h
theorem mkn {sz:Nat} {n:Int} {z:α} {xs:List α} (h:mkI sz n z=some xs):Ws (il n)=some n.toNat:=by
 unfold mkI at h
 split at h
 ·rename_i h0;simp[Ws,h0.1]
 ·cases h
theorem mkl {sz:Nat} {n:Int} {z:α} {xs:List α} (h:mkI sz n z=some xs):n.toNat*sz≤70368744177664∧n.toNat≤9223372036854775807:=by
 unfold mkI at h
 split at h
 ·rename_i h0;exact h0.2
 ·cases h
theorem mkr (e:α→List V) {sz:Nat} {n:Int} {z:α} {xs:List α} (h:mkI sz n z=some xs):List.replicate n.toNat (e z)=xs.map e:=by
 unfold mkI at h
 split at h
 ·injection h with h;rw[←h,List.map_replicate]
 ·cases h
theorem sln {xs ys:List α} {l h:Int} (e:Kb xs l h=some ys):Ws (il l)=some l.toNat∧Ws (il h)=some h.toNat:=by
 unfold Kb at e
 split at e
 ·rename_i h0
  refine⟨by simp[Ws,h0.1],?_⟩
  have:0≤h:=by omega
  simp[Ws,this]
 ·cases e
theorem sll (en:α→List V) {xs ys:List α} {l h:Int} (e:Kb xs l h=some ys):l.toNat≤h.toNat∧h.toNat≤(xs.map en).length:=by
 unfold Kb at e
 split at e
 ·rename_i h0
  rw[List.length_map]
  omega
 ·cases e
theorem slr (en:α→List V) {xs ys:List α} {l h:Int} (e:Kb xs l h=some ys):((xs.map en).drop l.toNat).take (h.toNat - l.toNat)=ys.map en:=by
 unfold Kb at e
 split at e
 ·injection e with e;rw[←e,List.map_take,List.map_drop]
 ·cases e
end
def encI (n:Int):List V:=[.lit (.int .i64 n)]
def encU (n:Int):List V:=[.lit (.int .u8 n)]
def encB (b:Bool):List V:=[.lit (.bool b)]
theorem Zee (n:Int):(encI n).length=1:=rfl
theorem Zrv (n:Bool):(encB n).length=1:=rfl
theorem Yfc (n:Int):(encI n).all Zp1=true:=rfl
section
variable {α:Type}
theorem seto (e:α→List V) {xs ys:List α} {i:Int} {a:α} (h:setO xs i a=some ys):(xs.map e).set i.toNat (e a)=ys.map e:=by
 unfold setO at h
 injection h with h
 rw[←h,List.map_set]
theorem setl (e:α→List V) {xs ys:List α} {i:Int} {a:α} (h:setO xs i a=some ys):(xs.map e).length=(ys.map e).length:=by
 rw[←seto e h,List.length_set]
theorem lz (e:α→List V) {xs:List α} (h:decide (xs.length=0)=true):(xs.map e).length=0:=by
 rw[List.length_map];exact of_decide_eq_true h
theorem lnz (e:α→List V) {xs:List α} (h:decide (xs.length=0)=false):(xs.map e).length≠0:=by
 rw[List.length_map];exact of_decide_eq_false h
theorem ixc (e:α→List V) {xs ys:List α} {i:Int} {a:α} (h:idx ys i=some a) (hl:(xs.map e).length=(ys.map e).length):i.toNat < (xs.map e).length:=hl▸ixl e h
theorem lenq (e:α→List V) {xs ys:List α} {u:Unit} (h:lenE xs ys=some u):(xs.map e).length=(ys.map e).length:=by
 unfold lenE at h
 split at h
 ·rename_i hh;simpa using hh
 ·cases h
theorem sla (en:α→List V) {xs ys:List α} {l h:Int} (e:Kb xs l h=some ys):l.toNat+(h.toNat - l.toNat)≤(xs.map en).length:=by
 have:=sll en e
 omega
end
section
variable {α:Type}
theorem Zsp {sz:Nat} {r:List α} (h:appI sz [] []=some r):[]=r:=by
 unfold appI at h
 split at h
 ·injection h
 ·cases h
theorem apz (n:Nat):(0+0)*n≤140737488355328∧0+0≤9223372036854775807:=by simp
theorem clrl (e:α→List V) {z:α} {xs ys:List α} {l h:Int} (q:clrI z xs l h=some ys):l.toNat+(h.toNat - l.toNat)≤(xs.map e).length:=by
 unfold clrI at q
 split at q
 ·rwa [List.length_map]
 ·cases q
theorem clrr (e:α→List V) {z:α} {xs ys:List α} {l h:Int} (q:clrI z xs l h=some ys):(xs.map e).take l.toNat++List.replicate (h.toNat - l.toNat) (e z)++(xs.map e).drop (l.toNat+(h.toNat - l.toNat))=ys.map e:=by
 unfold clrI at q
 split at q
 ·injection q with q;rw[←q];simp
 ·cases q
theorem clrs (e:α→List V) {z:α} {xs ys:List α} {l h:Int} (q:clrI z xs l h=some ys):(xs.map e).length=(ys.map e).length:=by
 unfold clrI at q
 split at q
 ·injection q with q;rw[←q];simp;omega
 ·cases q
end
def ks:Nat→List O→List O
 | 0,l=>l
 | n+1,l=>.k::ks n l
def Scr (q:List O) (p:Prop):Prop:=p
theorem ee:Scr [] True:=trivial
section
variable {q:List O} {p:Prop} {α:Type}
theorem kk (n:Nat) (k:Scr q p):Scr (ks n q) p:=k
theorem gg {c b:Bool} (h:c=b) (k:Scr q p):Scr (.t b::q) (c=b∧p):=⟨h,k⟩
theorem rr {P:Program} {M:Hints} {y:FuncId×List V×V×List V} (h:Fine P M y) (k:Scr q p):Scr (.res y.2.2.1 y.2.2.2::q) (Fine P M y∧p):=⟨h,k⟩
theorem xb (e:α→List V) {xs:List α} {i:Int} {a:α} (h:idx xs i=some a) (k:Scr q p):Scr (.row i.toNat (e a)::q) (Ws (il i)=some i.toNat∧(xs.map e)[i.toNat]?=some (e a)∧p):=⟨ixn h,ixr e h,k⟩
theorem xd (e:α→List V) {xs:List α} {i:Int} {a:α} (h:idx xs i=some a) (k:Scr q p):Scr (.row i.toNat (e a)::.cell (e a)::q) (Ws (il i)=some i.toNat∧i.toNat < (xs.map e).length∧(xs.map e)[i.toNat]?=some (e a)∧(xs.map e)[i.toNat]?=some (e a)∧p):=⟨ixn h,ixl e h,ixr e h,ixr e h,k⟩
theorem xp (e:α→List V) {xs ys:List α} {i:Int} {a b:α} (h:idx xs i=some a) (h2:setO xs i b=some ys) (k:Scr q p):Scr (.row i.toNat (e a)::.put (e a) (ys.map e)::q) (Ws (il i)=some i.toNat∧i.toNat < (xs.map e).length∧(xs.map e)[i.toNat]?=some (e a)∧(xs.map e)[i.toNat]?=some (e a)∧(xs.map e).set i.toNat (e b)=ys.map e∧p):=⟨ixn h,ixl e h,ixr e h,ixr e h,seto e h2,k⟩
theorem xq (e:α→List V) {xs:List α} {i:Int} {a:α} (h:idx xs i=some a) (ys:List α) (k:Scr q p):Scr (.row i.toNat (e a)::.put (e a) (ys.map e)::q) (Ws (il i)=some i.toNat∧i.toNat < (xs.map e).length∧(xs.map e)[i.toNat]?=some (e a)∧(xs.map e)[i.toNat]?=some (e a)∧p):=⟨ixn h,ixl e h,ixr e h,ixr e h,k⟩
theorem ln (e:α→List V) (xs:List α) (k:Scr q p):Scr (.num (xs.map e).length 0 0 []::q) ((xs.map e).length=(xs.map e).length∧p):=⟨rfl,k⟩
theorem lr (e:α→List V) (xs:List α) (k:Scr q p):Scr (.num xs.length 0 0 []::q) ((xs.map e).length=xs.length∧p):=⟨lenr e xs,k⟩
theorem tp (x:O) (k:Scr q p):Scr (x::q) p:=k
theorem tq (l:List O) (k:Scr q p):Scr (l++q) p:=k
theorem ta (e:α→List V) (ys zs:List α) (k:Scr q p):Scr (.app (ys.map e) true (zs.map e) (zs.map e).length::q) p:=k
theorem oa (n:Nat) {e:α→List V} (he:∀a,(e a).length=n) (x:α) (k:Scr q p):Scr q (1=([x].map e).length∧[x].map e=[x].map e∧Zf5 n ([x].map e)=true∧p):=⟨rfl,rfl,alr n he [x],k⟩
theorem ox (e:α→List V) {sz:Nat} {xs ys zs:List α} (h:appI sz xs ys=some zs) (k:Scr q p):Scr q ((xs.map e).length=(xs.map e).length∧(((xs.map e).length+(ys.map e).length)*sz≤140737488355328∧(xs.map e).length+(ys.map e).length≤9223372036854775807)∧xs.map e++ys.map e=zs.map e∧p):=⟨rfl,apl e h,apm e h,k⟩
theorem oe (e:α→List V) (xs:List α) (k:Scr q p):Scr q ((xs.map e).length=(xs.map e).length∧p):=⟨rfl,k⟩
theorem ob {a:Prop} (h:a) (k:Scr q p):Scr q (a∧p):=⟨h,k⟩
end
theorem nz0 {b:Int} {u:Unit} (h:nzI b=some u):b≠0:=by
 unfold nzI at h;split at h
 ·cases h
 ·assumption
theorem nn0 {b:Int} {u:Unit} (h:nnI b=some u):0≤b:=by
 unfold nnI at h;split at h
 ·assumption
 ·cases h
def Zoq (f:Func):Code:=f.body.getD .skip
def at_:List Nat→Code→List It→List It
 | 0::p,.seq a b,k=>at_ p a (.c b::k)
 | _::p,.seq _ b,k=>at_ p b k
 | 0::p,.cond _ a _,k=>at_ p a k
 | _::p,.cond _ _ b,k=>at_ p b k
 | _::p,.block i c,k=>at_ p c (.blk i::k)
 | _::p,.loop c,k=>at_ p c (.c (.loop c)::k)
 | _,c,k=>.c c::k
end Go.Proofs.YtciimjnpdmmfnaaGreat.Ev
namespace Go.Proofs.YtciimjnpdmmfnaaGreat.Ev
open Go Go.Proofs
set_option linter.unusedVariables false
structure GL1Cur where
 b:List Int
 i:Int
 h:Int
 deriving DecidableEq
structure GMConf where
 weight:Int
 prio:Bool
 every:Int
 cap:Int
 deriving DecidableEq
structure GConf where
 masters:List GMConf
 quantum:Int
 maxWait:Int
 maxRetry:Int
 maxSplit:Int
 lockMost:Int
 deriving DecidableEq
structure GReq where
 write:Bool
 addr:Int
 size:Int
 burst:Int
 lock:Bool
 data_:List Int
 deriving DecidableEq
structure GMst where
 queue:List GReq
 beat:Int
 done:Int
 tries:Int
 parted:Bool
 broken:Bool
 deriving DecidableEq
structure GWrr where
 at_:Int
 credit:Int
 deriving DecidableEq
structure GBucket where
 tokens:Int
 count:Int
 deriving DecidableEq
structure GBeat where
 live:Bool
 who:Int
 beat:Int
 first:Bool
 by_:Int
 left:Int
 resp:Int
 second:Bool
 deriving DecidableEq
structure GDev where
 regs:List Int
 timer:Int
 fifo:List Int
 deriving DecidableEq
structure GModel where
 mem:List Int
 dev:GDev
 deriving DecidableEq
structure GDone where
 cycle:Int
 who:Int
 write:Bool
 addr:Int
 size:Int
 value:Int
 resp:Int
 deriving DecidableEq
structure GBus where
 conf:GConf
 now:Int
 m:List GMst
 arb:GWrr
 buckets:List GBucket
 splits:List Int
 holder:Int
 held:Int
 last:Int
 addr:GBeat
 data_:GBeat
 model:GModel
 picks:Int
 log:List GDone
 deriving DecidableEq
structure GPost where
 at_:Int
 who:Int
 req:GReq
 deriving DecidableEq
structure GScript where
 posts:List GPost
 waits:List Int
 says:List Int
 deriving DecidableEq
structure GWave where
 cycle:Int
 addr:Int
 kind:Int
 who:Int
 data_:Int
 from_:Int
 ready:Bool
 resp:Int
 got:Int
 deriving DecidableEq
abbrev GMConf.z0:GMConf:=⟨0,false,0,0⟩
abbrev GConf.z0:GConf:=⟨[],0,0,0,0,0⟩
abbrev GReq.z0:GReq:=⟨false,0,0,0,false,[]⟩
abbrev GMst.z0:GMst:=⟨[],0,0,0,false,false⟩
abbrev GWrr.z0:GWrr:=⟨0,0⟩
abbrev GBucket.z0:GBucket:=⟨0,0⟩
abbrev GBeat.z0:GBeat:=⟨false,0,0,false,0,0,0,false⟩
abbrev GDev.z0:GDev:=⟨[],0,[]⟩
abbrev GModel.z0:GModel:=⟨[],GDev.z0⟩
abbrev GDone.z0:GDone:=⟨0,0,false,0,0,0,0⟩
abbrev GBus.z0:GBus:=⟨GConf.z0,0,[],GWrr.z0,[],[],0,0,0,GBeat.z0,GBeat.z0,GModel.z0,0,[]⟩
abbrev GScript.z0:GScript:=⟨[],[],[]⟩
abbrev GWave.z0:GWave:=⟨0,0,0,0,0,0,false,0,0⟩
def Zzb (x0:List Int):Option Bool:=
 some (decide ((x0.length:Int) > 1048576))
def Zh3 (x0:List Int) (k_L1:Int→Int→Option GL1Cur) (v0:Int) (v1:Int) (v2:Bool):Option GL1Cur:=
 if v2=true then (
  (idx x0 v1).bind fun a0=>
  k_L1 (andW (addW (addW (mulW v0 131) (w64 a0)) 7) 1073741823) (addW v1 1))
 else (
  some (GL1Cur.mk x0 0 v0))
def Zko (x0:List Int)  (k:Int→Int→Option GL1Cur) (v0:Int) (v1:Int):Option GL1Cur:=
 if decide (v1 < (x0.length:Int))=true then (
  Zh3 x0 k v0 v1 (decide (v1 < 4000)))
 else (
  Zh3 x0 k v0 v1 false)
def Zbc (x0:List Int)  : Nat→Int→Int→Option GL1Cur
 | 0,_,_=>none
 | m+1,v0,v1=>Zko x0  (Zbc x0  m) v0 v1
def Zmk (x0:List Int):Option GL1Cur:=
 Zbc x0 FU (addW 10101 (x0.length:Int)) 0
def Zbi (x0:GL1Cur):Option (Int×GL1Cur):=
 if decide (x0.i < (x0.b.length:Int))=true then (
  (idx x0.b x0.i).bind fun a0=>
  some ((andW (addW (andW (xorW (shrW (addW (mulW x0.h 6364136223846793005) 1442695040888963407) 33) (shrW (addW (mulW x0.h 6364136223846793005) 1442695040888963407) 45)) 255) (w64 a0)) 255),(GL1Cur.mk x0.b (addW x0.i 1) (addW (mulW x0.h 6364136223846793005) 1442695040888963407))))
 else (
  some ((andW (xorW (shrW (addW (mulW x0.h 6364136223846793005) 1442695040888963407) 33) (shrW (addW (mulW x0.h 6364136223846793005) 1442695040888963407) 45)) 255),{x0 with h:=(addW (mulW x0.h 6364136223846793005) 1442695040888963407)}))
def Zl (x0:GL1Cur) (x1:Int):Option (Int×GL1Cur):=
 if decide (x1≤0)=true then (
  some (0,x0))
 else (
  if decide (x1≤256)=true then (
   (Zbi x0).bind fun r0=>
   (nzI x1).bind fun n0=>
   some ((remW r0.1 x1),r0.2))
  else (
   (Zbi x0).bind fun r1=>
   (Zbi r1.2).bind fun r2=>
   (Zbi r2.2).bind fun r3=>
   (Zbi r3.2).bind fun r4=>
   (nzI x1).bind fun n1=>
   some ((remW (addW (addW (addW (mulW r1.1 16777216) (mulW r2.1 65536)) (mulW r3.1 256)) r4.1) x1),r4.2)))
def Zbf (x0:GL1Cur) (x1:Int):Option (Bool×GL1Cur):=
 (Zl x0 x1).bind fun r0=>
 some (decide (r0.1=0),r0.2)
def Zj (x0:Int) (x1:Int) (x2:Int):Option Bool:=
 if decide (x0≥x1)=true then (
  some (decide (x0≤x2)))
 else (
  some false)
def Zg7 (x0:GConf)  (v0:Bool):Option Int:=
 if v0=true then (
  some 0)
 else (
  some (mulW (addW x0.maxRetry 2) (addW x0.maxWait 6)))
def Jw (x0:GConf):Option Int:=
 (Zj x0.maxRetry 0 3).bind fun r0=>
 if (!r0)=true then (
  Zg7 x0 true)
 else (
  (Zj x0.maxWait 0 3).bind fun r1=>
  Zg7 x0 (!r1))
def Qs (x0:GConf):Option Int:=
 (Jw x0).bind fun r0=>
 if decide (r0=0)=true then (
  some 0)
 else (
  (Zj x0.lockMost 1 40).bind fun r1=>
  if (!r1)=true then (
   some 0)
  else (
   (Jw x0).bind fun r2=>
   some (addW (mulW 2 r2) x0.lockMost)))
def Zkh (x0:GL1Cur)  (k:GL1Cur→GConf→Int→Option (GConf×GL1Cur)) (vb0:GL1Cur) (vb1:GConf) (v0:Int):Option (GConf×GL1Cur):=
 if decide (v0 > 0)=true then (
  (Zl vb0 3).bind fun r0=>
  (appI 32 vb1.masters [(GMConf.mk (addW 1 r0.1) false 0 0)]).bind fun z0=>
  k r0.2 {vb1 with masters:=z0} (subW v0 1))
 else (
  (Zbf vb0 2).bind fun r1=>
  if r1.1=true then (
   (Zl r1.2 (vb1.masters.length:Int)).bind fun r2=>
   (idx vb1.masters r2.1).bind fun a0=>
   (setO vb1.masters r2.1 {a0 with prio:=true}).bind fun y0=>
   (Qs {vb1 with masters:=y0}).bind fun r3=>
   (Zl r2.2 30).bind fun r4=>
   (idx y0 r2.1).bind fun a1=>
   (setO y0 r2.1 {a1 with every:=(addW (mulW 2 r3) r4.1)}).bind fun y1=>
   (Zl r4.2 4).bind fun r5=>
   (idx y1 r2.1).bind fun a2=>
   (setO y1 r2.1 {a2 with cap:=(addW 1 r5.1)}).bind fun y2=>
   some ({vb1 with masters:=y2},r5.2))
  else (
   some (vb1,r1.2)))
def Zai (x0:GL1Cur)  : Nat→GL1Cur→GConf→Int→Option (GConf×GL1Cur)
 | 0,_,_,_=>none
 | m+1,vb0,vb1,v0=>Zkh x0  (Zai x0  m) vb0 vb1 v0
def Zjl (x0:GL1Cur):Option (GConf×GL1Cur):=
 (Zl x0 3).bind fun r6=>
 (Zl r6.2 3).bind fun r7=>
 (Zl r7.2 3).bind fun r8=>
 (Zl r8.2 6).bind fun r9=>
 (Zl r9.2 12).bind fun r10=>
 (Zl r10.2 4).bind fun r11=>
 Zai x0 FU r11.2 (GConf.mk [] (addW 1 r6.1) r7.1 r8.1 (addW 1 r9.1) (addW 1 r10.1)) (addW 1 r11.1)
def Yn (x0:GL1Cur) (x1:List Int):Option (Int×GL1Cur):=
 (Zl x0 (x1.length:Int)).bind fun r0=>
 (idx x1 r0.1).bind fun a0=>
 some (a0,r0.2)
def Zpx (x0:GL1Cur):Option (GConf×GL1Cur):=
 (Zjl x0).bind fun r0=>
 (Zl r0.2 14).bind fun r1=>
 if decide (r1.1=0)=true then (
  (Yn r1.2 [0,5]).bind fun r2=>
  (idx r0.1.masters 0).bind fun a0=>
  (setO r0.1.masters 0 {a0 with weight:=r2.1}).bind fun y0=>
  some ({r0.1 with masters:=y0},r2.2))
 else (
  if decide (r1.1=1)=true then (
   (idx r0.1.masters 0).bind fun a1=>
   (setO r0.1.masters 0 {a1 with prio:=(!a1.prio)}).bind fun y1=>
   some ({r0.1 with masters:=y1},r1.2))
  else (
   if decide (r1.1=2)=true then (
    (Yn r1.2 [0,5,4]).bind fun r3=>
    some ({r0.1 with quantum:=r3.1},r3.2))
   else (
    if decide (r1.1=3)=true then (
     (Yn r1.2 [(-1),4,3]).bind fun r4=>
     some ({r0.1 with maxWait:=r4.1},r4.2))
    else (
     if decide (r1.1=4)=true then (
      (Yn r1.2 [0,13]).bind fun r5=>
      some ({r0.1 with maxSplit:=r5.1},r5.2))
     else (
      if decide (r1.1=5)=true then (
       some ({r0.1 with masters:=[]},r1.2))
      else (
       if decide (r1.1=6)=true then (
        (Yn r1.2 [(-1),4,3]).bind fun r6=>
        some ({r0.1 with maxRetry:=r6.1},r6.2))
       else (
        some (r0.1,r1.2))))))))
def Q2 (x0:Int):Option Int:=
 (Zj x0 0 2).bind fun r0=>
 if (!r0)=true then (
  some 0)
 else (
  (nnI x0).bind fun n0=>
  some (shlW 1 x0))
def Qm (x0:Int):Option Int:=
 (Zj x0 0 3).bind fun r0=>
 if (!r0)=true then (
  some 0)
 else (
  (idx [1,4,4,8] x0).bind fun a0=>
  some a0)
def J4 (x0:Int) (x1:Int):Option Bool:=
 (Q2 x1).bind fun r0=>
 if decide (r0 > 0)=true then (
  if decide (x0≥0)=true then (
   (Q2 x1).bind fun r1=>
   (nzI r1).bind fun n0=>
   some (decide ((remW x0 r1)=0)))
  else (
   some false))
 else (
  some false)
def Zec (x0:Int) (x1:Int) (x2:Int)  (v0:Int) (v1:Bool):Option Int:=
 if v1=true then (
  some (subW (addW x0 v0) (mulW 4 v0)))
 else (
  some (addW x0 v0))
def Zap (x0:Int) (x1:Int) (x2:Int)  (v0:Int) (v2:Bool):Option Int:=
 if v2=true then (
  some (-1))
 else (
  if decide (x2=2)=true then (
   (nzI (mulW 4 v0)).bind fun n0=>
   Zec x0 x1 x2 v0 (decide ((remW (addW x0 v0) (mulW 4 v0))=0)))
  else (
   Zec x0 x1 x2 v0 false))
def Zgo (x0:Int) (x1:Int) (x2:Int):Option Int:=
 (Q2 x1).bind fun r0=>
 (J4 x0 x1).bind fun r1=>
 if (!r1)=true then (
  Zap x0 x1 x2 r0 true)
 else (
  (Zj x0 0 511).bind fun r2=>
  if (!r2)=true then (
   Zap x0 x1 x2 r0 true)
  else (
   (Qm x2).bind fun r3=>
   Zap x0 x1 x2 r0 (decide (r3=0))))
def Jb (x0:Int) (x1:Int) (x2:Int) (k_L1:Int→(List Int)→Option (List Int)) (v0:Int) (v1:List Int) (v2:Bool):Option (List Int):=
 if v2=true then (
  (appI 8 v1 [v0]).bind fun z0=>
  (Zgo v0 x1 x2).bind fun r0=>
  k_L1 r0 z0)
 else (
  (Qm x2).bind fun r1=>
  if decide ((v1.length:Int) < r1)=true then (
   some [])
  else (
   some v1))
def Kn (x0:Int) (x1:Int) (x2:Int)  (k:Int→(List Int)→Option (List Int)) (v0:Int) (v1:List Int):Option (List Int):=
 (Qm x2).bind fun r2=>
 if decide ((v1.length:Int) < r2)=true then (
  (Zgo v0 x1 x2).bind fun r3=>
  Jb x0 x1 x2 k v0 v1 (decide (r3≥0)))
 else (
  Jb x0 x1 x2 k v0 v1 false)
def Zbo (x0:Int) (x1:Int) (x2:Int)  : Nat→Int→(List Int)→Option (List Int)
 | 0,_,_=>none
 | m+1,v0,v1=>Kn x0 x1 x2  (Zbo x0 x1 x2  m) v0 v1
def Zg6 (x0:Int) (x1:Int) (x2:Int):Option (List Int):=
 Zbo x0 x1 x2 FU x0 []
def Zik (x0:Int) (x1:Int) (x2:Int)  (k:(List Int)→Int→Option Bool) (v0:List Int) (v1:Int):Option Bool:=
 if decide (v1 < (v0.length:Int))=true then (
  (idx v0 v1).bind fun a0=>
  (idx v0 0).bind fun a1=>
  if decide ((quoW a0 64)≠(quoW a1 64))=true then (
   some false)
  else (
   k v0 (addW v1 1)))
 else (
  some (decide ((v0.length:Int) > 0)))
def Zfu (x0:Int) (x1:Int) (x2:Int)  : Nat→(List Int)→Int→Option Bool
 | 0,_,_=>none
 | m+1,v0,v1=>Zik x0 x1 x2  (Zfu x0 x1 x2  m) v0 v1
def Zhs (x0:Int) (x1:Int) (x2:Int):Option Bool:=
 (Zg6 x0 x1 x2).bind fun r0=>
 Zfu x0 x1 x2 FU r0 0
def Wx (x0:Int):Option Int:=
 (Q2 x0).bind fun r0=>
 if decide (r0=0)=true then (
  some 0)
 else (
  (Q2 x0).bind fun r1=>
  (nnI (mulW 8 r1)).bind fun n0=>
  some (shlW 1 (mulW 8 r1)))
def Zh5 (x0:GL1Cur) (k_L1:GL1Cur→GReq→Int→Option (GReq×GL1Cur)) (vb0:GL1Cur) (vb1:GReq) (v0:Int) (v1:Bool):Option (GReq×GL1Cur):=
 if v1=true then (
  (Wx vb1.size).bind fun r0=>
  (Wx vb1.size).bind fun r1=>
  (Yn vb0 [(minI r0 1000),r1]).bind fun r2=>
  (Zl r2.2 r2.1).bind fun r3=>
  (appI 8 vb1.data_ [r3.1]).bind fun z0=>
  k_L1 r3.2 {vb1 with data_:=z0} (addW v0 1))
 else (
  some (vb1,vb0))
def Zkt (x0:GL1Cur)  (k:GL1Cur→GReq→Int→Option (GReq×GL1Cur)) (vb0:GL1Cur) (vb1:GReq) (v0:Int):Option (GReq×GL1Cur):=
 (Qm vb1.burst).bind fun r4=>
 if decide (v0 < r4)=true then (
  Zh5 x0 k vb0 vb1 v0 vb1.write)
 else (
  Zh5 x0 k vb0 vb1 v0 false)
def Zbe (x0:GL1Cur)  : Nat→GL1Cur→GReq→Int→Option (GReq×GL1Cur)
 | 0,_,_,_=>none
 | m+1,vb0,vb1,v0=>Zkt x0  (Zbe x0  m) vb0 vb1 v0
def Zes (x0:GL1Cur)  (vb0:GL1Cur) (vb1:GReq):Option (GReq×GL1Cur):=
 Zbe x0 FU vb0 vb1 0
def Ziw (x0:GL1Cur):Option (GReq×GL1Cur):=
 (Zbf x0 2).bind fun r5=>
 (Yn r5.2 [2,2,2,0,1]).bind fun r6=>
 (Yn r6.2 [0,0,1,2,3]).bind fun r7=>
 (Zbf r7.2 6).bind fun r8=>
 (Q2 r6.1).bind fun r9=>
 (Zl r8.2 128).bind fun r10=>
 (Zl r10.2 128).bind fun r11=>
 (Zl r11.2 64).bind fun r12=>
 (Zl r12.2 40).bind fun r13=>
 (Zl r13.2 512).bind fun r14=>
 (Yn r14.2 [r10.1,r11.1,(addW 128 r12.1),(addW 192 r13.1),r14.1]).bind fun r15=>
 (nzI r9).bind fun n0=>
 (Zhs (mulW (quoW r15.1 r9) r9) r6.1 r7.1).bind fun r16=>
 if (!r16)=true then (
  Zes x0 r15.2 (GReq.mk r5.1 (mulW (quoW r15.1 r9) r9) r6.1 0 r8.1 []))
 else (
  Zes x0 r15.2 (GReq.mk r5.1 (mulW (quoW r15.1 r9) r9) r6.1 r7.1 r8.1 []))
def Zhr (x0:GL1Cur):Option (Int×GL1Cur):=
 (Zl x0 6).bind fun r0=>
 some ((subW r0.1 1),r0.2)
def Zi4 (x0:GL1Cur):Option (GReq×GL1Cur):=
 (Ziw x0).bind fun r0=>
 (Zl r0.2 12).bind fun r1=>
 if decide (r1.1=0)=true then (
  (Yn r1.2 [(-4),510,512,61]).bind fun r2=>
  some ({r0.1 with addr:=r2.1},r2.2))
 else (
  if decide (r1.1=1)=true then (
   some ({r0.1 with write:=(!r0.1.write)},r1.2))
  else (
   if decide (r1.1=2)=true then (
    (Zhr r1.2).bind fun r3=>
    some ({r0.1 with size:=r3.1},r3.2))
   else (
    if decide (r1.1=3)=true then (
     (Zhr r1.2).bind fun r4=>
     some ({r0.1 with burst:=r4.1},r4.2))
    else (
     if decide (r1.1=4)=true then (
      (appI 8 r0.1.data_ [1]).bind fun z0=>
      some ({r0.1 with data_:=z0},r1.2))
     else (
      some (r0.1,r1.2))))))
def Zx (x0:Int) (x1:Int) (x2:Int):Option Bool:=
 if decide (x1≤x0)=true then (
  some (decide (x0≤x2)))
 else (
  some false)
def Zkw (x0:GConf)  (v0:Bool):Option Int:=
 if v0=true then (
  some 0)
 else (
  some (mulW (addW x0.maxRetry 2) (addW x0.maxWait 6)))
def Zdo (x0:GConf):Option Int:=
 (Zx x0.maxRetry 0 3).bind fun r0=>
 if (!r0)=true then (
  Zkw x0 true)
 else (
  (Zx x0.maxWait 0 3).bind fun r1=>
  Zkw x0 (!r1))
def Zbz (x0:GConf):Option Int:=
 (Zdo x0).bind fun r0=>
 if decide (r0=0)=true then (
  some 0)
 else (
  (Zx x0.lockMost 1 40).bind fun r1=>
  if (!r1)=true then (
   some 0)
  else (
   (Zdo x0).bind fun r2=>
   some (addW (mulW 2 r2) x0.lockMost)))
def Zkv (x0:GConf)  (k:Int→Int→Option Int) (v0:Int) (v1:Int):Option Int:=
 if decide (v1 < (x0.masters.length:Int))=true then (
  (idx x0.masters v1).bind fun a0=>
  if a0.prio=true then (
   k (addW v0 1) (addW v1 1))
  else (
   k v0 (addW v1 1)))
 else (
  some v0)
def Zh4 (x0:GConf)  : Nat→Int→Int→Option Int
 | 0,_,_=>none
 | m+1,v0,v1=>Zkv x0  (Zh4 x0  m) v0 v1
def Zp3 (x0:GConf):Option Int:=
 Zh4 x0 FU 0 0
def Zhf (x0:GConf):Option Int:=
 (Zbz x0).bind fun r0=>
 (Zp3 x0).bind fun r1=>
 some (mulW (mulW 2 r0) r1)
def Zjg (x0:GMConf) (x1:GConf):Option Bool:=
 (Zx x0.weight 1 4).bind fun r0=>
 if (!r0)=true then (
  some true)
 else (
  if x0.prio=true then (
   (Zhf x1).bind fun r1=>
   (Zx x0.every r1 1000).bind fun r2=>
   if (!r2)=true then (
    some true)
   else (
    (Zx x0.cap 1 8).bind fun r3=>
    some (!r3)))
  else (
   if decide (x0.every≠0)=true then (
    some true)
   else (
    some (decide (x0.cap≠0)))))
def Xt (x0:List GMConf) (x1c0:GConf)  (k:Int→Option Int) (v0:Int):Option Int:=
 if decide (v0 < (x0.length:Int))=true then (
  (idx x0 v0).bind fun a0=>
  (Zjg a0 x1c0).bind fun r0=>
  if r0=true then (
   some v0)
  else (
   k (addW v0 1)))
 else (
  some (-1))
def Z4 (x0:List GMConf) (x1c0:GConf)  : Nat→Int→Option Int
 | 0,_=>none
 | m+1,v0=>Xt x0 x1c0  (Z4 x0 x1c0  m) v0
def Wf (x0:List GMConf) (x1c0:GConf):Option Int:=
 Z4 x0 x1c0 FU 0
def Y3 (x0:List GMConf) (x1c0:GConf):Option Bool:=
 (Wf x0 x1c0).bind fun r0=>
 some (decide (r0≥0))
def K8 (x0:GConf):Option Bool:=
 (Zx (x0.masters.length:Int) 1 4).bind fun r0=>
 if (!r0)=true then (
  some false)
 else (
  (Zx x0.quantum 1 4).bind fun r1=>
  if (!r1)=true then (
   some false)
  else (
   (Zx x0.maxSplit 1 12).bind fun r2=>
   if (!r2)=true then (
    some false)
   else (
    (Zbz x0).bind fun r3=>
    if decide (r3=0)=true then (
     some false)
    else (
     (Y3 x0.masters x0).bind fun r4=>
     some (!r4)))))
def Qp (x0:List GMConf):Option (List GMConf):=appI 32 [] x0
def Zhy (x0:GConf):Option GConf:=
 (Qp x0.masters).bind fun r0=>
 some {x0 with masters:=r0}
def Zw2  : Option GDev:=
 (mkI 8 4 0).bind fun m0=>
 some (GDev.mk m0 0 [])
def Zkg  : Option GModel:=
 (mkI 8 192 0).bind fun m0=>
 (Zw2).bind fun r0=>
 some (GModel.mk m0 r0)
def Zib (x0:GMConf):Option GBucket:=
 if (!x0.prio)=true then (
  some GBucket.z0)
 else (
  some (GBucket.mk (maxI x0.cap 0) 0))
def Zfa (x0:GConf)  (k:GBus→Int→Option (GBus×Bool)) (vb0:GBus) (v0:Int):Option (GBus×Bool):=
 if decide (v0 < (x0.masters.length:Int))=true then (
  (idx x0.masters v0).bind fun a0=>
  (appI 56 vb0.m [GMst.z0]).bind fun z0=>
  (Zib a0).bind fun r0=>
  (appI 16 vb0.buckets [r0]).bind fun z1=>
  (appI 8 vb0.splits [0]).bind fun z2=>
  k {vb0 with m:=z0,buckets:=z1,splits:=z2} (addW v0 1))
 else (
  some (vb0,true))
def Zgq (x0:GConf)  : Nat→GBus→Int→Option (GBus×Bool)
 | 0,_,_=>none
 | m+1,vb0,v0=>Zfa x0  (Zgq x0  m) vb0 v0
def Zna (x0:GConf):Option (GBus×Bool):=
 (K8 x0).bind fun r1=>
 if (!r1)=true then (
  some (GBus.z0,false))
 else (
  (Zhy x0).bind fun r2=>
  (Zkg).bind fun r3=>
  Zgq x0 FU (GBus.mk r2 0 [] GWrr.z0 [] [] (-1) 0 (-1) GBeat.z0 GBeat.z0 r3 0 []) 0)
def Zb4 (x0:Int):Option Int:=
 (Zx x0 0 3).bind fun r0=>
 if (!r0)=true then (
  some 0)
 else (
  (idx [1,4,4,8] x0).bind fun a0=>
  some a0)
def Ql (x0:Int):Option Int:=
 (Zx x0 0 2).bind fun r0=>
 if (!r0)=true then (
  some 0)
 else (
  (nnI x0).bind fun n0=>
  some (shlW 1 x0))
def Zcf (x0:Int) (x1:Int):Option Bool:=
 (Zx x1 0 2).bind fun r0=>
 if r0=true then (
  if decide (x0≥0)=true then (
   (Ql x1).bind fun r1=>
   (nzI r1).bind fun n0=>
   some (decide ((remW x0 r1)=0)))
  else (
   some false))
 else (
  some false)
def Zax (x0:Int) (x1:Int) (x2:Int)  (v0:Bool):Option Int:=
 if v0=true then (
  some (-1))
 else (
  (Ql x1).bind fun r0=>
  (Ql x1).bind fun r1=>
  if decide (x2=2)=true then (
   (nzI (mulW 4 r1)).bind fun n0=>
   if decide ((remW (addW x0 r0) (mulW 4 r1))=0)=true then (
    some (subW (addW x0 r0) (mulW 4 r1)))
   else (
    some (addW x0 r0)))
  else (
   some (addW x0 r0)))
def Zjd (x0:Int) (x1:Int) (x2:Int):Option Int:=
 (Zcf x0 x1).bind fun r2=>
 if (!r2)=true then (
  Zax x0 x1 x2 true)
 else (
  if decide (x0≥512)=true then (
   Zax x0 x1 x2 true)
  else (
   (Zb4 x2).bind fun r3=>
   Zax x0 x1 x2 (decide (r3=0))))
def Kl (x0:Int) (x1:Int) (x2:Int)  (k:Int→(List Int)→Int→Int→Option (List Int)) (v0:Int) (v1:List Int) (v2:Int) (v3:Int):Option (List Int):=
 if decide (v3 < v2)=true then (
  (Zjd v0 x1 x2).bind fun r0=>
  if decide (r0 < 0)=true then (
   some [])
  else (
   (appI 8 v1 [v0]).bind fun z0=>
   k r0 z0 v2 (addW v3 1)))
 else (
  some v1)
def Zbp (x0:Int) (x1:Int) (x2:Int)  : Nat→Int→(List Int)→Int→Int→Option (List Int)
 | 0,_,_,_,_=>none
 | m+1,v0,v1,v2,v3=>Kl x0 x1 x2  (Zbp x0 x1 x2  m) v0 v1 v2 v3
def Zdc (x0:Int) (x1:Int) (x2:Int):Option (List Int):=
 (Zb4 x2).bind fun r1=>
 Zbp x0 x1 x2 FU x0 [] r1 0
def Zij (x0:Int) (x1:Int) (x2:Int)  (k:(List Int)→Int→Int→Option Bool) (v0:List Int) (v1:Int) (v2:Int):Option Bool:=
 if decide (v2 < v1)=true then (
  (idx v0 v2).bind fun a0=>
  (idx v0 0).bind fun a1=>
  if decide ((quoW a0 64)≠(quoW a1 64))=true then (
   some false)
  else (
   k v0 v1 (addW v2 1)))
 else (
  some (decide ((v0.length:Int) > 0)))
def Zfh (x0:Int) (x1:Int) (x2:Int)  : Nat→(List Int)→Int→Int→Option Bool
 | 0,_,_,_=>none
 | m+1,v0,v1,v2=>Zij x0 x1 x2  (Zfh x0 x1 x2  m) v0 v1 v2
def Zk8 (x0:Int) (x1:Int) (x2:Int):Option Bool:=
 (Zdc x0 x1 x2).bind fun r0=>
 Zfh x0 x1 x2 FU r0 (r0.length:Int) 0
def Zht (x0:Int):Option Int:=
 (Ql x0).bind fun r0=>
 if decide (r0=0)=true then (
  some 0)
 else (
  (Ql x0).bind fun r1=>
  (nnI (mulW 8 r1)).bind fun n0=>
  some (shlW 1 (mulW 8 r1)))
def Zaa (x0:Int) (x1:Int):Option Bool:=
 (Zht x1).bind fun r0=>
 (Zx x0 0 (subW r0 1)).bind fun r1=>
 some r1
def Zls (x0:Int) (x1:GReq):Option Bool:=
 (Zaa x0 x1.size).bind fun r0=>
 some (!r0)
def Zcv (x0:List Int) (x1c0:GReq)  (k:Int→Option Int) (v0:Int):Option Int:=
 if decide (v0 < (x0.length:Int))=true then (
  (idx x0 v0).bind fun a0=>
  (Zls a0 x1c0).bind fun r0=>
  if r0=true then (
   some v0)
  else (
   k (addW v0 1)))
 else (
  some (-1))
def Wh (x0:List Int) (x1c0:GReq)  : Nat→Int→Option Int
 | 0,_=>none
 | m+1,v0=>Zcv x0 x1c0  (Wh x0 x1c0  m) v0
def W2 (x0:List Int) (x1c0:GReq):Option Int:=
 Wh x0 x1c0 FU 0
def Xf (x0:List Int) (x1c0:GReq):Option Bool:=
 (W2 x0 x1c0).bind fun r0=>
 some (decide (r0≥0))
def Zie (x0:GReq)  (v0:Int):Option Bool:=
 (Zk8 x0.addr x0.size x0.burst).bind fun r0=>
 if r0=true then (
  if decide ((x0.data_.length:Int)=v0)=true then (
   (Xf x0.data_ x0).bind fun r1=>
   some (!r1))
  else (
   some false))
 else (
  some false)
def Zf3 (x0:GReq):Option Bool:=
 if x0.write=true then (
  (Zb4 x0.burst).bind fun r2=>
  Zie x0 r2)
 else (
  Zie x0 0)
def Yf (x0:List Int):Option (List Int):=appI 8 [] x0
def Zdq (x0:GReq):Option GReq:=
 (Yf x0.data_).bind fun r0=>
 some {x0 with data_:=r0}
def Zyz (x0:GMst)  (k:(List GReq)→Int→Option GMst) (v0:List GReq) (v1:Int):Option GMst:=
 if decide (v1 < (x0.queue.length:Int))=true then (
  (idx x0.queue v1).bind fun a0=>
  (Zdq a0).bind fun r0=>
  (appI 64 v0 [r0]).bind fun z0=>
  k z0 (addW v1 1))
 else (
  some {x0 with queue:=v0})
def Zhc (x0:GMst)  : Nat→(List GReq)→Int→Option GMst
 | 0,_,_=>none
 | m+1,v0,v1=>Zyz x0  (Zhc x0  m) v0 v1
def Zb0 (x0:GMst):Option GMst:=
 Zhc x0 FU [] 0
def Qa (x0:List GBucket):Option (List GBucket):=appI 16 [] x0
def Zjc (x0:GDev):Option GDev:=
 (Yf x0.regs).bind fun r0=>
 (Yf x0.fifo).bind fun r1=>
 some (GDev.mk r0 x0.timer r1)
def Zct (x0:GModel):Option GModel:=
 (Yf x0.mem).bind fun r0=>
 (Zjc x0.dev).bind fun r1=>
 some (GModel.mk r0 r1)
def Q6 (x0:List GDone):Option (List GDone):=appI 56 [] x0
def Zfv (x0:GBus)  (k:GBus→(List GMst)→Int→Option GBus) (vb0:GBus) (v0:List GMst) (v1:Int):Option GBus:=
 if decide (v1 < (x0.m.length:Int))=true then (
  (idx x0.m v1).bind fun a0=>
  (Zb0 a0).bind fun r0=>
  (appI 56 v0 [r0]).bind fun z0=>
  k vb0 z0 (addW v1 1))
 else (
  (Qa vb0.buckets).bind fun r1=>
  (Yf vb0.splits).bind fun r2=>
  (Zct vb0.model).bind fun r3=>
  (Q6 vb0.log).bind fun r4=>
  some {vb0 with m:=v0,buckets:=r1,splits:=r2,model:=r3,log:=r4})
def Zdb (x0:GBus)  : Nat→GBus→(List GMst)→Int→Option GBus
 | 0,_,_,_=>none
 | m+1,vb0,v0,v1=>Zfv x0  (Zdb x0  m) vb0 v0 v1
def Zj5 (x0:GBus):Option GBus:=
 (Zhy x0.conf).bind fun r5=>
 Zdb x0 FU {x0 with conf:=r5} [] 0
def Zbn (x0:GReq):Option Bool:=
 (Zf3 x0).bind fun r0=>
 some (!r0)
def Zag (x0:List GReq)  (k:Int→Option Int) (v0:Int):Option Int:=
 if decide (v0 < (x0.length:Int))=true then (
  (idx x0 v0).bind fun a0=>
  (Zbn a0).bind fun r0=>
  if r0=true then (
   some v0)
  else (
   k (addW v0 1)))
 else (
  some (-1))
def Xp (x0:List GReq)  : Nat→Int→Option Int
 | 0,_=>none
 | m+1,v0=>Zag x0  (Xp x0  m) v0
def X2 (x0:List GReq):Option Int:=
 Xp x0 FU 0
def Yz (x0:List GReq):Option Bool:=
 (X2 x0).bind fun r0=>
 some (decide (r0≥0))
def Kh (x0:GMst):Option Int:=
 if decide ((x0.queue.length:Int)=0)=true then (
  some 0)
 else (
  (idx x0.queue 0).bind fun a0=>
  (Zb4 a0.burst).bind fun r0=>
  some r0)
def Xg (x0:GMst)  (v0:Bool):Option Bool:=
 if v0=true then (
  some false)
 else (
  if decide ((x0.queue.length:Int)=0)=true then (
   if decide (x0.beat=0)=true then (
    if decide (x0.done=0)=true then (
     if decide (x0.tries=0)=true then (
      if (!x0.parted)=true then (
       some (!x0.broken))
      else (
       some false))
     else (
      some false))
    else (
     some false))
   else (
    some false))
  else (
   (Kh x0).bind fun r0=>
   (Zx x0.done 0 (subW r0 1)).bind fun r1=>
   if r1=true then (
    (Kh x0).bind fun r2=>
    (Zx x0.beat x0.done (minI (addW x0.done 2) r2)).bind fun r3=>
    some r3)
   else (
    some false)))
def Wr (x0:GMst):Option Bool:=
 if decide ((x0.queue.length:Int) > 4)=true then (
  Xg x0 true)
 else (
  if decide (x0.tries < 0)=true then (
   Xg x0 true)
  else (
   (Yz x0.queue).bind fun r4=>
   Xg x0 r4))
def Zgg (x0:GBucket) (x1:GMConf):Option Bool:=
 if (!x1.prio)=true then (
  some (decide (x0.tokens=0)&&(decide (x0.count=0)&&true)))
 else (
  (Zx x0.tokens 0 x1.cap).bind fun r0=>
  if r0=true then (
   if decide (x0.count≥0)=true then (
    some (decide (x0.count < x1.every)))
   else (
    some false))
  else (
   some false))
def Kj (x0:GBus)  (k:Int→Option Bool) (v0:Int):Option Bool:=
 if decide (v0 < (x0.m.length:Int))=true then (
  (idx x0.m v0).bind fun a0=>
  (Wr a0).bind fun r0=>
  if (!r0)=true then (
   some false)
  else (
   if decide (a0.tries > x0.conf.maxRetry)=true then (
    some false)
   else (
    (idx x0.buckets v0).bind fun a1=>
    (idx x0.conf.masters v0).bind fun a2=>
    (Zgg a1 a2).bind fun r1=>
    if (!r1)=true then (
     some false)
    else (
     (idx x0.splits v0).bind fun a3=>
     (Zx a3 0 x0.conf.maxSplit).bind fun r2=>
     if (!r2)=true then (
      some false)
     else (
      k (addW v0 1))))))
 else (
  some true)
def Zcd (x0:GBus)  : Nat→Int→Option Bool
 | 0,_=>none
 | m+1,v0=>Kj x0  (Zcd x0  m) v0
def X3 (x0:GBus)  (v1:Bool):Option Bool:=
 if v1=true then (
  some false)
 else (
  Zcd x0 FU 0)
def Zbg (x0:GBus):Option Bool:=
 if decide ((x0.m.length:Int)≠(x0.conf.masters.length:Int))=true then (
  X3 x0 true)
 else (
  if decide ((x0.buckets.length:Int)≠(x0.conf.masters.length:Int))=true then (
   X3 x0 true)
  else (
   X3 x0 (decide ((x0.splits.length:Int)≠(x0.conf.masters.length:Int)))))
def Wb (x0:GConf) (x1:Int):Option Bool:=
 (Zx x1 0 (subW (x0.masters.length:Int) 1)).bind fun r0=>
 some r0
def Zkj (x0:GConf) (x1:Int)  (v0:Bool):Option Int:=
 if v0=true then (
  some 0)
 else (
  (idx x0.masters x1).bind fun a0=>
  some (mulW a0.weight x0.quantum))
def Zdz (x0:GConf) (x1:Int):Option Int:=
 (K8 x0).bind fun r0=>
 if (!r0)=true then (
  Zkj x0 x1 true)
 else (
  (Wb x0 x1).bind fun r1=>
  Zkj x0 x1 (!r1))
def Zf4 (x0:GWrr) (x1:GConf):Option Bool:=
 (K8 x1).bind fun r0=>
 if r0=true then (
  (Wb x1 x0.at_).bind fun r1=>
  if r1=true then (
   (Zdz x1 x0.at_).bind fun r2=>
   (Zx x0.credit 0 r2).bind fun r3=>
   some r3)
  else (
   some false))
 else (
  some false)
def Znf (x0:Int):Option Bool:=
 (Zx x0 0 255).bind fun r0=>
 some (!r0)
def Zdf (x0:List Int)  (k:Int→Option Int) (v0:Int):Option Int:=
 if decide (v0 < (x0.length:Int))=true then (
  (idx x0 v0).bind fun a0=>
  (Znf a0).bind fun r0=>
  if r0=true then (
   some v0)
  else (
   k (addW v0 1)))
 else (
  some (-1))
def Wp (x0:List Int)  : Nat→Int→Option Int
 | 0,_=>none
 | m+1,v0=>Zdf x0  (Wp x0  m) v0
def W8 (x0:List Int):Option Int:=
 Wp x0 FU 0
def Xn (x0:List Int):Option Bool:=
 (W8 x0).bind fun r0=>
 some (decide (r0≥0))
def Zks (x0:List Int) (x1:Int) (x2:Int):Option Bool:=
 if decide ((x0.length:Int)≤512)=true then (
  (Xn x0).bind fun r0=>
  if (!r0)=true then (
   (Zcf x1 x2).bind fun r1=>
   if r1=true then (
    (Ql x2).bind fun r2=>
    some (decide (x1≤(subW (x0.length:Int) r2))))
   else (
    some false))
  else (
   some false))
 else (
  some false)
def Zlo (x0:Int):Option Bool:=
 (Zaa x0 2).bind fun r0=>
 some (!r0)
def Zc4 (x0:List Int)  (k:Int→Option Int) (v0:Int):Option Int:=
 if decide (v0 < (x0.length:Int))=true then (
  (idx x0 v0).bind fun a0=>
  (Zlo a0).bind fun r0=>
  if r0=true then (
   some v0)
  else (
   k (addW v0 1)))
 else (
  some (-1))
def Wg (x0:List Int)  : Nat→Int→Option Int
 | 0,_=>none
 | m+1,v0=>Zc4 x0  (Wg x0  m) v0
def W1 (x0:List Int):Option Int:=
 Wg x0 FU 0
def Yw (x0:List Int):Option Bool:=
 (W1 x0).bind fun r0=>
 some (decide (r0≥0))
def Zl8 (x0:GDev):Option Bool:=
 if decide ((x0.regs.length:Int)=4)=true then (
  if decide ((x0.fifo.length:Int)≤4)=true then (
   (Yw x0.regs).bind fun r0=>
   if (!r0)=true then (
    (Yw x0.fifo).bind fun r1=>
    if (!r1)=true then (
     (Zaa x0.timer 2).bind fun r2=>
     some r2)
    else (
     some false))
   else (
    some false))
  else (
   some false))
 else (
  some false)
def Zb9 (x0:GModel):Option Bool:=
 if decide ((x0.mem.length:Int)=192)=true then (
  (Zks x0.mem 0 0).bind fun r0=>
  if r0=true then (
   (Zl8 x0.dev).bind fun r1=>
   some r1)
  else (
   some false))
 else (
  some false)
def Zgp (x0:GBeat):Option Bool:=
 some (!x0.live)
def Za7 (x0:List GBeat)  (k:Int→Option Int) (v0:Int):Option Int:=
 if decide (v0 < (x0.length:Int))=true then (
  (idx x0 v0).bind fun a0=>
  (Zgp a0).bind fun r0=>
  if r0=true then (
   some v0)
  else (
   k (addW v0 1)))
 else (
  some (-1))
def Xx (x0:List GBeat)  : Nat→Int→Option Int
 | 0,_=>none
 | m+1,v0=>Za7 x0  (Xx x0  m) v0
def Wc (x0:List GBeat):Option Int:=
 Xx x0 FU 0
def Zan (x0:List GBeat)  (k:(List GBeat)→Int→Int→Option (List GBeat)) (v0:List GBeat) (v1:Int) (v2:Int):Option (List GBeat):=
 if decide (v2 < (v0.length:Int))=true then (
  (idx v0 v2).bind fun a0=>
  (Zgp a0).bind fun r0=>
  if (!r0)=true then (
   (idx v0 v1).bind fun a1=>
   (setO v0 v1 a0).bind fun y0=>
   k y0 (addW v1 1) (addW v2 1))
  else (
   k v0 v1 (addW v2 1)))
 else (
  (Kb v0 v1 (v0.length:Int)).bind fun s0=>
  (clrI GBeat.z0 v0 v1 (v0.length:Int)).bind fun y1=>
  (Kb y1 0 v1).bind fun s1=>
  some s1)
def Xu (x0:List GBeat)  : Nat→(List GBeat)→Int→Int→Option (List GBeat)
 | 0,_,_,_=>none
 | m+1,v0,v1,v2=>Zan x0  (Xu x0  m) v0 v1 v2
def Y7 (x0:List GBeat):Option (List GBeat):=
 (Wc x0).bind fun r1=>
 if decide (r1=(-1))=true then (
  some x0)
 else (
  Xu x0 FU x0 r1 (addW r1 1))
def Zjy (x0:GBus):Option (List GBeat):=
 (Y7 [x0.addr,x0.data_]).bind fun r0=>
 some r0
def Wn (x0:GBus) (k_L1:(List Int)→(List GBeat)→Int→Int→Option Bool) (vb0:GBeat) (v0:List Int) (v1:List GBeat) (v2:Int) (v3:Int) (v4:Bool):Option Bool:=
 if v4=true then (
  some false)
 else (
  (idx v0 vb0.who).bind fun a0=>
  (setO v0 vb0.who (addW a0 1)).bind fun y0=>
  k_L1 y0 v1 v2 (addW v3 1))
def Xz (x0:GBus)  (v5:Bool):Option Bool:=
 if v5=true then (
  some false)
 else (
  if (!x0.data_.second)=true then (
   some true)
  else (
   if decide (x0.data_.left=0)=true then (
    if decide (x0.data_.resp≠0)=true then (
     some (!x0.addr.live))
    else (
     some false))
   else (
    some false)))
def Q3 (x0:GBus)  (vb1:GMst) (v6:Bool):Option Bool:=
 if v6=true then (
  some false)
 else (
  if decide (x0.data_.resp=3)=true then (
   if vb1.parted=true then (
    Xz x0 true)
   else (
    Xz x0 (decide (x0.data_.who=x0.holder))))
  else (
   Xz x0 false))
def Qc (x0:GBus)  (vb1:GMst) (v7:Bool):Option Bool:=
 if v7=true then (
  some false)
 else (
  if decide (x0.data_.resp=2)=true then (
   Q3 x0 vb1 (decide (vb1.tries≥x0.conf.maxRetry)))
  else (
   Q3 x0 vb1 false))
def Yg (x0:GBus)  (v8:Bool):Option Bool:=
 if v8=true then (
  some false)
 else (
  if (!x0.data_.live)=true then (
   some ((x0.data_.live == false)&&(decide (x0.data_.who=0)&&(decide (x0.data_.beat=0)&&((x0.data_.first == false)&&(decide (x0.data_.by_=0)&&(decide (x0.data_.left=0)&&(decide (x0.data_.resp=0)&&((x0.data_.second == false)&&true)))))))))
  else (
   (idx x0.m x0.data_.who).bind fun a1=>
   if decide (x0.data_.beat≠a1.done)=true then (
    Qc x0 a1 true)
   else (
    (Zx x0.data_.left 0 (addW x0.conf.maxWait 2)).bind fun r0=>
    if (!r0)=true then (
     Qc x0 a1 true)
    else (
     (Zx x0.data_.resp 0 3).bind fun r1=>
     Qc x0 a1 (!r1)))))
def Y9 (x0:GBus)  (k:(List Int)→Int→Option Bool) (v0:List Int) (v9:Int):Option Bool:=
 if decide (v9 < (x0.m.length:Int))=true then (
  (idx x0.m v9).bind fun a2=>
  (idx v0 v9).bind fun a3=>
  if decide ((subW a2.beat a2.done)≠a3)=true then (
   some false)
  else (
   k v0 (addW v9 1)))
 else (
  if x0.addr.live=true then (
   (idx x0.m x0.addr.who).bind fun a4=>
   if decide (x0.addr.beat≠(subW a4.beat 1))=true then (
    Yg x0 true)
   else (
    if decide (x0.addr.left≠0)=true then (
     Yg x0 true)
    else (
     if decide (x0.addr.resp≠0)=true then (
      Yg x0 true)
     else (
      if x0.addr.second=true then (
       Yg x0 true)
      else (
       if (!x0.addr.live)=true then (
        Yg x0 (!((x0.addr.live == false)&&(decide (x0.addr.who=0)&&(decide (x0.addr.beat=0)&&((x0.addr.first == false)&&(decide (x0.addr.by_=0)&&(decide (x0.addr.left=0)&&(decide (x0.addr.resp=0)&&((x0.addr.second == false)&&true))))))))))
       else (
        Yg x0 false))))))
  else (
   if (!x0.addr.live)=true then (
    Yg x0 (!((x0.addr.live == false)&&(decide (x0.addr.who=0)&&(decide (x0.addr.beat=0)&&((x0.addr.first == false)&&(decide (x0.addr.by_=0)&&(decide (x0.addr.left=0)&&(decide (x0.addr.resp=0)&&((x0.addr.second == false)&&true))))))))))
   else (
    Yg x0 false)))
def Q4 (x0:GBus)  : Nat→(List Int)→Int→Option Bool
 | 0,_,_=>none
 | m+1,v0,v9=>Y9 x0  (Q4 x0  m) v0 v9
def Y8 (x0:GBus)  (k:(List Int)→(List GBeat)→Int→Int→Option Bool) (v0:List Int) (v1:List GBeat) (v2:Int) (v3:Int):Option Bool:=
 if decide (v3 < v2)=true then (
  (idx v1 v3).bind fun a5=>
  (Wb x0.conf a5.who).bind fun r2=>
  if (!r2)=true then (
   Wn x0 k a5 v0 v1 v2 v3 true)
  else (
   (Zx a5.by_ 1 3).bind fun r3=>
   if (!r3)=true then (
    Wn x0 k a5 v0 v1 v2 v3 true)
   else (
    (idx x0.splits a5.who).bind fun a6=>
    Wn x0 k a5 v0 v1 v2 v3 (decide (a6≠0)))))
 else (
  Q4 x0 FU v0 0)
def J1 (x0:GBus)  : Nat→(List Int)→(List GBeat)→Int→Int→Option Bool
 | 0,_,_,_,_=>none
 | m+1,v0,v1,v2,v3=>Y8 x0  (J1 x0  m) v0 v1 v2 v3
def Kt (x0:GBus):Option Bool:=
 (mkI 8 (x0.m.length:Int) 0).bind fun m0=>
 (Zjy x0).bind fun r4=>
 J1 x0 FU m0 r4 (r4.length:Int) 0
def Zix (x0:GMst):Option Bool:=
 if decide ((x0.queue.length:Int) > 0)=true then (
  (idx x0.queue 0).bind fun a0=>
  if a0.lock=true then (
   some (!x0.broken))
  else (
   some false))
 else (
  some false)
def Za2 (x0:GBus)  (k:Int→Option Bool) (v0:Int):Option Bool:=
 if decide (v0 < (x0.m.length:Int))=true then (
  (idx x0.m v0).bind fun a0=>
  if decide (a0.beat > 0)=true then (
   (Zix a0).bind fun r0=>
   if r0=true then (
    if decide (x0.holder≠v0)=true then (
     some false)
    else (
     k (addW v0 1)))
   else (
    k (addW v0 1)))
  else (
   k (addW v0 1)))
 else (
  if decide (x0.holder=(-1))=true then (
   some (decide (x0.held=0)))
  else (
   (Wb x0.conf x0.holder).bind fun r1=>
   if r1=true then (
    (idx x0.m x0.holder).bind fun a1=>
    (Zix a1).bind fun r2=>
    if r2=true then (
     (idx x0.splits x0.holder).bind fun a2=>
     if decide (a2=0)=true then (
      (Zx x0.held 0 x0.conf.lockMost).bind fun r3=>
      some r3)
     else (
      some false))
    else (
     some false))
   else (
    some false)))
def Zf1 (x0:GBus)  : Nat→Int→Option Bool
 | 0,_=>none
 | m+1,v0=>Za2 x0  (Zf1 x0  m) v0
def Zah (x0:GBus):Option Bool:=
 Zf1 x0 FU 0
def Jn (x0:GBus)  (k:Int→Int→Option Bool) (v0:Int) (v1:Int):Option Bool:=
 if decide (v1 < (x0.log.length:Int))=true then (
  (idx x0.log v1).bind fun a0=>
  if decide (a0.cycle≤v0)=true then (
   some false)
  else (
   if decide (a0.cycle≥x0.now)=true then (
    some false)
   else (
    (Wb x0.conf a0.who).bind fun r0=>
    if (!r0)=true then (
     some false)
    else (
     (Zcf a0.addr a0.size).bind fun r1=>
     if (!r1)=true then (
      some false)
     else (
      if decide (a0.addr≥512)=true then (
       some false)
      else (
       (Zaa a0.value a0.size).bind fun r2=>
       if (!r2)=true then (
        some false)
       else (
        if decide (a0.resp≠0)=true then (
         if decide (a0.resp≠1)=true then (
          some false)
         else (
          k a0.cycle (addW v1 1)))
        else (
         k a0.cycle (addW v1 1)))))))))
 else (
  some true)
def Jy (x0:GBus)  : Nat→Int→Int→Option Bool
 | 0,_,_=>none
 | m+1,v0,v1=>Jn x0  (Jy x0  m) v0 v1
def Kr (x0:GBus):Option Bool:=
 Jy x0 FU (-1) 0
def Zi2 (x0:GBus):Option Bool:=
 (K8 x0.conf).bind fun r0=>
 if r0=true then (
  (Zx x0.now 0 4000).bind fun r1=>
  if r1=true then (
   (Zbg x0).bind fun r2=>
   if r2=true then (
    (Zf4 x0.arb x0.conf).bind fun r3=>
    if r3=true then (
     if decide (x0.last=(-1))=true then (
      (Zb9 x0.model).bind fun r4=>
      if r4=true then (
       (Zx x0.picks 0 x0.now).bind fun r5=>
       if r5=true then (
        (Kt x0).bind fun r6=>
        if r6=true then (
         (Zah x0).bind fun r7=>
         if r7=true then (
          (Kr x0).bind fun r8=>
          some r8)
         else (
          some false))
        else (
         some false))
       else (
        some false))
      else (
       some false))
     else (
      (Wb x0.conf x0.last).bind fun r9=>
      if r9=true then (
       (Zb9 x0.model).bind fun r4=>
       if r4=true then (
        (Zx x0.picks 0 x0.now).bind fun r5=>
        if r5=true then (
         (Kt x0).bind fun r6=>
         if r6=true then (
          (Zah x0).bind fun r7=>
          if r7=true then (
           (Kr x0).bind fun r8=>
           some r8)
          else (
           some false))
         else (
          some false))
        else (
         some false))
       else (
        some false))
      else (
       some false)))
    else (
     some false))
   else (
    some false))
  else (
   some false))
 else (
  some false)
def Zfc (x0:GMst) (x1:Int)  (v0:Bool):Option Int:=
 if v0=true then (
  some (-1))
 else (
  (idx x0.queue 0).bind fun a0=>
  (Zdc a0.addr a0.size a0.burst).bind fun r0=>
  (idx r0 x1).bind fun a1=>
  some a1)
def J5 (x0:GMst) (x1:Int):Option Int:=
 (Wr x0).bind fun r1=>
 if (!r1)=true then (
  Zfc x0 x1 true)
 else (
  (Kh x0).bind fun r2=>
  (Zx x1 0 (subW r2 1)).bind fun r3=>
  Zfc x0 x1 (!r3))
def Zem (x0:GScript) (x1:Int)  (k:(List GPost)→Int→Option (List GPost)) (v0:List GPost) (v1:Int):Option (List GPost):=
 if decide (v1 < (x0.posts.length:Int))=true then (
  (idx x0.posts v1).bind fun a0=>
  if decide (a0.at_=x1)=true then (
   (Zdq a0.req).bind fun r0=>
   (appI 80 v0 [{a0 with req:=r0}]).bind fun z0=>
   k z0 (addW v1 1))
  else (
   k v0 (addW v1 1)))
 else (
  some v0)
def Ze9 (x0:GScript) (x1:Int)  : Nat→(List GPost)→Int→Option (List GPost)
 | 0,_,_=>none
 | m+1,v0,v1=>Zem x0 x1  (Ze9 x0 x1  m) v0 v1
def Zll (x0:GScript) (x1:Int):Option (List GPost):=
 Ze9 x0 x1 FU [] 0
def Zbk (x0:GMst) (x1:GReq)  (vb0:GMst) (v0:Bool):Option (GMst×Bool):=
 if v0=true then (
  some (vb0,false))
 else (
  (Zdq x1).bind fun r0=>
  (appI 64 vb0.queue [r0]).bind fun z0=>
  some ({vb0 with queue:=z0},true))
def Zk1 (x0:GMst) (x1:GReq):Option (GMst×Bool):=
 (Zb0 x0).bind fun r1=>
 (Wr x0).bind fun r2=>
 if (!r2)=true then (
  Zbk x0 x1 r1 true)
 else (
  (Zf3 x1).bind fun r3=>
  if (!r3)=true then (
   Zbk x0 x1 r1 true)
  else (
   Zbk x0 x1 r1 (decide ((x0.queue.length:Int)=4))))
def Zgz (x0:GBucket) (x1:GMConf):Option Bool:=
 if x1.prio=true then (
  (Zgg x0 x1).bind fun r0=>
  some r0)
 else (
  some false)
def Zhg (x0:GBucket) (x1:GMConf):Option GBucket:=
 (Zgz x0 x1).bind fun r0=>
 if (!r0)=true then (
  some x0)
 else (
  if decide ((addW x0.count 1)=x1.every)=true then (
   some (GBucket.mk (minI (addW x0.tokens 1) x1.cap) 0))
  else (
   some (GBucket.mk x0.tokens (addW x0.count 1))))
def Ze8 (x0:GMst)  (vb0:GMst) (v0:Bool):Option (GMst×Bool):=
 if v0=true then (
  some (vb0,false))
 else (
  some ({vb0 with beat:=(subW vb0.beat 1)},true))
def Zlj (x0:GMst):Option (GMst×Bool):=
 (Zb0 x0).bind fun r0=>
 (Wr x0).bind fun r1=>
 if (!r1)=true then (
  Ze8 x0 r0 true)
 else (
  Ze8 x0 r0 (decide (x0.beat=x0.done)))
def Zhb (x0:GBucket) (x1:GMConf):Option GBucket:=
 (Zgz x0 x1).bind fun r0=>
 if r0=true then (
  if decide (x0.tokens < x1.cap)=true then (
   some (GBucket.mk (addW x0.tokens 1) x0.count))
  else (
   some x0))
 else (
  some x0)
def Ze7 (x0:GWrr) (x1:GConf) (x2:Int)  (v0:Bool):Option GWrr:=
 if v0=true then (
  (Zdz x1 x2).bind fun r0=>
  some (GWrr.mk x0.at_ (minI (addW x0.credit 1) r0)))
 else (
  some x0)
def Zlb (x0:GWrr) (x1:GConf) (x2:Int):Option GWrr:=
 (Zf4 x0 x1).bind fun r1=>
 if r1=true then (
  Ze7 x0 x1 x2 (decide (x2=x0.at_)))
 else (
  Ze7 x0 x1 x2 false)
def Zae (x0:GBus) (x1:GBeat):Option GBus:=
 (idx x0.m x1.who).bind fun a0=>
 (Zlj a0).bind fun r0=>
 (setO x0.m x1.who r0.1).bind fun y0=>
 if decide (x1.by_=1)=true then (
  (idx x0.buckets x1.who).bind fun a1=>
  (idx x0.conf.masters x1.who).bind fun a2=>
  (Zhb a1 a2).bind fun r1=>
  (setO x0.buckets x1.who r1).bind fun y1=>
  some {x0 with m:=y0,buckets:=y1})
 else (
  if decide (x1.by_=2)=true then (
   (Zlb x0.arb x0.conf x1.who).bind fun r2=>
   some {x0 with m:=y0,arb:=r2})
  else (
   some {x0 with m:=y0}))
def Zfk (x0:List Int) (x1:Int)  (v0:Bool):Option Int:=
 if v0=true then (
  some 0)
 else (
  (nzI (x0.length:Int)).bind fun n0=>
  (idx x0 (remW x1 (x0.length:Int))).bind fun a0=>
  some a0)
def Zez (x0:List Int) (x1:Int):Option Int:=
 if decide ((x0.length:Int)=0)=true then (
  Zfk x0 x1 true)
 else (
  Zfk x0 x1 (decide (x1 < 0)))
def Zlg (x0:GConf) (x1:GScript) (x2:Int):Option Int:=
 (Zez x1.waits x2).bind fun r0=>
 some (maxI 1 (minI (addW (maxI 0 (minI r0 99)) 1) x0.maxSplit))
def Zg3 (x0:GMst) (x1:Int):Option Int:=
 (idx x0.queue 0).bind fun a0=>
 if a0.write=true then (
  (idx a0.data_ x1).bind fun a1=>
  some a1)
 else (
  some 0)
def Zfr (x0:Int)  (v0:Bool):Option Int:=
 if v0=true then (
  some 0)
 else (
  if decide (x0 < 128)=true then (
   some 1)
  else (
   if decide (x0 < 192)=true then (
    some 2)
   else (
    some 3)))
def Zhz (x0:Int):Option Int:=
 if decide (x0 < 0)=true then (
  Zfr x0 true)
 else (
  Zfr x0 (decide (x0≥224)))
def Zeu (x0:GDev) (x1:Bool) (x2:Int) (x3:Int)  (vb0:GDev) (v0:Bool):Option (GDev×Int×Bool):=
 if v0=true then (
  some (vb0,0,false))
 else (
  if x1=true then (
   (idx vb0.regs (quoW x2 4)).bind fun a0=>
   (setO vb0.regs (quoW x2 4) x3).bind fun y0=>
   some ({vb0 with regs:=y0},x3,true))
  else (
   (idx x0.regs (quoW x2 4)).bind fun a1=>
   some (vb0,a1,true)))
def Zew (x0:GDev) (x1:Bool) (x2:Int) (x3:Int)  (vb0:GDev) (v1:Bool):Option (GDev×Int×Bool):=
 if v1=true then (
  (idx x0.fifo 0).bind fun a2=>
  (Kb x0.fifo 1 (x0.fifo.length:Int)).bind fun s0=>
  (Yf s0).bind fun r0=>
  some ({vb0 with fifo:=r0},a2,true))
 else (
  if decide (x2≥16)=true then (
   Zeu x0 x1 x2 x3 vb0 true)
  else (
   if decide (x2 < 0)=true then (
    Zeu x0 x1 x2 x3 vb0 true)
   else (
    Zeu x0 x1 x2 x3 vb0 (decide ((remW x2 4)≠0)))))
def Zet (x0:GDev) (x1:Bool) (x2:Int) (x3:Int)  (vb0:GDev) (v2:Bool):Option (GDev×Int×Bool):=
 if v2=true then (
  (appI 8 vb0.fifo [x3]).bind fun z0=>
  some ({vb0 with fifo:=z0},x3,true))
 else (
  if decide (x2=20)=true then (
   if (!x1)=true then (
    Zew x0 x1 x2 x3 vb0 (decide ((x0.fifo.length:Int) > 0)))
   else (
    Zew x0 x1 x2 x3 vb0 false))
  else (
   Zew x0 x1 x2 x3 vb0 false))
def Zh9 (x0:GDev) (x1:Bool) (x2:Int) (x3:Int)  (vb0:GDev) (v3:Bool):Option (GDev×Int×Bool):=
 if v3=true then (
  some ({vb0 with timer:=x3},x3,true))
 else (
  if decide (x2=16)=true then (
   (Zht 2).bind fun r1=>
   (nzI r1).bind fun n0=>
   some ({vb0 with timer:=(remW (addW x0.timer 1) r1)},x0.timer,true))
  else (
   if decide (x2=20)=true then (
    if x1=true then (
     Zet x0 x1 x2 x3 vb0 (decide ((x0.fifo.length:Int) < 4)))
    else (
     Zet x0 x1 x2 x3 vb0 false))
   else (
    Zet x0 x1 x2 x3 vb0 false)))
def Jp (x0:GDev) (x1:Bool) (x2:Int) (x3:Int)  (vb0:GDev) (v4:Bool):Option (GDev×Int×Bool):=
 if v4=true then (
  some (vb0,0,false))
 else (
  if decide (x2=16)=true then (
   Zh9 x0 x1 x2 x3 vb0 x1)
  else (
   Zh9 x0 x1 x2 x3 vb0 false))
def Zpg (x0:GDev) (x1:Bool) (x2:Int) (x3:Int):Option (GDev×Int×Bool):=
 (Zjc x0).bind fun r2=>
 (Zl8 x0).bind fun r3=>
 if (!r3)=true then (
  Jp x0 x1 x2 x3 r2 true)
 else (
  if x1=true then (
   (Zaa x3 2).bind fun r4=>
   Jp x0 x1 x2 x3 r2 (!r4))
  else (
   Jp x0 x1 x2 x3 r2 false))
def Zbq (x0:List Int) (x1:Int) (x2:Int) (x3:Int)  (k:(List Int)→Int→Int→Option (List Int×Bool)) (v0:List Int) (v1:Int) (v2:Int):Option (List Int×Bool):=
 if decide (v2 < v1)=true then (
  (nnI (mulW 8 v2)).bind fun n0=>
  (idx v0 (addW x1 v2)).bind fun a0=>
  (setO v0 (addW x1 v2) (andW (shrW x3 (mulW 8 v2)) 255)).bind fun y0=>
  k y0 v1 (addW v2 1))
 else (
  some (v0,true))
def Zhj (x0:List Int) (x1:Int) (x2:Int) (x3:Int)  : Nat→(List Int)→Int→Int→Option (List Int×Bool)
 | 0,_,_,_=>none
 | m+1,v0,v1,v2=>Zbq x0 x1 x2 x3  (Zhj x0 x1 x2 x3  m) v0 v1 v2
def Zha (x0:List Int) (x1:Int) (x2:Int) (x3:Int)  (v0:List Int) (v3:Bool):Option (List Int×Bool):=
 if v3=true then (
  some (v0,false))
 else (
  (Ql x2).bind fun r0=>
  Zhj x0 x1 x2 x3 FU v0 r0 0)
def Znm (x0:List Int) (x1:Int) (x2:Int) (x3:Int):Option (List Int×Bool):=
 (Yf x0).bind fun r1=>
 (Zks x0 x1 x2).bind fun r2=>
 if (!r2)=true then (
  Zha x0 x1 x2 x3 r1 true)
 else (
  (Zaa x3 x2).bind fun r3=>
  Zha x0 x1 x2 x3 r1 (!r3))
def Zbm (x0:List Int) (x1:Int) (x2:Int)  (k:Int→Int→Int→Option (Int×Bool)) (v0:Int) (v1:Int) (v2:Int):Option (Int×Bool):=
 if decide (v2 < v1)=true then (
  (idx x0 (addW x1 v2)).bind fun a0=>
  (nnI (mulW 8 v2)).bind fun n0=>
  k (orW v0 (shlW a0 (mulW 8 v2))) v1 (addW v2 1))
 else (
  some (v0,true))
def Zgw (x0:List Int) (x1:Int) (x2:Int)  : Nat→Int→Int→Int→Option (Int×Bool)
 | 0,_,_,_=>none
 | m+1,v0,v1,v2=>Zbm x0 x1 x2  (Zgw x0 x1 x2  m) v0 v1 v2
def Znl (x0:List Int) (x1:Int) (x2:Int):Option (Int×Bool):=
 (Zks x0 x1 x2).bind fun r0=>
 if (!r0)=true then (
  some (0,false))
 else (
  (Ql x2).bind fun r1=>
  Zgw x0 x1 x2 FU 0 r1 0)
def Jm (x0:GModel) (x1:Bool) (x2:Int) (x3:Int) (x4:Int)  (vb0:GModel) (v0:Int) (v1:Bool):Option (GModel×Int×Int):=
 if (!v1)=true then (
  (Zct x0).bind fun r0=>
  some (r0,0,1))
 else (
  some (vb0,v0,0))
def Ze6 (x0:GModel) (x1:Bool) (x2:Int) (x3:Int) (x4:Int)  (vb0:GModel) (v2:Bool):Option (GModel×Int×Int):=
 if v2=true then (
  if x1=true then (
   (Znm x0.mem x2 x3 x4).bind fun r1=>
   Jm x0 x1 x2 x3 x4 (GModel.mk r1.1 vb0.dev) x4 r1.2)
  else (
   (Znl x0.mem x2 x3).bind fun r2=>
   Jm x0 x1 x2 x3 x4 vb0 r2.1 r2.2))
 else (
  Jm x0 x1 x2 x3 x4 vb0 x4 false)
def Zfl (x0:GModel) (x1:Bool) (x2:Int) (x3:Int) (x4:Int)  (vb0:GModel) (v3:Int) (v4:Bool):Option (GModel×Int×Int):=
 if v4=true then (
  (Zpg x0.dev x1 (subW x2 192) x4).bind fun r3=>
  Jm x0 x1 x2 x3 x4 (GModel.mk vb0.mem r3.1) r3.2.1 r3.2.2)
 else (
  if decide (v3=1)=true then (
   Ze6 x0 x1 x2 x3 x4 vb0 true)
  else (
   Ze6 x0 x1 x2 x3 x4 vb0 (decide (v3=2))))
def Wz (x0:GModel) (x1:Bool) (x2:Int) (x3:Int) (x4:Int)  (vb0:GModel) (v5:Bool):Option (GModel×Int×Int):=
 if v5=true then (
  some (vb0,0,1))
 else (
  (Zhz x2).bind fun r4=>
  if decide (r4=3)=true then (
   Zfl x0 x1 x2 x3 x4 vb0 r4 (decide (x3=2)))
  else (
   Zfl x0 x1 x2 x3 x4 vb0 r4 false))
def Zlq (x0:GModel) (x1:Bool) (x2:Int) (x3:Int) (x4:Int):Option (GModel×Int×Int):=
 (Zct x0).bind fun r5=>
 (Zb9 x0).bind fun r6=>
 if (!r6)=true then (
  Wz x0 x1 x2 x3 x4 r5 true)
 else (
  (Zcf x2 x3).bind fun r7=>
  if (!r7)=true then (
   Wz x0 x1 x2 x3 x4 r5 true)
  else (
   if x1=true then (
    (Zaa x4 x3).bind fun r8=>
    Wz x0 x1 x2 x3 x4 r5 (!r8))
   else (
    Wz x0 x1 x2 x3 x4 r5 false)))
def Zjv (x0:GBus) (x1:GBeat):Option (GModel×Int×Int):=
 (idx x0.m x1.who).bind fun a0=>
 (idx a0.queue 0).bind fun a1=>
 (J5 a0 x1.beat).bind fun r0=>
 (Zg3 a0 x1.beat).bind fun r1=>
 (Zlq x0.model a1.write r0 a1.size r1).bind fun r2=>
 some (r2.1,r2.2.1,r2.2.2)
def Zhh (x0:GMst)  (vb0:GMst) (v0:Bool):Option (GMst×Bool):=
 if v0=true then (
  some (vb0,false))
 else (
  (Kh {vb0 with done:=(addW vb0.done 1)}).bind fun r0=>
  if decide ((addW vb0.done 1)=r0)=true then (
   (Kb vb0.queue 1 (vb0.queue.length:Int)).bind fun s0=>
   some ((GMst.mk s0 0 0 0 false false),true))
  else (
   some ((GMst.mk vb0.queue vb0.beat (addW vb0.done 1) 0 false vb0.broken),true)))
def Zm3 (x0:GMst):Option (GMst×Bool):=
 (Zb0 x0).bind fun r1=>
 (Wr x0).bind fun r2=>
 if (!r2)=true then (
  Zhh x0 r1 true)
 else (
  Zhh x0 r1 (decide (x0.beat=x0.done)))
def Zf8 (x0:GBus):Option GBus:=
 some {x0 with holder:=(-1),held:=0}
def J2 (x0:GBus) (x1:GBeat)  (vb0:GBus) (vb1:GMst):Option GBus:=
 (idx vb0.m x1.who).bind fun a0=>
 (setO vb0.m x1.who vb1).bind fun y0=>
 some {vb0 with m:=y0}
def Jz (x0:GBus) (x1:GBeat)  (vb0:GBus) (vb1:GMst) (v0:Bool):Option GBus:=
 if v0=true then (
  (Zf8 vb0).bind fun r0=>
  J2 x0 x1 r0 vb1)
 else (
  J2 x0 x1 vb0 vb1)
def Ka (x0:GBus) (x1:GBeat)  (vb0:GBus) (vb1:GMst) (vb2:GDone):Option GBus:=
 (appI 56 vb0.log [vb2]).bind fun z0=>
 (Zm3 vb1).bind fun r1=>
 if decide (vb0.holder=x1.who)=true then (
  Jz x0 x1 {vb0 with log:=z0} r1.1 (decide ((r1.1.queue.length:Int) < (vb1.queue.length:Int))))
 else (
  Jz x0 x1 {vb0 with log:=z0} r1.1 false)
def Zeg (x0:GBus) (x1:GBeat):Option GBus:=
 (idx x0.m x1.who).bind fun a1=>
 (idx a1.queue 0).bind fun a2=>
 (J5 a1 x1.beat).bind fun r2=>
 if decide (x1.resp=0)=true then (
  (Zjv x0 x1).bind fun r3=>
  Ka x0 x1 {x0 with model:=r3.1} a1 (GDone.mk x0.now x1.who a2.write r2 a2.size r3.2.1 x1.resp))
 else (
  Ka x0 x1 x0 a1 (GDone.mk x0.now x1.who a2.write r2 a2.size 0 x1.resp))
def Zbl (x0:GBus) (x1:GScript) (x2:GWave)  (vb0:GBus):Option (Bool×GBus×GWave):=
 some (false,vb0,{x2 with resp:=x0.data_.resp})
def Qw (x0:GBus) (x1:GScript) (x2:GWave)  (v0:Bool):Option (Bool×GBus×GWave):=
 if v0=true then (
  if x0.addr.live=true then (
   (Zae {x0 with data_:={x0.data_ with second:=true}} x0.addr).bind fun r0=>
   Zbl x0 x1 x2 {r0 with addr:=GBeat.z0})
  else (
   Zbl x0 x1 x2 {x0 with data_:={x0.data_ with second:=true}}))
 else (
  if decide (x0.data_.resp=2)=true then (
   (idx x0.m x0.data_.who).bind fun a0=>
   (setO x0.m x0.data_.who {a0 with tries:=(addW a0.tries 1)}).bind fun y0=>
   (Zae {x0 with m:=y0,data_:=GBeat.z0} x0.data_).bind fun r1=>
   some (true,r1,{x2 with resp:=x0.data_.resp}))
  else (
   if decide (x0.data_.resp=3)=true then (
    (idx x0.m x0.data_.who).bind fun a1=>
    (setO x0.m x0.data_.who {a1 with parted:=true}).bind fun y1=>
    (Zlg x0.conf x1 x0.picks).bind fun r2=>
    (idx x0.splits x0.data_.who).bind fun a2=>
    (setO x0.splits x0.data_.who r2).bind fun y2=>
    (Zae {x0 with m:=y1,splits:=y2,data_:=GBeat.z0} x0.data_).bind fun r3=>
    some (true,r3,{x2 with resp:=x0.data_.resp}))
   else (
    (Zeg {x0 with data_:=GBeat.z0} x0.data_).bind fun r4=>
    some (true,r4,{x2 with resp:=x0.data_.resp}))))
def Zg2 (x0:GBus) (x1:GScript) (x2:GWave):Option (Bool×GBus×GWave):=
 if (!x0.data_.live)=true then (
  some (true,x0,x2))
 else (
  if decide (x0.data_.left > 0)=true then (
   some (false,{x0 with data_:={x0.data_ with left:=(subW x0.data_.left 1)}},x2))
  else (
   if decide (x0.data_.resp≠0)=true then (
    Qw x0 x1 x2 (!x0.data_.second))
   else (
    Qw x0 x1 x2 false)))
def Zni (x0:GConf) (x1:GScript) (x2:Int):Option Int:=
 (Zez x1.waits x2).bind fun r0=>
 some (maxI 0 (minI r0 x0.maxWait))
def Zm9 (x0:GScript) (x1:Int):Option Int:=
 (Zez x0.says x1).bind fun r0=>
 if decide (r0=2)=true then (
  some r0)
 else (
  if decide (r0=3)=true then (
   some r0)
  else (
   some 0))
def Wi (x0:GBus) (x1:GScript) (x2:GBeat)  (vb0:GMst) (v0:Int) (v1:Int) (v2:Int) (v3:Int) (v4:Bool):Option (Int×Int):=
 if v4=true then (
  some (2,v2))
 else (
  if decide (v3=3)=true then (
   if decide (v0=2)=true then (
    if (!vb0.parted)=true then (
     if decide (x2.who≠x0.holder)=true then (
      some (3,v2))
     else (
      some (v1,v2)))
    else (
     some (v1,v2)))
   else (
    some (v1,v2)))
  else (
   some (v1,v2)))
def K9 (x0:GBus) (x1:GScript) (x2:GBeat)  (vb1:GMst) (v0:Int) (v1:Int) (v2:Int):Option (Int×Int):=
 (Zm9 x1 x0.picks).bind fun r0=>
 if decide (r0=2)=true then (
  if decide (v0≠3)=true then (
   Wi x0 x1 x2 vb1 v0 v1 v2 r0 (decide (vb1.tries < x0.conf.maxRetry)))
  else (
   Wi x0 x1 x2 vb1 v0 v1 v2 r0 false))
 else (
  Wi x0 x1 x2 vb1 v0 v1 v2 r0 false)
def W5 (x0:GBus) (x1:GScript) (x2:GBeat)  (vb1:GMst) (v0:Int) (v5:Bool):Option (Int×Int):=
 if v5=true then (
  some (1,0))
 else (
  (Zjv x0 x2).bind fun r1=>
  (Zni x0.conf x1 x0.picks).bind fun r2=>
  if decide (v0=3)=true then (
   K9 x0 x1 x2 vb1 v0 r1.2.2 (addW r2 2))
  else (
   K9 x0 x1 x2 vb1 v0 r1.2.2 r2))
def Zhd (x0:GBus) (x1:GScript) (x2:GBeat):Option (Int×Int):=
 (idx x0.m x2.who).bind fun a0=>
 (J5 a0 x2.beat).bind fun r3=>
 (Zhz r3).bind fun r4=>
 if a0.broken=true then (
  W5 x0 x1 x2 a0 r4 true)
 else (
  W5 x0 x1 x2 a0 r4 (decide (r4=0)))
def Zgm (x0:GMst):Option Bool:=
 (Wr x0).bind fun r0=>
 if r0=true then (
  (Kh x0).bind fun r1=>
  some (decide (x0.beat < r1)))
 else (
  some false)
def Zbh (x0:GBucket) (x1:GMConf)  (v0:Bool):Option (GBucket×Bool):=
 if v0=true then (
  some (x0,false))
 else (
  some ((GBucket.mk (subW x0.tokens 1) x0.count),true))
def Zhk (x0:GBucket) (x1:GMConf):Option (GBucket×Bool):=
 (Zgz x0 x1).bind fun r0=>
 if (!r0)=true then (
  Zbh x0 x1 true)
 else (
  Zbh x0 x1 (decide (x0.tokens=0)))
def Zip (x0:GWrr) (x1:GConf) (x2:List Bool)  (k:Int→Option (GWrr×Int)) (v0:Int):Option (GWrr×Int):=
 if decide (v0≤(x1.masters.length:Int))=true then (
  (nzI (x1.masters.length:Int)).bind fun n0=>
  (idx x2 (remW (addW x0.at_ v0) (x1.masters.length:Int))).bind fun a0=>
  if a0=true then (
   (Zdz x1 (remW (addW x0.at_ v0) (x1.masters.length:Int))).bind fun r0=>
   some ((GWrr.mk (remW (addW x0.at_ v0) (x1.masters.length:Int)) (subW r0 1)),(remW (addW x0.at_ v0) (x1.masters.length:Int))))
  else (
   k (addW v0 1)))
 else (
  some ((GWrr.mk x0.at_ 0),(-1)))
def Zfw (x0:GWrr) (x1:GConf) (x2:List Bool)  : Nat→Int→Option (GWrr×Int)
 | 0,_=>none
 | m+1,v0=>Zip x0 x1 x2  (Zfw x0 x1 x2  m) v0
def Zfs (x0:GWrr) (x1:GConf) (x2:List Bool)  (v1:Bool):Option (GWrr×Int):=
 if v1=true then (
  some ((GWrr.mk x0.at_ (subW x0.credit 1)),x0.at_))
 else (
  Zfw x0 x1 x2 FU 1)
def Zfi (x0:GWrr) (x1:GConf) (x2:List Bool)  (v2:Bool):Option (GWrr×Int):=
 if v2=true then (
  some (x0,(-1)))
 else (
  if decide (x0.credit > 0)=true then (
   (idx x2 x0.at_).bind fun a1=>
   Zfs x0 x1 x2 a1)
  else (
   Zfs x0 x1 x2 false))
def Zlu (x0:GWrr) (x1:GConf) (x2:List Bool):Option (GWrr×Int):=
 (Zf4 x0 x1).bind fun r1=>
 if (!r1)=true then (
  Zfi x0 x1 x2 true)
 else (
  Zfi x0 x1 x2 (decide ((x2.length:Int)≠(x1.masters.length:Int))))
def Ju (x0:GBus)  (k:(List Bool)→Int→Int→Option (Int×Int×GBus)) (v0:List Bool) (v1:Int) (v2:Int):Option (Int×Int×GBus):=
 if decide (v2 < v1)=true then (
  (idx v0 v2).bind fun a0=>
  if (!a0)=true then (
   k v0 v1 (addW v2 1))
  else (
   (idx x0.buckets v2).bind fun a1=>
   (idx x0.conf.masters v2).bind fun a2=>
   (Zhk a1 a2).bind fun r0=>
   if r0.2=true then (
    (setO x0.buckets v2 r0.1).bind fun y0=>
    some (v2,1,{x0 with buckets:=y0}))
   else (
    k v0 v1 (addW v2 1))))
 else (
  if decide (x0.holder≠(-1))=true then (
   some ((-1),0,x0))
  else (
   (Zlu x0.arb x0.conf v0).bind fun r1=>
   some (r1.2,2,{x0 with arb:=r1.1})))
def Zaw (x0:GBus)  : Nat→(List Bool)→Int→Int→Option (Int×Int×GBus)
 | 0,_,_,_=>none
 | m+1,v0,v1,v2=>Ju x0  (Zaw x0  m) v0 v1 v2
def Zd1 (x0:GBus)  (v0:List Bool) (v3:Bool):Option (Int×Int×GBus):=
 if v3=true then (
  some (x0.holder,3,x0))
 else (
  Zaw x0 FU v0 (v0.length:Int) 0)
def Zcm (x0:GBus)  (k:(List Bool)→Int→Option (Int×Int×GBus)) (v0:List Bool) (v4:Int):Option (Int×Int×GBus):=
 if decide (v4 < (x0.m.length:Int))=true then (
  (idx x0.m v4).bind fun a3=>
  (Zgm a3).bind fun r2=>
  if r2=true then (
   (idx x0.splits v4).bind fun a4=>
   if decide (a4=0)=true then (
    if decide (x0.holder=(-1))=true then (
     (appI 1 v0 [true]).bind fun z0=>
     k z0 (addW v4 1))
    else (
     (appI 1 v0 [decide (x0.holder=v4)]).bind fun z0=>
     k z0 (addW v4 1)))
   else (
    (appI 1 v0 [false]).bind fun z0=>
    k z0 (addW v4 1)))
  else (
   (appI 1 v0 [false]).bind fun z0=>
   k z0 (addW v4 1)))
 else (
  if decide (x0.holder≠(-1))=true then (
   (idx v0 x0.holder).bind fun a5=>
   Zd1 x0 v0 a5)
  else (
   Zd1 x0 v0 false))
def Zd0 (x0:GBus)  : Nat→(List Bool)→Int→Option (Int×Int×GBus)
 | 0,_,_=>none
 | m+1,v0,v4=>Zcm x0  (Zd0 x0  m) v0 v4
def Zi9 (x0:GBus):Option (Int×Int×GBus):=
 Zd0 x0 FU [] 0
def Zdl (x0:GMst)  (vb0:GMst) (v0:Bool):Option (GMst×Bool):=
 if v0=true then (
  some (vb0,false))
 else (
  some ({vb0 with beat:=(addW vb0.beat 1)},true))
def Zjm (x0:GMst):Option (GMst×Bool):=
 (Zb0 x0).bind fun r0=>
 (Zgm x0).bind fun r1=>
 if (!r1)=true then (
  Zdl x0 r0 true)
 else (
  Zdl x0 r0 (decide (x0.beat=(addW x0.done 2))))
def Zcp (x0:GBus)  (vb0:GBus) (vb1:GMst) (v0:Int):Option (Int×GBus):=
 (Zjm vb1).bind fun r0=>
 (idx vb0.m v0).bind fun a0=>
 (setO vb0.m v0 r0.1).bind fun y0=>
 some (v0,{vb0 with m:=y0,last:=v0})
def Zcl (x0:GBus)  (vb0:GBus) (vb1:GMst) (v0:Int) (v1:Bool):Option (Int×GBus):=
 if v1=true then (
  Zcp x0 {vb0 with holder:=v0,held:=0} vb1 v0)
 else (
  Zcp x0 vb0 vb1 v0)
def Qf (x0:GBus)  (vb0:GBus) (vb1:GMst) (v0:Int):Option (Int×GBus):=
 (Zix vb1).bind fun r1=>
 if r1=true then (
  Zcl x0 vb0 vb1 v0 (decide (vb0.holder=(-1))))
 else (
  Zcl x0 vb0 vb1 v0 false)
def Zic (x0:GBus):Option (Int×GBus):=
 (Zi9 x0).bind fun r2=>
 if decide (r2.1 < 0)=true then (
  some ((-1),r2.2.2))
 else (
  (idx r2.2.2.m r2.1).bind fun a1=>
  if decide (a1.beat=0)=true then (
   Qf x0 {r2.2.2 with addr:=(GBeat.mk true r2.1 a1.beat true r2.2.1 0 0 false)} a1 r2.1)
  else (
   Qf x0 {r2.2.2 with addr:=(GBeat.mk true r2.1 a1.beat (decide (r2.2.2.last≠r2.1)) r2.2.1 0 0 false)} a1 r2.1))
def Zam (x0:GBus) (x1:GScript)  (vb0:GBus) (vb1:GWave):Option (GWave×GBus):=
 some (vb1,{vb0 with now:=(addW vb0.now 1)})
def Zaq (x0:GBus) (x1:GScript)  (vb0:GBus) (vb1:GWave):Option (GWave×GBus):=
 (Zic vb0).bind fun r0=>
 Zam x0 x1 r0.2 {vb1 with got:=r0.1}
def Ks (x0:GBus) (x1:GScript)  (vb0:GBus) (vb2:GWave):Option (GWave×GBus):=
 if vb0.addr.live=true then (
  (Zhd vb0 x1 vb0.addr).bind fun r1=>
  Zaq x0 x1 {vb0 with addr:=GBeat.z0,data_:={vb0.addr with left:=r1.2,resp:=r1.1},picks:=(addW vb0.picks 1)} vb2)
 else (
  Zaq x0 x1 vb0 vb2)
def W6 (x0:GBus) (x1:GScript)  (vb0:GBus) (vb2:GWave) (v0:Bool):Option (GWave×GBus):=
 if v0=true then (
  (idx vb0.m vb0.holder).bind fun a0=>
  (setO vb0.m vb0.holder {a0 with broken:=true}).bind fun y0=>
  (Zf8 {vb0 with m:=y0}).bind fun r2=>
  Ks x0 x1 r2 vb2)
 else (
  Ks x0 x1 vb0 vb2)
def W7 (x0:GBus) (x1:GScript)  (vb0:GBus) (vb2:GWave):Option (GWave×GBus):=
 (Zg2 vb0 x1 vb2).bind fun r3=>
 if r3.1=true then (
  if decide (r3.2.1.holder≠(-1))=true then (
   W6 x0 x1 r3.2.1 {r3.2.2 with ready:=r3.1} (decide (r3.2.1.held=r3.2.1.conf.lockMost)))
  else (
   W6 x0 x1 r3.2.1 {r3.2.2 with ready:=r3.1} false))
 else (
  Zam x0 x1 r3.2.1 {r3.2.2 with ready:=r3.1})
def Zcq (x0:GBus) (x1:GScript)  (k:GBus→GWave→Int→Int→Option (GWave×GBus)) (vb0:GBus) (vb2:GWave) (v1:Int) (v2:Int):Option (GWave×GBus):=
 if decide (v2 < v1)=true then (
  (idx vb0.splits v2).bind fun a1=>
  (setO vb0.splits v2 (maxI (subW a1 1) 0)).bind fun y1=>
  (idx vb0.buckets v2).bind fun a2=>
  (idx vb0.conf.masters v2).bind fun a3=>
  (Zhg a2 a3).bind fun r4=>
  (setO vb0.buckets v2 r4).bind fun y2=>
  k {vb0 with buckets:=y2,splits:=y1} vb2 v1 (addW v2 1))
 else (
  if decide (vb0.holder≠(-1))=true then (
   W7 x0 x1 {vb0 with held:=(minI (addW vb0.held 1) vb0.conf.lockMost)} vb2)
  else (
   W7 x0 x1 vb0 vb2))
def Qu (x0:GBus) (x1:GScript)  : Nat→GBus→GWave→Int→Int→Option (GWave×GBus)
 | 0,_,_,_,_=>none
 | m+1,vb0,vb2,v1,v2=>Zcq x0 x1  (Qu x0 x1  m) vb0 vb2 v1 v2
def Zck (x0:GBus) (x1:GScript)  (k:GBus→GWave→(List GPost)→Int→Int→Option (GWave×GBus)) (vb0:GBus) (vb2:GWave) (v3:List GPost) (v4:Int) (v5:Int):Option (GWave×GBus):=
 if decide (v5 < v4)=true then (
  (idx v3 v5).bind fun a4=>
  (Wb vb0.conf a4.who).bind fun r5=>
  if r5=true then (
   (idx vb0.m a4.who).bind fun a5=>
   (Zk1 a5 a4.req).bind fun r6=>
   (setO vb0.m a4.who r6.1).bind fun y3=>
   k {vb0 with m:=y3} vb2 v3 v4 (addW v5 1))
  else (
   k vb0 vb2 v3 v4 (addW v5 1)))
 else (
  Qu x0 x1 FU vb0 vb2 (vb0.splits.length:Int) 0)
def Zak (x0:GBus) (x1:GScript)  : Nat→GBus→GWave→(List GPost)→Int→Int→Option (GWave×GBus)
 | 0,_,_,_,_,_=>none
 | m+1,vb0,vb2,v3,v4,v5=>Zck x0 x1  (Zak x0 x1  m) vb0 vb2 v3 v4 v5
def Zay (x0:GBus) (x1:GScript)  (vb2:GWave):Option (GWave×GBus):=
 (Zll x1 x0.now).bind fun r7=>
 Zak x0 x1 FU x0 vb2 r7 (r7.length:Int) 0
def Zaz (x0:GBus) (x1:GScript)  (vb2:GWave):Option (GWave×GBus):=
 if x0.data_.live=true then (
  (idx x0.m x0.data_.who).bind fun a6=>
  (J5 a6 x0.data_.beat).bind fun r8=>
  Zay x0 x1 {vb2 with data_:=r8,from_:=x0.data_.who})
 else (
  Zay x0 x1 vb2)
def Zgd (x0:GBus) (x1:GScript):Option (GWave×GBus):=
 if x0.addr.live=true then (
  (idx x0.m x0.addr.who).bind fun a7=>
  (J5 a7 x0.addr.beat).bind fun r9=>
  if x0.addr.first=true then (
   Zaz x0 x1 (GWave.mk x0.now r9 2 x0.addr.who (-1) (-1) true 0 (-1)))
  else (
   Zaz x0 x1 (GWave.mk x0.now r9 3 x0.addr.who (-1) (-1) true 0 (-1))))
 else (
  Zaz x0 x1 (GWave.mk x0.now (-1) 0 (-1) (-1) (-1) true 0 (-1)))
def Zi7 (x0:GConf):Option Bool:=
 (Zj x0.quantum 1 4).bind fun r0=>
 if r0=true then (
  (Jw x0).bind fun r1=>
  if decide (r1 > 0)=true then (
   (Zj x0.maxSplit 1 12).bind fun r2=>
   if r2=true then (
    (Zj x0.lockMost 1 40).bind fun r3=>
    some r3)
   else (
    some false))
  else (
   some false))
 else (
  some false)
def Zjs (x0:GConf)  (k:Int→Int→Option Bool) (v0:Int) (v1:Int):Option Bool:=
 if decide (v1 < (x0.masters.length:Int))=true then (
  (idx x0.masters v1).bind fun a0=>
  (Zj a0.weight 1 4).bind fun r0=>
  if (!r0)=true then (
   some false)
  else (
   if (!a0.prio)=true then (
    if decide (a0.every≠0)=true then (
     some false)
    else (
     if decide (a0.cap≠0)=true then (
      some false)
     else (
      if a0.prio=true then (
       (Qs x0).bind fun r1=>
       (Zj a0.every (mulW (mulW 2 v0) r1) 1000).bind fun r2=>
       if (!r2)=true then (
        some false)
       else (
        (Zj a0.cap 1 8).bind fun r3=>
        if (!r3)=true then (
         some false)
        else (
         k v0 (addW v1 1))))
      else (
       k v0 (addW v1 1)))))
   else (
    if a0.prio=true then (
     (Qs x0).bind fun r1=>
     (Zj a0.every (mulW (mulW 2 v0) r1) 1000).bind fun r2=>
     if (!r2)=true then (
      some false)
     else (
      (Zj a0.cap 1 8).bind fun r3=>
      if (!r3)=true then (
       some false)
      else (
       k v0 (addW v1 1))))
    else (
     k v0 (addW v1 1)))))
 else (
  (Zj (x0.masters.length:Int) 1 4).bind fun r4=>
  if r4=true then (
   (Zi7 x0).bind fun r5=>
   some r5)
  else (
   some false))
def Q0 (x0:GConf)  : Nat→Int→Int→Option Bool
 | 0,_,_=>none
 | m+1,v0,v1=>Zjs x0  (Q0 x0  m) v0 v1
def Zj8 (x0:GConf)  (k:Int→Int→Option Bool) (v0:Int) (v2:Int):Option Bool:=
 if decide (v2 < (x0.masters.length:Int))=true then (
  (idx x0.masters v2).bind fun a1=>
  if a1.prio=true then (
   k (addW v0 1) (addW v2 1))
  else (
   k v0 (addW v2 1)))
 else (
  Q0 x0 FU v0 0)
def Zhl (x0:GConf)  : Nat→Int→Int→Option Bool
 | 0,_,_=>none
 | m+1,v0,v2=>Zj8 x0  (Zhl x0  m) v0 v2
def K0 (x0:GConf):Option Bool:=
 Zhl x0 FU 0 0
def Zku (x0:GReq)  (k:Int→Option Bool) (v0:Int):Option Bool:=
 if decide (v0 < (x0.data_.length:Int))=true then (
  (idx x0.data_ v0).bind fun a0=>
  (Wx x0.size).bind fun r0=>
  (Zj a0 0 (subW r0 1)).bind fun r1=>
  if (!r1)=true then (
   some false)
  else (
   k (addW v0 1)))
 else (
  if decide ((x0.data_.length:Int)=0)=true then (
   if (!x0.write)=true then (
    some true)
   else (
    (Qm x0.burst).bind fun r2=>
    if decide ((x0.data_.length:Int)=r2)=true then (
     some x0.write)
    else (
     some false)))
  else (
   (Qm x0.burst).bind fun r2=>
   if decide ((x0.data_.length:Int)=r2)=true then (
    some x0.write)
   else (
    some false)))
def Zh7 (x0:GReq)  : Nat→Int→Option Bool
 | 0,_=>none
 | m+1,v0=>Zku x0  (Zh7 x0  m) v0
def Zl2 (x0:GReq):Option Bool:=
 (Zhs x0.addr x0.size x0.burst).bind fun r3=>
 if (!r3)=true then (
  some false)
 else (
  Zh7 x0 FU 0)
def Zxm (x0:GConf):Option GConf:=
 (appI 32 [] x0.masters).bind fun z0=>
 some {x0 with masters:=z0}
def Zg1 (x0:GConf) (x1:Int)  (v0:Bool):Option Int:=
 if v0=true then (
  some 0)
 else (
  (idx x0.masters x1).bind fun a0=>
  some (mulW a0.weight x0.quantum))
def Zef (x0:GConf) (x1:Int):Option Int:=
 (K0 x0).bind fun r0=>
 if (!r0)=true then (
  Zg1 x0 x1 true)
 else (
  (Zj x1 0 (subW (x0.masters.length:Int) 1)).bind fun r1=>
  Zg1 x0 x1 (!r1))
def Zuc (x0:GWrr) (x1:GConf):Option Bool:=
 (K0 x1).bind fun r0=>
 if r0=true then (
  (Zj x0.at_ 0 (subW (x1.masters.length:Int) 1)).bind fun r1=>
  if r1=true then (
   (Zef x1 x0.at_).bind fun r2=>
   (Zj x0.credit 0 r2).bind fun r3=>
   some r3)
  else (
   some false))
 else (
  some false)
def Zit (x0:List Int)  (k:Int→Option Bool) (v0:Int):Option Bool:=
 if decide (v0 < (x0.length:Int))=true then (
  (idx x0 v0).bind fun a0=>
  (Zj a0 0 255).bind fun r0=>
  if (!r0)=true then (
   some false)
  else (
   k (addW v0 1)))
 else (
  some (decide ((x0.length:Int)≤512)))
def Zke (x0:List Int)  : Nat→Int→Option Bool
 | 0,_=>none
 | m+1,v0=>Zit x0  (Zke x0  m) v0
def Zqo (x0:List Int):Option Bool:=
 Zke x0 FU 0
def Zir (x0:List Int)  (k:Int→Option Bool) (v0:Int):Option Bool:=
 if decide (v0 < (x0.length:Int))=true then (
  (idx x0 v0).bind fun a0=>
  (Wx 2).bind fun r0=>
  (Zj a0 0 (subW r0 1)).bind fun r1=>
  if (!r1)=true then (
   some false)
  else (
   k (addW v0 1)))
 else (
  some true)
def Zkc (x0:List Int)  : Nat→Int→Option Bool
 | 0,_=>none
 | m+1,v0=>Zir x0  (Zkc x0  m) v0
def Zln (x0:List Int):Option Bool:=
 Zkc x0 FU 0
def Zuj (x0:GDev):Option Bool:=
 if decide ((x0.regs.length:Int)=4)=true then (
  (Zln x0.regs).bind fun r0=>
  if r0=true then (
   (Wx 2).bind fun r1=>
   (Zj x0.timer 0 (subW r1 1)).bind fun r2=>
   if r2=true then (
    if decide ((x0.fifo.length:Int)≤4)=true then (
     (Zln x0.fifo).bind fun r3=>
     some r3)
    else (
     some false))
   else (
    some false))
  else (
   some false))
 else (
  some false)
def Zqp (x0:GModel):Option Bool:=
 if decide ((x0.mem.length:Int)=192)=true then (
  (Zqo x0.mem).bind fun r0=>
  if r0=true then (
   (Zuj x0.dev).bind fun r1=>
   some r1)
  else (
   some false))
 else (
  some false)
def Zjx (x0:GMst):Option Int:=
 if decide ((x0.queue.length:Int)=0)=true then (
  some 0)
 else (
  (idx x0.queue 0).bind fun a0=>
  (Qm a0.burst).bind fun r0=>
  some r0)
def Kv (x0:GMst)  (v0:Bool):Option Bool:=
 if v0=true then (
  some false)
 else (
  if decide ((x0.queue.length:Int)=0)=true then (
   if decide (x0.beat=0)=true then (
    if decide (x0.done=0)=true then (
     if decide (x0.tries=0)=true then (
      if (!x0.parted)=true then (
       some (!x0.broken))
      else (
       some false))
     else (
      some false))
    else (
     some false))
   else (
    some false))
  else (
   (Zjx x0).bind fun r0=>
   (Zj x0.done 0 (subW r0 1)).bind fun r1=>
   if r1=true then (
    (Zjx x0).bind fun r2=>
    (Zj x0.beat x0.done (minI (addW x0.done 2) r2)).bind fun r3=>
    some r3)
   else (
    some false)))
def Zhm (x0:GMst)  (k:Int→Option Bool) (v1:Int):Option Bool:=
 if decide (v1 < (x0.queue.length:Int))=true then (
  (idx x0.queue v1).bind fun a0=>
  (Zl2 a0).bind fun r4=>
  if (!r4)=true then (
   some false)
  else (
   k (addW v1 1)))
 else (
  if decide ((x0.queue.length:Int) > 4)=true then (
   Kv x0 true)
  else (
   Kv x0 (decide (x0.tries < 0))))
def Zio (x0:GMst)  : Nat→Int→Option Bool
 | 0,_=>none
 | m+1,v1=>Zhm x0  (Zio x0  m) v1
def Zo0 (x0:GMst):Option Bool:=
 Zio x0 FU 0
def Z0w (x0:GMst) (x1:GConf):Option Bool:=
 (K0 x1).bind fun r0=>
 if r0=true then (
  (Zo0 x0).bind fun r1=>
  if r1=true then (
   some (decide (x0.tries≤x1.maxRetry)))
  else (
   some false))
 else (
  some false)
def Zoa (x0:GBucket) (x1:GMConf):Option Bool:=
 if (!x1.prio)=true then (
  some (decide (x0.tokens=0)&&(decide (x0.count=0)&&true)))
 else (
  (Zj x0.tokens 0 x1.cap).bind fun r0=>
  if r0=true then (
   (Zj x0.count 0 (subW x1.every 1)).bind fun r1=>
   some r1)
  else (
   some false))
def Zj9 (x0:GBus) (x1:Int)  (v0:Int):Option Int:=
 if x0.data_.live=true then (
  if decide (x0.data_.who=x1)=true then (
   some (addW v0 1))
  else (
   some v0))
 else (
  some v0)
def Zj6 (x0:GBus) (x1:Int)  (v1:Bool):Option Int:=
 if v1=true then (
  Zj9 x0 x1 (addW 0 1))
 else (
  Zj9 x0 x1 0)
def Zqg (x0:GBus) (x1:Int):Option Int:=
 if x0.addr.live=true then (
  Zj6 x0 x1 (decide (x0.addr.who=x1)))
 else (
  Zj6 x0 x1 false)
def Zo5 (x0:Int):Option ByteArray:=
 (Zj x0 0 3).bind fun r0=>
 if (!r0)=true then (
  some ByteArray.empty)
 else (
  (idx [(strL [111,107,97,121]),(strL [101,114,114,111,114]),(strL [114,101,116,114,121]),(strL [115,112,108,105,116])] x0).bind fun a0=>
  some a0)
def Zs (x0:GBus) (x1:GBeat) (x2:Bool)  (vb0:GMst) (v0:Bool):Option Bool:=
 if v0=true then (
  some false)
 else (
  if decide (x1.beat=vb0.done)=true then (
   (Zj x1.left 0 (addW x0.conf.maxWait 2)).bind fun r0=>
   if r0=true then (
    (Zo5 x1.resp).bind fun r1=>
    if (!(r1.toList == ByteArray.empty.toList))=true then (
     if (!x1.second)=true then (
      some true)
     else (
      if decide (x1.resp≠0)=true then (
       some (decide (x1.left=0)))
      else (
       some false)))
    else (
     some false))
   else (
    some false))
  else (
   some false))
def W0 (x0:GBus) (x1:GBeat) (x2:Bool)  (v1:Bool):Option Bool:=
 if v1=true then (
  some false)
 else (
  (idx x0.m x1.who).bind fun a0=>
  if (!x2)=true then (
   if decide (x1.beat=(subW a0.beat 1))=true then (
    if decide (x1.left=0)=true then (
     if decide (x1.resp=0)=true then (
      some (!x1.second))
     else (
      some false))
    else (
     some false))
   else (
    some false))
  else (
   if decide (x1.resp=2)=true then (
    if decide (a0.tries≥x0.conf.maxRetry)=true then (
     Zs x0 x1 x2 a0 true)
    else (
     if decide (x1.resp=3)=true then (
      if a0.parted=true then (
       Zs x0 x1 x2 a0 true)
      else (
       if decide (x0.holder=x1.who)=true then (
        Zs x0 x1 x2 a0 true)
       else (
        if x1.second=true then (
         Zs x0 x1 x2 a0 x0.addr.live)
        else (
         Zs x0 x1 x2 a0 false))))
     else (
      if x1.second=true then (
       Zs x0 x1 x2 a0 x0.addr.live)
      else (
       Zs x0 x1 x2 a0 false))))
   else (
    if decide (x1.resp=3)=true then (
     if a0.parted=true then (
      Zs x0 x1 x2 a0 true)
     else (
      if decide (x0.holder=x1.who)=true then (
       Zs x0 x1 x2 a0 true)
      else (
       if x1.second=true then (
        Zs x0 x1 x2 a0 x0.addr.live)
       else (
        Zs x0 x1 x2 a0 false))))
    else (
     if x1.second=true then (
      Zs x0 x1 x2 a0 x0.addr.live)
     else (
      Zs x0 x1 x2 a0 false)))))
def J7 (x0:GBus) (x1:GBeat) (x2:Bool):Option Bool:=
 if (!x1.live)=true then (
  some ((x1.live == false)&&(decide (x1.who=0)&&(decide (x1.beat=0)&&((x1.first == false)&&(decide (x1.by_=0)&&(decide (x1.left=0)&&(decide (x1.resp=0)&&((x1.second == false)&&true)))))))))
 else (
  (Zj x1.who 0 (subW (x0.m.length:Int) 1)).bind fun r2=>
  if (!r2)=true then (
   W0 x0 x1 x2 true)
  else (
   (Zj x1.by_ 1 3).bind fun r3=>
   if (!r3)=true then (
    W0 x0 x1 x2 true)
   else (
    (idx x0.splits x1.who).bind fun a1=>
    W0 x0 x1 x2 (decide (a1 > 0)))))
def Jj (x0:GBus)  (v0:Bool):Option Bool:=
 if v0=true then (
  some false)
 else (
  (idx x0.m x0.holder).bind fun a0=>
  if decide ((a0.queue.length:Int) > 0)=true then (
   (idx a0.queue 0).bind fun a1=>
   if a1.lock=true then (
    if (!a0.broken)=true then (
     (idx x0.splits x0.holder).bind fun a2=>
     some (decide (a2=0)))
    else (
     some false))
   else (
    some false))
  else (
   some false))
def Zed (x0:GBus)  (k:Int→Option Bool) (v1:Int):Option Bool:=
 if decide (v1 < (x0.m.length:Int))=true then (
  (idx x0.m v1).bind fun a3=>
  if decide (a3.beat > 0)=true then (
   (idx a3.queue 0).bind fun a4=>
   if a4.lock=true then (
    if (!a3.broken)=true then (
     if decide (x0.holder≠v1)=true then (
      some false)
     else (
      k (addW v1 1)))
    else (
     k (addW v1 1)))
   else (
    k (addW v1 1)))
  else (
   k (addW v1 1)))
 else (
  if decide (x0.holder=(-1))=true then (
   some (decide (x0.held=0)))
  else (
   (Zj x0.holder 0 (subW (x0.m.length:Int) 1)).bind fun r0=>
   if (!r0)=true then (
    Jj x0 true)
   else (
    (Zj x0.held 0 x0.conf.lockMost).bind fun r1=>
    Jj x0 (!r1))))
def Zpo (x0:GBus)  : Nat→Int→Option Bool
 | 0,_=>none
 | m+1,v1=>Zed x0  (Zpo x0  m) v1
def Zk5 (x0:GBus):Option Bool:=
 Zpo x0 FU 0
def Zfb (x0:GBus)  (k:Int→Option Bool) (v0:Int):Option Bool:=
 if decide (v0 < (x0.log.length:Int))=true then (
  (idx x0.log v0).bind fun a0=>
  (Zj a0.cycle 0 (subW x0.now 1)).bind fun r0=>
  if (!r0)=true then (
   some false)
  else (
   if decide (v0 > 0)=true then (
    (idx x0.log (subW v0 1)).bind fun a1=>
    if decide (a0.cycle≤a1.cycle)=true then (
     some false)
    else (
     (Zj a0.who 0 (subW (x0.m.length:Int) 1)).bind fun r1=>
     if (!r1)=true then (
      some false)
     else (
      (J4 a0.addr a0.size).bind fun r2=>
      if (!r2)=true then (
       some false)
      else (
       (Zj a0.addr 0 511).bind fun r3=>
       if (!r3)=true then (
        some false)
       else (
        (Wx a0.size).bind fun r4=>
        (Zj a0.value 0 (subW r4 1)).bind fun r5=>
        if (!r5)=true then (
         some false)
        else (
         (Zj a0.resp 0 1).bind fun r6=>
         if (!r6)=true then (
          some false)
         else (
          k (addW v0 1))))))))
   else (
    (Zj a0.who 0 (subW (x0.m.length:Int) 1)).bind fun r1=>
    if (!r1)=true then (
     some false)
    else (
     (J4 a0.addr a0.size).bind fun r2=>
     if (!r2)=true then (
      some false)
     else (
      (Zj a0.addr 0 511).bind fun r3=>
      if (!r3)=true then (
       some false)
      else (
       (Wx a0.size).bind fun r4=>
       (Zj a0.value 0 (subW r4 1)).bind fun r5=>
       if (!r5)=true then (
        some false)
       else (
        (Zj a0.resp 0 1).bind fun r6=>
        if (!r6)=true then (
         some false)
        else (
         k (addW v0 1)))))))))
 else (
  some true)
def Zkq (x0:GBus)  : Nat→Int→Option Bool
 | 0,_=>none
 | m+1,v0=>Zfb x0  (Zkq x0  m) v0
def Zm0 (x0:GBus):Option Bool:=
 Zkq x0 FU 0
def Zg5 (x0:GBus)  (k:Int→Option Bool) (v0:Int):Option Bool:=
 if decide (v0 < (x0.conf.masters.length:Int))=true then (
  (idx x0.m v0).bind fun a0=>
  (Z0w a0 x0.conf).bind fun r0=>
  if (!r0)=true then (
   some false)
  else (
   (idx x0.buckets v0).bind fun a1=>
   (idx x0.conf.masters v0).bind fun a2=>
   (Zoa a1 a2).bind fun r1=>
   if (!r1)=true then (
    some false)
   else (
    (idx x0.splits v0).bind fun a3=>
    (Zj a3 0 x0.conf.maxSplit).bind fun r2=>
    if (!r2)=true then (
     some false)
    else (
     (Zqg x0 v0).bind fun r3=>
     if decide ((subW a0.beat a0.done)≠r3)=true then (
      some false)
     else (
      k (addW v0 1))))))
 else (
  (J7 x0 x0.data_ true).bind fun r4=>
  if r4=true then (
   (J7 x0 x0.addr false).bind fun r5=>
   if r5=true then (
    (Zk5 x0).bind fun r6=>
    if r6=true then (
     (Zm0 x0).bind fun r7=>
     some r7)
    else (
     some false))
   else (
    some false))
  else (
   some false))
def Zmq (x0:GBus)  : Nat→Int→Option Bool
 | 0,_=>none
 | m+1,v0=>Zg5 x0  (Zmq x0  m) v0
def Xy (x0:GBus)  (v1:Bool):Option Bool:=
 if v1=true then (
  some false)
 else (
  Zmq x0 FU 0)
def Zpz (x0:GBus):Option Bool:=
 (K0 x0.conf).bind fun r8=>
 if (!r8)=true then (
  Xy x0 true)
 else (
  (Zj x0.now 0 4000).bind fun r9=>
  if (!r9)=true then (
   Xy x0 true)
  else (
   if decide ((x0.m.length:Int)≠(x0.conf.masters.length:Int))=true then (
    Xy x0 true)
   else (
    if decide ((x0.buckets.length:Int)≠(x0.conf.masters.length:Int))=true then (
     Xy x0 true)
    else (
     if decide ((x0.splits.length:Int)≠(x0.conf.masters.length:Int))=true then (
      Xy x0 true)
     else (
      (Zuc x0.arb x0.conf).bind fun r10=>
      if (!r10)=true then (
       Xy x0 true)
      else (
       (Zj x0.last (-1) (subW (x0.conf.masters.length:Int) 1)).bind fun r11=>
       if (!r11)=true then (
        Xy x0 true)
       else (
        (Zqp x0.model).bind fun r12=>
        if (!r12)=true then (
         Xy x0 true)
        else (
         if decide (x0.picks < 0)=true then (
          Xy x0 true)
         else (
          Xy x0 (decide (x0.picks > x0.now)))))))))))
def Zin (x0:GWrr) (x1:GConf) (x2:List Bool)  (k:Int→Option (GWrr×Int)) (v0:Int):Option (GWrr×Int):=
 if decide (v0≤(x2.length:Int))=true then (
  (nzI (x2.length:Int)).bind fun n0=>
  (idx x2 (remW (addW x0.at_ v0) (x2.length:Int))).bind fun a0=>
  if a0=true then (
   (Zef x1 (remW (addW x0.at_ v0) (x2.length:Int))).bind fun r0=>
   some ((GWrr.mk (remW (addW x0.at_ v0) (x2.length:Int)) (subW r0 1)),(remW (addW x0.at_ v0) (x2.length:Int))))
  else (
   k (addW v0 1)))
 else (
  some ((GWrr.mk x0.at_ 0),(-1)))
def Zp4 (x0:GWrr) (x1:GConf) (x2:List Bool)  : Nat→Int→Option (GWrr×Int)
 | 0,_=>none
 | m+1,v0=>Zin x0 x1 x2  (Zp4 x0 x1 x2  m) v0
def Zj7 (x0:GL1Cur) (x1:Int)  (k:GL1Cur→(List Int)→Int→Option (List Int×GL1Cur)) (vb0:GL1Cur) (v0:List Int) (v1:Int):Option (List Int×GL1Cur):=
 if decide (v1 > 0)=true then (
  (Zl vb0 x1).bind fun r0=>
  (appI 8 v0 [r0.1]).bind fun z0=>
  k r0.2 z0 (subW v1 1))
 else (
  some (v0,vb0))
def Zaf (x0:GL1Cur) (x1:Int)  : Nat→GL1Cur→(List Int)→Int→Option (List Int×GL1Cur)
 | 0,_,_,_=>none
 | m+1,vb0,v0,v1=>Zj7 x0 x1  (Zaf x0 x1  m) vb0 v0 v1
def Zdx (x0:GL1Cur) (x1:Int):Option (List Int×GL1Cur):=
 (Zl x0 6).bind fun r1=>
 Zaf x0 x1 FU r1.2 [] r1.1
def Zas (x0:GL1Cur) (x1:GConf) (k_L1:GL1Cur→GScript→Int→Int→Option (GScript×GL1Cur×GConf)) (vb0:GL1Cur) (vb1:GScript) (v0:Int) (v1:Int) (v2:Bool):Option (GScript×GL1Cur×GConf):=
 if v2=true then (
  (Yn vb0 [0,0,1,2,9]).bind fun r0=>
  (Zl r0.2 (x1.masters.length:Int)).bind fun r1=>
  (Ziw r1.2).bind fun r2=>
  (appI 80 vb1.posts [(GPost.mk (addW v0 r0.1) r1.1 r2.1)]).bind fun z0=>
  k_L1 r2.2 {vb1 with posts:=z0} (addW v0 r0.1) (subW v1 1))
 else (
  some (vb1,vb0,x1))
def Zcn (x0:GL1Cur) (x1:GConf)  (k:GL1Cur→GScript→Int→Int→Option (GScript×GL1Cur×GConf)) (vb0:GL1Cur) (vb1:GScript) (v0:Int) (v1:Int):Option (GScript×GL1Cur×GConf):=
 if decide (v1 > 0)=true then (
  Zas x0 x1 k vb0 vb1 v0 v1 (decide ((x1.masters.length:Int) > 0)))
 else (
  Zas x0 x1 k vb0 vb1 v0 v1 false)
def Wm (x0:GL1Cur) (x1:GConf)  : Nat→GL1Cur→GScript→Int→Int→Option (GScript×GL1Cur×GConf)
 | 0,_,_,_,_=>none
 | m+1,vb0,vb1,v0,v1=>Zcn x0 x1  (Wm x0 x1  m) vb0 vb1 v0 v1
def Zal (x0:GL1Cur) (x1:GConf):Option (GScript×GL1Cur×GConf):=
 (Zdx x0 5).bind fun r3=>
 (Zdx r3.2 5).bind fun r4=>
 (Zl r4.2 6).bind fun r5=>
 Wm x0 x1 FU r5.2 (GScript.mk [] r3.1 r4.1) 0 r5.1
def Ziy (x0:GL1Cur) (x1:GConf):Option (GScript×GL1Cur×GConf):=
 (Zal x0 x1).bind fun r0=>
 if decide ((r0.1.posts.length:Int)=0)=true then (
  some (r0.1,r0.2.1,x1))
 else (
  (Zl r0.2.1 (r0.1.posts.length:Int)).bind fun r1=>
  (Zl r1.2 14).bind fun r2=>
  if decide (r2.1=0)=true then (
   (Yn r2.2 [(-1),0,99,4001]).bind fun r3=>
   (idx r0.1.posts r1.1).bind fun a0=>
   (setO r0.1.posts r1.1 {a0 with at_:=r3.1}).bind fun y0=>
   some ({r0.1 with posts:=y0},r3.2,x1))
  else (
   if decide (r2.1=1)=true then (
    (Zl r2.2 6).bind fun r4=>
    (idx r0.1.posts r1.1).bind fun a1=>
    (setO r0.1.posts r1.1 {a1 with who:=(subW r4.1 1)}).bind fun y1=>
    some ({r0.1 with posts:=y1},r4.2,x1))
   else (
    if decide (r2.1=2)=true then (
     (Zi4 r2.2).bind fun r5=>
     (idx r0.1.posts r1.1).bind fun a2=>
     (setO r0.1.posts r1.1 {a2 with req:=r5.1}).bind fun y2=>
     some ({r0.1 with posts:=y2},r5.2,x1))
    else (
     some (r0.1,r2.2,x1)))))
def Zhn (x0:GL1Cur) (x1:GConf) (k_L1:GL1Cur→GScript→Int→Int→Option (GScript×GL1Cur×GConf)) (vb0:GL1Cur) (vb1:GScript) (v0:Int) (v1:Int) (v2:Bool):Option (GScript×GL1Cur×GConf):=
 if v2=true then (
  (Yn vb0 [0,0,1,2,9]).bind fun r0=>
  (Zl r0.2 (x1.masters.length:Int)).bind fun r1=>
  (Ziw r1.2).bind fun r2=>
  (appI 80 vb1.posts [(GPost.mk (addW v0 r0.1) r1.1 r2.1)]).bind fun z0=>
  k_L1 r2.2 {vb1 with posts:=z0} (addW v0 r0.1) (subW v1 1))
 else (
  some (vb1,vb0,x1))
def Zl7 (x0:GL1Cur) (x1:GConf)  (k:GL1Cur→GScript→Int→Int→Option (GScript×GL1Cur×GConf)) (vb0:GL1Cur) (vb1:GScript) (v0:Int) (v1:Int):Option (GScript×GL1Cur×GConf):=
 if decide (v1 > 0)=true then (
  Zhn x0 x1 k vb0 vb1 v0 v1 (decide ((x1.masters.length:Int) > 0)))
 else (
  Zhn x0 x1 k vb0 vb1 v0 v1 false)
def Kd (x0:GL1Cur) (x1:GConf)  : Nat→GL1Cur→GScript→Int→Int→Option (GScript×GL1Cur×GConf)
 | 0,_,_,_,_=>none
 | m+1,vb0,vb1,v0,v1=>Zl7 x0 x1  (Kd x0 x1  m) vb0 vb1 v0 v1
def Zh8 (x0:GL1Cur) (x1:GConf):Option (GScript×GL1Cur×GConf):=
 (Zdx x0 5).bind fun r3=>
 (Zdx r3.2 5).bind fun r4=>
 (Zl r4.2 6).bind fun r5=>
 Kd x0 x1 FU r5.2 (GScript.mk [] r3.1 r4.1) 0 r5.1
def Zcx (x0:GL1Cur) (x1:GConf)  (vb0:GL1Cur) (vpers_0_64:List GMConf) (vb1:GScript):Option (GScript×GL1Cur×GConf):=
 if decide ((vb1.posts.length:Int)=0)=true then (
  (lenE x1.masters vpers_0_64).bind fun e0=>
  some (vb1,vb0,{x1 with masters:=vpers_0_64}))
 else (
  (Zl vb0 (vb1.posts.length:Int)).bind fun r0=>
  (Zl r0.2 14).bind fun r1=>
  if decide (r1.1=0)=true then (
   (Yn r1.2 [(-1),0,99,4001]).bind fun r2=>
   (idx vb1.posts r0.1).bind fun a0=>
   (setO vb1.posts r0.1 {a0 with at_:=r2.1}).bind fun y0=>
   (lenE x1.masters vpers_0_64).bind fun e0=>
   some ({vb1 with posts:=y0},r2.2,{x1 with masters:=vpers_0_64}))
  else (
   if decide (r1.1=1)=true then (
    (Zl r1.2 6).bind fun r3=>
    (idx vb1.posts r0.1).bind fun a1=>
    (setO vb1.posts r0.1 {a1 with who:=(subW r3.1 1)}).bind fun y1=>
    (lenE x1.masters vpers_0_64).bind fun e0=>
    some ({vb1 with posts:=y1},r3.2,{x1 with masters:=vpers_0_64}))
   else (
    if decide (r1.1=2)=true then (
     (Zi4 r1.2).bind fun r4=>
     (idx vb1.posts r0.1).bind fun a2=>
     (setO vb1.posts r0.1 {a2 with req:=r4.1}).bind fun y2=>
     (lenE x1.masters vpers_0_64).bind fun e0=>
     some ({vb1 with posts:=y2},r4.2,{x1 with masters:=vpers_0_64}))
    else (
     (lenE x1.masters vpers_0_64).bind fun e0=>
     some (vb1,r1.2,{x1 with masters:=vpers_0_64})))))
def Zgx (x0:GL1Cur) (x1:GConf):Option (GScript×GL1Cur×GConf):=
 if decide (x1.masters.length=0)=true then (
  (Zal x0 {x1 with masters:=[]}).bind fun r5=>
  Zcx x0 x1 r5.2.1 x1.masters r5.1)
 else (
  (Zh8 x0 x1).bind fun r5=>
  (lenE x1.masters r5.2.2.masters).bind fun q0=>
  Zcx x0 x1 r5.2.1 r5.2.2.masters r5.1)
def Zm6 (x0:GL1Cur):Option (GConf×GScript×GL1Cur):=
 (Zjl x0).bind fun r0=>
 (Zbf r0.2 16).bind fun r1=>
 if r1.1=true then (
  (Zpx r1.2).bind fun r2=>
  if decide (r2.1.masters.length=0)=true then (
   (Ziy r2.2 {r2.1 with masters:=[]}).bind fun r3=>
   some (r2.1,r3.1,r3.2.1))
  else (
   (Zgx r2.2 r2.1).bind fun r3=>
   (lenE r2.1.masters r3.2.2.masters).bind fun q0=>
   some ({r2.1 with masters:=r3.2.2.masters},r3.1,r3.2.1)))
 else (
  if decide (r0.1.masters.length=0)=true then (
   (Ziy r1.2 {r0.1 with masters:=[]}).bind fun r3=>
   some (r0.1,r3.1,r3.2.1))
  else (
   (Zgx r1.2 r0.1).bind fun r3=>
   (lenE r0.1.masters r3.2.2.masters).bind fun q1=>
   some ({r0.1 with masters:=r3.2.2.masters},r3.1,r3.2.1)))
def Zkb (x0:List Int):Option (GConf×GScript×Int):=
 (Zmk x0).bind fun r0=>
 (Zm6 r0).bind fun r1=>
 (Zl r1.2.2 62).bind fun r2=>
 some (r1.1,r1.2.1,(subW r2.1 1))
def Zjj (x0:List Int) (x1:Int):Option Int:=
 if decide (x1 < (x0.length:Int))=true then (
  (idx x0 x1).bind fun a0=>
  some (w64 a0))
 else (
  some (remW (addW (mulW x1 37) (mulW (x0.length:Int) 11)) 256))
def Zfn (x0:GBus) (x1:GScript) (x2:Int)  (k:GBus→(List GWave)→Int→Option (GBus×List GWave)) (vb0:GBus) (v0:List GWave) (v1:Int):Option (GBus×List GWave):=
 if decide (v1 < x2)=true then (
  (Zgd vb0 x1).bind fun r0=>
  (appI 72 v0 [r0.1]).bind fun z0=>
  k r0.2 z0 (addW v1 1))
 else (
  (Zj5 vb0).bind fun r1=>
  some (r1,v0))
def Zhi (x0:GBus) (x1:GScript) (x2:Int)  : Nat→GBus→(List GWave)→Int→Option (GBus×List GWave)
 | 0,_,_,_=>none
 | m+1,vb0,v0,v1=>Zfn x0 x1 x2  (Zhi x0 x1 x2  m) vb0 v0 v1
def Zgs (x0:GBus) (x1:GScript) (x2:Int)  (vb0:GBus) (v2:Bool):Option (GBus×List GWave):=
 if v2=true then (
  some (vb0,[]))
 else (
  Zhi x0 x1 x2 FU vb0 [] 0)
def Znh (x0:GBus) (x1:GScript) (x2:Int):Option (GBus×List GWave):=
 (Zj5 x0).bind fun r2=>
 (Zi2 x0).bind fun r3=>
 if (!r3)=true then (
  Zgs x0 x1 x2 r2 true)
 else (
  (Zx x2 0 (subW 4000 x0.now)).bind fun r4=>
  Zgs x0 x1 x2 r2 (!r4))
def Zch (x0:GConf) (x1:GScript)  (k:Int→Option Bool) (v0:Int):Option Bool:=
 if decide (v0 < (x1.posts.length:Int))=true then (
  (idx x1.posts v0).bind fun a0=>
  (Zj a0.at_ 0 4000).bind fun r0=>
  if (!r0)=true then (
   some false)
  else (
   (Zj a0.who 0 (subW (x0.masters.length:Int) 1)).bind fun r1=>
   if (!r1)=true then (
    some false)
   else (
    (Zl2 a0.req).bind fun r2=>
    if (!r2)=true then (
     some false)
    else (
     if decide (v0 > 0)=true then (
      (idx x1.posts (subW v0 1)).bind fun a1=>
      if decide (a0.at_ < a1.at_)=true then (
       some false)
      else (
       k (addW v0 1)))
     else (
      k (addW v0 1))))))
 else (
  (K0 x0).bind fun r3=>
  if r3=true then (
   if decide ((x1.posts.length:Int)≤20)=true then (
    if decide ((x1.waits.length:Int)≤20)=true then (
     some (decide ((x1.says.length:Int)≤20)))
    else (
     some false))
   else (
    some false))
  else (
   some false))
def Zd7 (x0:GConf) (x1:GScript)  : Nat→Int→Option Bool
 | 0,_=>none
 | m+1,v0=>Zch x0 x1  (Zd7 x0 x1  m) v0
def Zau (x0:GConf) (x1:GScript):Option Bool:=
 Zd7 x0 x1 FU 0
def Zdm (x0:GConf)  (k:Int→Int→Option Int) (v0:Int) (v1:Int):Option Int:=
 if decide (v1 < (x0.masters.length:Int))=true then (
  (Zdz x0 v1).bind fun r0=>
  (Zbz x0).bind fun r1=>
  k (addW v0 (mulW r0 r1)) (addW v1 1))
 else (
  some v0)
def Zfp (x0:GConf)  : Nat→Int→Int→Option Int
 | 0,_,_=>none
 | m+1,v0,v1=>Zdm x0  (Zfp x0  m) v0 v1
def Zk6 (x0:GConf):Option Int:=
 (K8 x0).bind fun r2=>
 if (!r2)=true then (
  some 0)
 else (
  (Zdo x0).bind fun r3=>
  Zfp x0 FU (mulW r3 (x0.masters.length:Int)) 0)
def Zd4 (x0:GConf)  (k:Int→Int→Option Int) (v0:Int) (v1:Int):Option Int:=
 if decide (v1 < (x0.masters.length:Int))=true then (
  (idx x0.masters v1).bind fun a0=>
  if a0.prio=true then (
   (Zbz x0).bind fun r0=>
   k (addW v0 (mulW (addW a0.cap 1) r0)) (addW v1 1))
  else (
   k v0 (addW v1 1)))
 else (
  some v0)
def Zbv (x0:GConf)  : Nat→Int→Int→Option Int
 | 0,_,_=>none
 | m+1,v0,v1=>Zd4 x0  (Zbv x0  m) v0 v1
def Zlr (x0:GConf):Option Int:=
 Zbv x0 FU 0 0
def Zd3 (x0:GConf) (x1:Int)  (v0:Bool):Option Int:=
 if v0=true then (
  some 0)
 else (
  (Zk6 x0).bind fun r0=>
  (Zdo x0).bind fun r1=>
  (Zlr x0).bind fun r2=>
  (Zbz x0).bind fun r3=>
  some (addW (addW (mulW 2 (addW (mulW x1 (addW (addW (mulW 2 r0) x0.maxSplit) r1)) r2)) (mulW 2 r3)) 10))
def Zao (x0:GConf) (x1:Int):Option Int:=
 (K8 x0).bind fun r4=>
 if (!r4)=true then (
  Zd3 x0 x1 true)
 else (
  (Zx x1 1 8).bind fun r5=>
  Zd3 x0 x1 (!r5))
def Zel (x0:GConf)  (k:Int→Int→Option Int) (v0:Int) (v1:Int):Option Int:=
 if decide (v1 < (x0.masters.length:Int))=true then (
  (Zef x0 v1).bind fun r0=>
  (Qs x0).bind fun r1=>
  k (addW v0 (mulW r0 r1)) (addW v1 1))
 else (
  some v0)
def Zfe (x0:GConf)  : Nat→Int→Int→Option Int
 | 0,_,_=>none
 | m+1,v0,v1=>Zel x0  (Zfe x0  m) v0 v1
def Zlm (x0:GConf):Option Int:=
 (K0 x0).bind fun r2=>
 if (!r2)=true then (
  some 0)
 else (
  (Jw x0).bind fun r3=>
  Zfe x0 FU (mulW (x0.masters.length:Int) r3) 0)
def Zd5 (x0:GConf)  (k:Int→Int→Option Int) (v0:Int) (v1:Int):Option Int:=
 if decide (v1 < (x0.masters.length:Int))=true then (
  (idx x0.masters v1).bind fun a0=>
  if a0.prio=true then (
   (Qs x0).bind fun r0=>
   k (addW v0 (mulW (addW a0.cap 1) r0)) (addW v1 1))
  else (
   k v0 (addW v1 1)))
 else (
  some v0)
def Zbx (x0:GConf)  : Nat→Int→Int→Option Int
 | 0,_,_=>none
 | m+1,v0,v1=>Zd5 x0  (Zbx x0  m) v0 v1
def Zla (x0:GConf):Option Int:=
 Zbx x0 FU 0 0
def Zdw (x0:GConf) (x1:Int)  (v0:Bool):Option Int:=
 if v0=true then (
  some 0)
 else (
  (Zlm x0).bind fun r0=>
  (Jw x0).bind fun r1=>
  (Zla x0).bind fun r2=>
  (Qs x0).bind fun r3=>
  some (addW (addW (mulW 2 (addW (mulW x1 (addW (addW (mulW 2 r0) x0.maxSplit) r1)) r2)) (mulW 2 r3)) 10))
def Zaj (x0:GConf) (x1:Int):Option Int:=
 (K0 x0).bind fun r4=>
 if (!r4)=true then (
  Zdw x0 x1 true)
 else (
  (Zj x1 1 8).bind fun r5=>
  Zdw x0 x1 (!r5))
def Zco (x0:GConf) (x1:GScript)  (k:Int→Option Bool) (v0:Int):Option Bool:=
 if decide (v0 < (x1.posts.length:Int))=true then (
  (idx x1.posts v0).bind fun a0=>
  (Zx a0.at_ 0 4000).bind fun r0=>
  if (!r0)=true then (
   some false)
  else (
   if decide (v0 > 0)=true then (
    (idx x1.posts (subW v0 1)).bind fun a1=>
    if decide (a0.at_ < a1.at_)=true then (
     some false)
    else (
     (Wb x0 a0.who).bind fun r1=>
     if (!r1)=true then (
      some false)
     else (
      (Zf3 a0.req).bind fun r2=>
      if (!r2)=true then (
       some false)
      else (
       k (addW v0 1)))))
   else (
    (Wb x0 a0.who).bind fun r1=>
    if (!r1)=true then (
     some false)
    else (
     (Zf3 a0.req).bind fun r2=>
     if (!r2)=true then (
      some false)
     else (
      k (addW v0 1))))))
 else (
  some true)
def Zdn (x0:GConf) (x1:GScript)  : Nat→Int→Option Bool
 | 0,_=>none
 | m+1,v0=>Zco x0 x1  (Zdn x0 x1  m) v0
def Ku (x0:GConf) (x1:GScript)  (v1:Bool):Option Bool:=
 if v1=true then (
  some false)
 else (
  Zdn x0 x1 FU 0)
def Zj0 (x0:GConf) (x1:GScript):Option Bool:=
 (K8 x0).bind fun r3=>
 if (!r3)=true then (
  Ku x0 x1 true)
 else (
  if decide ((x1.posts.length:Int) > 20)=true then (
   Ku x0 x1 true)
  else (
   if decide ((x1.waits.length:Int) > 20)=true then (
    Ku x0 x1 true)
   else (
    Ku x0 x1 (decide ((x1.says.length:Int) > 20)))))
def Zgj (x0:GConf) (x1:GScript) (x2:Int)  (vb0:GBus) (v0:Bool):Option (GBus×Bool):=
 if v0=true then (
  some (GBus.z0,false))
 else (
  (Znh vb0 x1 x2).bind fun r0=>
  some (r0.1,true))
def Zsc (x0:GConf) (x1:GScript) (x2:Int):Option (GBus×Bool):=
 (Zna x0).bind fun r1=>
 if (!r1.2)=true then (
  Zgj x0 x1 x2 r1.1 true)
 else (
  (Zj0 x0 x1).bind fun r2=>
  if (!r2)=true then (
   Zgj x0 x1 x2 r1.1 true)
  else (
   (Zx x2 0 4000).bind fun r3=>
   Zgj x0 x1 x2 r1.1 (!r3)))
def Zf2 (x0:List GDone) (x1:Int)  (k:Int→Int→Option Int) (v0:Int) (v1:Int):Option Int:=
 if decide (v1 < (x0.length:Int))=true then (
  (idx x0 v1).bind fun a0=>
  if decide (a0.who=x1)=true then (
   k (maxI v0 a0.cycle) (addW v1 1))
  else (
   k v0 (addW v1 1)))
 else (
  some v0)
def Zci (x0:List GDone) (x1:Int)  : Nat→Int→Int→Option Int
 | 0,_,_=>none
 | m+1,v0,v1=>Zf2 x0 x1  (Zci x0 x1  m) v0 v1
def Zii (x0:List GDone) (x1:Int):Option Int:=
 Zci x0 x1 FU (-1) 0
def Zfq (x0:List Int) (k_L2:GConf→GScript→GScript→Int→Int→Int→Option Bool) (vb0:GConf) (vb1:GScript) (vb2:GScript) (v0:Int) (v1:Int) (v2:Int) (v3:Bool):Option Bool:=
 if v3=true then (
  (idx vb1.posts v2).bind fun a0=>
  (appI 80 vb2.posts [a0]).bind fun z0=>
  k_L2 vb0 vb1 {vb1 with posts:=z0} v0 v1 (addW v2 1))
 else (
  k_L2 vb0 vb1 {vb1 with posts:=vb2.posts} v0 v1 (addW v2 1))
def Zfm (x0:List Int) (k_L3:GConf→GScript→GScript→Int→Int→Int→Option Bool) (vb0:GConf) (vb1:GScript) (vb2:GScript) (v0:Int) (v1:Int) (v4:Int) (v5:Bool):Option Bool:=
 if v5=true then (
  (idx vb1.posts v4).bind fun a1=>
  (appI 80 vb2.posts [a1]).bind fun z1=>
  k_L3 vb0 vb1 {vb1 with posts:=z1} v0 v1 (addW v4 1))
 else (
  k_L3 vb0 vb1 {vb1 with posts:=vb2.posts} v0 v1 (addW v4 1))
def X1 (x0:List Int)  (vb0:GConf) (vb1:GScript) (v0:Int) (v1:Int) (v6:Int) (v7:Bool):Option Bool:=
 if v7=true then (
  (Zau vb0 vb1).bind fun r0=>
  if (!r0)=true then (
   some true)
  else (
   (Zaj vb0 1).bind fun r1=>
   some (decide (v6=r1))))
 else (
  (Zsc vb0 vb1 (addW (addW v1 v6) 1)).bind fun r2=>
  (Zii r2.1.log v0).bind fun r3=>
  if r2.2=true then (
   if decide (r3≥v1)=true then (
    if decide (r3≤(addW v1 v6))=true then (
     (Zaj vb0 1).bind fun r4=>
     some (decide (v6=r4)))
    else (
     some false))
   else (
    some false))
  else (
   some false))
def Zea (x0:List Int)  (k:GConf→GScript→GScript→Int→Int→Int→Option Bool) (vb0:GConf) (vb1:GScript) (vb2:GScript) (v0:Int) (v1:Int) (v4:Int):Option Bool:=
 if decide (v4 < (vb1.posts.length:Int))=true then (
  (idx vb1.posts v4).bind fun a2=>
  if decide (a2.who≠v0)=true then (
   Zfm x0 k vb0 vb1 {vb1 with posts:=vb2.posts} v0 v1 v4 (decide (a2.at_ > v1)))
  else (
   Zfm x0 k vb0 vb1 {vb1 with posts:=vb2.posts} v0 v1 v4 false))
 else (
  (Zao vb0 1).bind fun r5=>
  (Zau vb0 {vb1 with posts:=vb2.posts}).bind fun r6=>
  if (!r6)=true then (
   X1 x0 vb0 {vb1 with posts:=vb2.posts} v0 v1 r5 true)
  else (
   if decide (r5 < 1)=true then (
    X1 x0 vb0 {vb1 with posts:=vb2.posts} v0 v1 r5 true)
   else (
    X1 x0 vb0 {vb1 with posts:=vb2.posts} v0 v1 r5 (decide ((addW (addW v1 r5) 1) > 4000)))))
def Zbj (x0:List Int)  : Nat→GConf→GScript→GScript→Int→Int→Int→Option Bool
 | 0,_,_,_,_,_,_=>none
 | m+1,vb0,vb1,vb2,v0,v1,v4=>Zea x0  (Zbj x0  m) vb0 vb1 vb2 v0 v1 v4
def Zei (x0:List Int)  (k:GConf→GScript→GScript→Int→Int→Int→Option Bool) (vb0:GConf) (vb1:GScript) (vb2:GScript) (v0:Int) (v1:Int) (v2:Int):Option Bool:=
 if decide (v2 < (vb1.posts.length:Int))=true then (
  (idx vb1.posts v2).bind fun a3=>
  if decide (a3.who≠v0)=true then (
   Zfq x0 k vb0 vb1 {vb1 with posts:=vb2.posts} v0 v1 v2 (decide (a3.at_≤v1)))
  else (
   Zfq x0 k vb0 vb1 {vb1 with posts:=vb2.posts} v0 v1 v2 false))
 else (
  (Zjj x0 2).bind fun r7=>
  (appI 80 vb2.posts [(GPost.mk v1 v0 (GReq.mk false (mulW (remW r7 48) 4) 2 0 false []))]).bind fun z2=>
  Zbj x0 FU vb0 vb1 {vb1 with posts:=z2} v0 v1 0)
def Zfg (x0:List Int)  : Nat→GConf→GScript→GScript→Int→Int→Int→Option Bool
 | 0,_,_,_,_,_,_=>none
 | m+1,vb0,vb1,vb2,v0,v1,v2=>Zei x0  (Zfg x0  m) vb0 vb1 vb2 v0 v1 v2
def Zdp (x0:List Int)  (k:GConf→GScript→Int→Option Bool) (vb0:GConf) (vb1:GScript) (v8:Int):Option Bool:=
 if decide (v8 < (vb0.masters.length:Int))=true then (
  (idx vb0.masters v8).bind fun a4=>
  (setO vb0.masters v8 {a4 with weight:=1}).bind fun y0=>
  k {vb0 with masters:=y0} vb1 (addW v8 1))
 else (
  (Zjj x0 0).bind fun r8=>
  (nzI (vb0.masters.length:Int)).bind fun n0=>
  (Zjj x0 1).bind fun r9=>
  Zfg x0 FU vb0 vb1 {vb1 with posts:=[]} (remW r8 (vb0.masters.length:Int)) (remW r9 30) 0)
def Zfo (x0:List Int)  : Nat→GConf→GScript→Int→Option Bool
 | 0,_,_,_=>none
 | m+1,vb0,vb1,v8=>Zdp x0  (Zfo x0  m) vb0 vb1 v8
def Zqf (x0:List Int):Option Bool:=
 (Zzb x0).bind fun r10=>
 if r10=true then (
  some true)
 else (
  (Zkb x0).bind fun r11=>
  (Zau r11.1 r11.2.1).bind fun r12=>
  if (!r12)=true then (
   some true)
  else (
   Zfo x0 FU (GConf.mk r11.1.masters 1 0 (remW r11.1.maxRetry 2) r11.1.maxSplit (addW 1 (remW r11.1.lockMost 2))) r11.2.1 0))
end Go.Proofs.YtciimjnpdmmfnaaGreat.Ev
namespace Go.Proofs.YtciimjnpdmmfnaaGreat.Ev
open Go Go.Proofs Go.RowKit
set_option linter.unusedVariables false
set_option linter.unusedSimpArgs false
def GL1Cur.enc (x:GL1Cur):List V:=[.tr (x.b.map encU),.lit (.int .i64 x.i),.lit (.int .i64 x.h)]
def GMConf.enc (x:GMConf):List V:=[.lit (.int .i64 x.weight),.lit (.bool x.prio),.lit (.int .i64 x.every),.lit (.int .i64 x.cap)]
theorem GMConf.enc_len (x:GMConf):(GMConf.enc x).length=4:=rfl
theorem GMConf.enc_lit (x:GMConf):(GMConf.enc x).all Zp1=true:=rfl
def GConf.enc (x:GConf):List V:=[.tr (x.masters.map GMConf.enc),.lit (.int .i64 x.quantum),.lit (.int .i64 x.maxWait),.lit (.int .i64 x.maxRetry),.lit (.int .i64 x.maxSplit),.lit (.int .i64 x.lockMost)]
def GReq.enc (x:GReq):List V:=[.lit (.bool x.write),.lit (.int .i64 x.addr),.lit (.int .i64 x.size),.lit (.int .i64 x.burst),.lit (.bool x.lock),.tr (x.data_.map encI)]
theorem GReq.enc_len (x:GReq):(GReq.enc x).length=6:=rfl
def GMst.enc (x:GMst):List V:=[.tr (x.queue.map GReq.enc),.lit (.int .i64 x.beat),.lit (.int .i64 x.done),.lit (.int .i64 x.tries),.lit (.bool x.parted),.lit (.bool x.broken)]
theorem GMst.enc_len (x:GMst):(GMst.enc x).length=6:=rfl
def GWrr.enc (x:GWrr):List V:=[.lit (.int .i64 x.at_),.lit (.int .i64 x.credit)]
def GBucket.enc (x:GBucket):List V:=[.lit (.int .i64 x.tokens),.lit (.int .i64 x.count)]
theorem GBucket.enc_len (x:GBucket):(GBucket.enc x).length=2:=rfl
theorem GBucket.enc_lit (x:GBucket):(GBucket.enc x).all Zp1=true:=rfl
def GBeat.enc (x:GBeat):List V:=[.lit (.bool x.live),.lit (.int .i64 x.who),.lit (.int .i64 x.beat),.lit (.bool x.first),.lit (.int .i64 x.by_),.lit (.int .i64 x.left),.lit (.int .i64 x.resp),.lit (.bool x.second)]
theorem GBeat.enc_len (x:GBeat):(GBeat.enc x).length=8:=rfl
def GDev.enc (x:GDev):List V:=[.tr (x.regs.map encI),.lit (.int .i64 x.timer),.tr (x.fifo.map encI)]
def GModel.enc (x:GModel):List V:=[.tr (x.mem.map encI),.tr (x.dev.regs.map encI),.lit (.int .i64 x.dev.timer),.tr (x.dev.fifo.map encI)]
def GDone.enc (x:GDone):List V:=[.lit (.int .i64 x.cycle),.lit (.int .i64 x.who),.lit (.bool x.write),.lit (.int .i64 x.addr),.lit (.int .i64 x.size),.lit (.int .i64 x.value),.lit (.int .i64 x.resp)]
theorem GDone.enc_len (x:GDone):(GDone.enc x).length=7:=rfl
theorem GDone.enc_lit (x:GDone):(GDone.enc x).all Zp1=true:=rfl
def GBus.enc (x:GBus):List V:=[.tr (x.conf.masters.map GMConf.enc),.lit (.int .i64 x.conf.quantum),.lit (.int .i64 x.conf.maxWait),.lit (.int .i64 x.conf.maxRetry),.lit (.int .i64 x.conf.maxSplit),.lit (.int .i64 x.conf.lockMost),.lit (.int .i64 x.now),.tr (x.m.map GMst.enc),.lit (.int .i64 x.arb.at_),.lit (.int .i64 x.arb.credit),.tr (x.buckets.map GBucket.enc),.tr (x.splits.map encI),.lit (.int .i64 x.holder),.lit (.int .i64 x.held),.lit (.int .i64 x.last),.lit (.bool x.addr.live),.lit (.int .i64 x.addr.who),.lit (.int .i64 x.addr.beat),.lit (.bool x.addr.first),.lit (.int .i64 x.addr.by_),.lit (.int .i64 x.addr.left),.lit (.int .i64 x.addr.resp),.lit (.bool x.addr.second),.lit (.bool x.data_.live),.lit (.int .i64 x.data_.who),.lit (.int .i64 x.data_.beat),.lit (.bool x.data_.first),.lit (.int .i64 x.data_.by_),.lit (.int .i64 x.data_.left),.lit (.int .i64 x.data_.resp),.lit (.bool x.data_.second),.tr (x.model.mem.map encI),.tr (x.model.dev.regs.map encI),.lit (.int .i64 x.model.dev.timer),.tr (x.model.dev.fifo.map encI),.lit (.int .i64 x.picks),.tr (x.log.map GDone.enc)]
def GPost.enc (x:GPost):List V:=[.lit (.int .i64 x.at_),.lit (.int .i64 x.who),.lit (.bool x.req.write),.lit (.int .i64 x.req.addr),.lit (.int .i64 x.req.size),.lit (.int .i64 x.req.burst),.lit (.bool x.req.lock),.tr (x.req.data_.map encI)]
theorem GPost.enc_len (x:GPost):(GPost.enc x).length=8:=rfl
def GScript.enc (x:GScript):List V:=[.tr (x.posts.map GPost.enc),.tr (x.waits.map encI),.tr (x.says.map encI)]
def GWave.enc (x:GWave):List V:=[.lit (.int .i64 x.cycle),.lit (.int .i64 x.addr),.lit (.int .i64 x.kind),.lit (.int .i64 x.who),.lit (.int .i64 x.data_),.lit (.int .i64 x.from_),.lit (.bool x.ready),.lit (.int .i64 x.resp),.lit (.int .i64 x.got)]
theorem GWave.enc_len (x:GWave):(GWave.enc x).length=9:=rfl
def GBus.ow (x:GBus):List V:=[.own 81 (x.conf.masters.map GMConf.enc),il x.conf.quantum,il x.conf.maxWait,il x.conf.maxRetry,il x.conf.maxSplit,il x.conf.lockMost,il x.now,.own 107 (x.m.map GMst.enc),il x.arb.at_,il x.arb.credit,.own 110 (x.buckets.map GBucket.enc),.own 3 (x.splits.map encI),il x.holder,il x.held,il x.last,bl x.addr.live,il x.addr.who,il x.addr.beat,bl x.addr.first,il x.addr.by_,il x.addr.left,il x.addr.resp,bl x.addr.second,bl x.data_.live,il x.data_.who,il x.data_.beat,bl x.data_.first,il x.data_.by_,il x.data_.left,il x.data_.resp,bl x.data_.second,.own 3 (x.model.mem.map encI),.own 3 (x.model.dev.regs.map encI),il x.model.dev.timer,.own 3 (x.model.dev.fifo.map encI),il x.picks,.own 52 (x.log.map GDone.enc)]
def GBus.rl (x:GBus) (n:Nat):List V:=[.sl (1,n) 0 (x.conf.masters.map GMConf.enc).length,il x.conf.quantum,il x.conf.maxWait,il x.conf.maxRetry,il x.conf.maxSplit,il x.conf.lockMost,il x.now,.sl (1,n+1) 0 (x.m.map GMst.enc).length,il x.arb.at_,il x.arb.credit,.sl (1,n+2) 0 (x.buckets.map GBucket.enc).length,.sl (1,n+3) 0 (x.splits.map encI).length,il x.holder,il x.held,il x.last,bl x.addr.live,il x.addr.who,il x.addr.beat,bl x.addr.first,il x.addr.by_,il x.addr.left,il x.addr.resp,bl x.addr.second,bl x.data_.live,il x.data_.who,il x.data_.beat,bl x.data_.first,il x.data_.by_,il x.data_.left,il x.data_.resp,bl x.data_.second,.sl (1,n+4) 0 (x.model.mem.map encI).length,.sl (1,n+5) 0 (x.model.dev.regs.map encI).length,il x.model.dev.timer,.sl (1,n+6) 0 (x.model.dev.fifo.map encI).length,il x.picks,.sl (1,n+7) 0 (x.log.map GDone.enc).length]
def GBus.bk (x:GBus) (n:Nat):List (Id×Blk):=[((1,n),⟨false,true,true,81,(x.conf.masters.map GMConf.enc)⟩),((1,n+1),⟨false,true,true,107,(x.m.map GMst.enc)⟩),((1,n+2),⟨false,true,true,110,(x.buckets.map GBucket.enc)⟩),((1,n+3),⟨false,true,true,3,(x.splits.map encI)⟩),((1,n+4),⟨false,true,true,3,(x.model.mem.map encI)⟩),((1,n+5),⟨false,true,true,3,(x.model.dev.regs.map encI)⟩),((1,n+6),⟨false,true,true,3,(x.model.dev.fifo.map encI)⟩),((1,n+7),⟨false,true,true,52,(x.log.map GDone.enc)⟩)]
def GBus.ff (n e b:Nat):List (Id×Id):=[((1,n),(e,b)),((1,n+1),(e,b+7)),((1,n+2),(e,b+10)),((1,n+3),(e,b+11)),((1,n+4),(e,b+31)),((1,n+5),(e,b+32)),((1,n+6),(e,b+34)),((1,n+7),(e,b+36))]
def GBus.nm (x:GBus):List O:=[.num (x.conf.masters.map GMConf.enc).length 0 0 [],.num (x.m.map GMst.enc).length 0 0 [],.num (x.buckets.map GBucket.enc).length 0 0 [],.num (x.splits.map encI).length 0 0 [],.num (x.model.mem.map encI).length 0 0 [],.num (x.model.dev.regs.map encI).length 0 0 [],.num (x.model.dev.fifo.map encI).length 0 0 [],.num (x.log.map GDone.enc).length 0 0 []]
theorem GBus.so (x:GBus) {q:List O} {p:Prop} (h:Scr q p):Scr q ((x.conf.masters.map GMConf.enc).length=(x.conf.masters.map GMConf.enc).length∧(x.m.map GMst.enc).length=(x.m.map GMst.enc).length∧(x.buckets.map GBucket.enc).length=(x.buckets.map GBucket.enc).length∧(x.splits.map encI).length=(x.splits.map encI).length∧(x.model.mem.map encI).length=(x.model.mem.map encI).length∧(x.model.dev.regs.map encI).length=(x.model.dev.regs.map encI).length∧(x.model.dev.fifo.map encI).length=(x.model.dev.fifo.map encI).length∧(x.log.map GDone.enc).length=(x.log.map GDone.enc).length∧p):=⟨rfl,rfl,rfl,rfl,rfl,rfl,rfl,rfl,h⟩
theorem GBus.sc (x:GBus) {q:List O} {p:Prop} (h:Scr q p):Scr (GBus.nm x++q) ((x.conf.masters.map GMConf.enc).length=(x.conf.masters.map GMConf.enc).length∧(x.m.map GMst.enc).length=(x.m.map GMst.enc).length∧(x.buckets.map GBucket.enc).length=(x.buckets.map GBucket.enc).length∧(x.splits.map encI).length=(x.splits.map encI).length∧(x.model.mem.map encI).length=(x.model.mem.map encI).length∧(x.model.dev.regs.map encI).length=(x.model.dev.regs.map encI).length∧(x.model.dev.fifo.map encI).length=(x.model.dev.fifo.map encI).length∧(x.log.map GDone.enc).length=(x.log.map GDone.enc).length∧p):=⟨rfl,rfl,rfl,rfl,rfl,rfl,rfl,rfl,h⟩
def GDev.ow (x:GDev):List V:=[.own 3 (x.regs.map encI),il x.timer,.own 3 (x.fifo.map encI)]
def GDev.rl (x:GDev) (n:Nat):List V:=[.sl (1,n) 0 (x.regs.map encI).length,il x.timer,.sl (1,n+1) 0 (x.fifo.map encI).length]
def GDev.bk (x:GDev) (n:Nat):List (Id×Blk):=[((1,n),⟨false,true,true,3,(x.regs.map encI)⟩),((1,n+1),⟨false,true,true,3,(x.fifo.map encI)⟩)]
def GDev.ff (n e b:Nat):List (Id×Id):=[((1,n),(e,b)),((1,n+1),(e,b+2))]
def GDev.nm (x:GDev):List O:=[.num (x.regs.map encI).length 0 0 [],.num (x.fifo.map encI).length 0 0 []]
theorem GDev.so (x:GDev) {q:List O} {p:Prop} (h:Scr q p):Scr q ((x.regs.map encI).length=(x.regs.map encI).length∧(x.fifo.map encI).length=(x.fifo.map encI).length∧p):=⟨rfl,rfl,h⟩
theorem GDev.sc (x:GDev) {q:List O} {p:Prop} (h:Scr q p):Scr (GDev.nm x++q) ((x.regs.map encI).length=(x.regs.map encI).length∧(x.fifo.map encI).length=(x.fifo.map encI).length∧p):=⟨rfl,rfl,h⟩
def GModel.ow (x:GModel):List V:=[.own 3 (x.mem.map encI),.own 3 (x.dev.regs.map encI),il x.dev.timer,.own 3 (x.dev.fifo.map encI)]
def GModel.rl (x:GModel) (n:Nat):List V:=[.sl (1,n) 0 (x.mem.map encI).length,.sl (1,n+1) 0 (x.dev.regs.map encI).length,il x.dev.timer,.sl (1,n+2) 0 (x.dev.fifo.map encI).length]
def GModel.bk (x:GModel) (n:Nat):List (Id×Blk):=[((1,n),⟨false,true,true,3,(x.mem.map encI)⟩),((1,n+1),⟨false,true,true,3,(x.dev.regs.map encI)⟩),((1,n+2),⟨false,true,true,3,(x.dev.fifo.map encI)⟩)]
def GModel.ff (n e b:Nat):List (Id×Id):=[((1,n),(e,b)),((1,n+1),(e,b+1)),((1,n+2),(e,b+3))]
def GModel.nm (x:GModel):List O:=[.num (x.mem.map encI).length 0 0 [],.num (x.dev.regs.map encI).length 0 0 [],.num (x.dev.fifo.map encI).length 0 0 []]
theorem GModel.so (x:GModel) {q:List O} {p:Prop} (h:Scr q p):Scr q ((x.mem.map encI).length=(x.mem.map encI).length∧(x.dev.regs.map encI).length=(x.dev.regs.map encI).length∧(x.dev.fifo.map encI).length=(x.dev.fifo.map encI).length∧p):=⟨rfl,rfl,rfl,h⟩
theorem GModel.sc (x:GModel) {q:List O} {p:Prop} (h:Scr q p):Scr (GModel.nm x++q) ((x.mem.map encI).length=(x.mem.map encI).length∧(x.dev.regs.map encI).length=(x.dev.regs.map encI).length∧(x.dev.fifo.map encI).length=(x.dev.fifo.map encI).length∧p):=⟨rfl,rfl,rfl,h⟩
def GScript.ow (x:GScript):List V:=[.own 74 (x.posts.map GPost.enc),.own 3 (x.waits.map encI),.own 3 (x.says.map encI)]
def GScript.rl (x:GScript) (n:Nat):List V:=[.sl (1,n) 0 (x.posts.map GPost.enc).length,.sl (1,n+1) 0 (x.waits.map encI).length,.sl (1,n+2) 0 (x.says.map encI).length]
def GScript.bk (x:GScript) (n:Nat):List (Id×Blk):=[((1,n),⟨false,true,true,74,(x.posts.map GPost.enc)⟩),((1,n+1),⟨false,true,true,3,(x.waits.map encI)⟩),((1,n+2),⟨false,true,true,3,(x.says.map encI)⟩)]
def GScript.ff (n e b:Nat):List (Id×Id):=[((1,n),(e,b)),((1,n+1),(e,b+1)),((1,n+2),(e,b+2))]
def GScript.nm (x:GScript):List O:=[.num (x.posts.map GPost.enc).length 0 0 [],.num (x.waits.map encI).length 0 0 [],.num (x.says.map encI).length 0 0 []]
theorem GScript.so (x:GScript) {q:List O} {p:Prop} (h:Scr q p):Scr q ((x.posts.map GPost.enc).length=(x.posts.map GPost.enc).length∧(x.waits.map encI).length=(x.waits.map encI).length∧(x.says.map encI).length=(x.says.map encI).length∧p):=⟨rfl,rfl,rfl,h⟩
theorem GScript.sc (x:GScript) {q:List O} {p:Prop} (h:Scr q p):Scr (GScript.nm x++q) ((x.posts.map GPost.enc).length=(x.posts.map GPost.enc).length∧(x.waits.map encI).length=(x.waits.map encI).length∧(x.says.map encI).length=(x.says.map encI).length∧p):=⟨rfl,rfl,rfl,h⟩
def ffi (n:Nat):Nat→List (Id×Id)
 | 0=>[]
 | m+1=>((1,n),(1,n))::ffi (n+1) m
abbrev bx (n:Nat) (r:List V):Id×Blk:=((1,n),⟨true,true,true,0,[r]⟩)
abbrev rx (n t:Nat) (R:List (List V)):Id×Blk:=((1,n),⟨false,true,true,t,R⟩)
end Go.Proofs.YtciimjnpdmmfnaaGreat.Ev
