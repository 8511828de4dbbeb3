/- A part of the proof of FnOneMaster: see the text YtciimjnpdmmfnaaGreatLawFnOneMaster for what is proved and its conditions. Conditions here: those in each line. -/
import Derived.Test.YtciimjnpdmmfnaaGreatA2
import Derived.KernelRfl
import GoSem.ClaimData
namespace Go.Proofs.YtciimjnpdmmfnaaGreat.Ev
open Go Go.RowKit KM
set_option linter.unusedVariables false
set_option linter.unusedSimpArgs false
section
variable {P:Program} {M:Hints}
def OpOk (P:Program) (M:Hints) (f:Operand→V) (s:St) (k:Nat) (o:Oper) (y:V×St):Prop:=∃C,Zcr P M C∧Yj P M C f s k o=some y
theorem Zgz (hP:FuncsOk P) {f:Operand→V} {s:St} {k:Nat} {o:Oper}:KP (opt (Yj P M Yx f s k o)) (OpOk P M f s k o):=J4.mono fun y h=>⟨Yx,Y6 hP,h⟩
theorem Yk3 (hP:FuncsOk P) {f:Operand→V} {s:St} {k:Nat} {d:Option Tmp} {ty t yt:TypeId} {pos:String} {af:Array Edge} {g:Option (Nat×Bool)} {op:BinOp} {x y:Operand}:KP (opK P M f s k ⟨d,.binOp op t x y yt,ty,pos,af,g⟩) (OpOk P M f s k ⟨d,.binOp op t x y yt,ty,pos,af,g⟩):=by
 have base:∀{v:V},binX P op t x y (f x) (f y)=some v→(∃a b,f x=.lit a∧f y=.lit b)→Yj P M Yx f s k ⟨d,.binOp op t x y yt,ty,pos,af,g⟩=some (v,s):=fun {v} h ⟨a,b,h1,h2⟩=>by
  have e:W2 P f ⟨d,.binOp op t x y yt,ty,pos,af,g⟩=some v:=by rw[Ykz];exact h
  simp only[Yj,h1,h2,e,Option.map_some]
 have base2:∀{v:V},binX P op t x y (f x) (f y)=some v→(∃a b,f x=.agg a∧f y=.agg b)→Yj P M Yx f s k ⟨d,.binOp op t x y yt,ty,pos,af,g⟩=some (v,s):=fun {v} h ⟨a,b,h1,h2⟩=>by
  have e:W2 P f ⟨d,.binOp op t x y yt,ty,pos,af,g⟩=some v:=by rw[Ykz];exact h
  simp only[Yj,h1,h2,e,Option.map_some]
 simp only[opK]
 split
 ·rename_i k1 a k2 b h1 h2
  refine Zd Yl8 (fun v hv=>Zq ⟨Yx,Y6 hP,base ?_ ⟨_,_,h1,h2⟩⟩)
  rw[h1,h2,Ym3];exact hv
 ·rename_i a b h1 h2
  refine Zd Ym1 (fun v hv=>Zq ⟨Yx,Y6 hP,base ?_ ⟨_,_,h1,h2⟩⟩)
  rw[h1,h2,Yn1];exact hv
 ·rename_i a b h1 h2
  split
  ·rename_i h3
   refine Zq ⟨Yx,Y6 hP,base ?_ ⟨_,_,h1,h2⟩⟩
   rw[h1,h2,Yl2 h3]
  ·rename_i h3
   refine Zq ⟨Yx,Y6 hP,base ?_ ⟨_,_,h1,h2⟩⟩
   rw[h1,h2,Yn2 h3]
  ·exact Zg
 ·rename_i xs ys h1 h2
  refine Xm (fun hc=>Zd J4 (fun b hb=>?_)) (fun _=>Zg)
  split
  ·exact Zq ⟨Yx,Y6 hP,base2 (by rw[h1,h2,Yjt hc.1 hc.2.1 hc.2.2 hb]) ⟨_,_,h1,h2⟩⟩
  ·exact Zq ⟨Yx,Y6 hP,base2 (by rw[h1,h2,Ylg hc.1 hc.2.1 hc.2.2 hb]) ⟨_,_,h1,h2⟩⟩
  ·exact Zg
 ·rename_i hy
  split
  all_goals first
   | exact Zgz hP
   | (
     rename_i hx
     refine Xm (fun he=>Zd Zf3 (fun rows hr=>Zd Zy (fun _ hn=>?_))) (fun _=>Zg)
     obtain⟨r,l,rfl⟩:=List.exists_cons_of_ne_nil hn
     have hf:¬(Xo P t).isSome=false:=by rw[he];decide
     split
     ·exact Zq ⟨Yx,Y6 hP,by simp only[Yj,hx,hy];rw[if_neg hf];rw[hx] at hr;rw[hr]⟩
     ·exact Zq ⟨Yx,Y6 hP,by simp only[Yj,hx,hy];rw[if_neg hf];rw[hx] at hr;rw[hr]⟩
     ·exact Zg)
 ·exact Zgz hP
theorem Z7a (hP:FuncsOk P) {f:Operand→V} {s:St} {k:Nat} {d:Option Tmp} {ty t:TypeId} {pos:String} {af:Array Edge} {g:Option (Nat×Bool)} {n:Nat} {parts:Array (Nat×Operand)}:KP (opK P M f s k ⟨d,.buildSlice t n parts,ty,pos,af,g⟩) (OpOk P M f s k ⟨d,.buildSlice t n parts,ty,pos,af,g⟩):=by
 simp only[opK]
 refine Zd J4 (fun e he=>Zd J4 (fun z hz=>Xm (fun _=>Zg) (fun hc=>Zd J4 (fun cs hcs=>Zd Ybl (fun y hy=>Zq ⟨Yx,Y6 hP,?_⟩)))))
 simp only[Yj,he,Option.bind_some,hz]
 rw[if_neg hc,hcs,Option.bind_some,hy]
 rfl
theorem Yl9 (hP:FuncsOk P) {f:Operand→V} {s:St} {k:Nat} {d:Option Tmp} {ty:TypeId} {pos:String} {af:Array Edge} {g:Option (Nat×Bool)} {c a b:Operand}:KP (opK P M f s k ⟨d,.pick c a b,ty,pos,af,g⟩) (OpOk P M f s k ⟨d,.pick c a b,ty,pos,af,g⟩):=by
 simp only[opK]
 split
 ·rename_i t hc
  refine Zd Yct (fun e he=>?_)
  subst he
  cases t with
  | true=>exact Zq ⟨Yx,Y6 hP,by simp only[Yj,hc,if_true]⟩
  | false=>exact Zq ⟨Yx,Y6 hP,by simp only[Yj,hc,Bool.false_eq_true,if_false]⟩
 ·exact Zg
theorem Z9i (hP:FuncsOk P) {f:Operand→V} {s:St} {k:Nat} {d:Option Tmp} {ty t:TypeId} {pos:String} {af:Array Edge} {g:Option (Nat×Bool)} {x ix:Operand}:KP (opK P M f s k ⟨d,.indexAddr t x ix,ty,pos,af,g⟩) (OpOk P M f s k ⟨d,.indexAddr t x ix,ty,pos,af,g⟩):=by
 simp only[opK]
 refine Zd J4 (fun e he=>Xm (fun _=>Zg) (fun hz=>Zd W8 (fun o _=>?_)))
 split
 ·rename_i n r
  refine Xm (fun hr=>Zd Zy (fun _ hn=>?_)) (fun _=>Zg)
  split
  ·rename_i i off len hx
   refine Zd Zy (fun _ hlt=>?_)
   split
   ·rename_i b hb
    refine Zd Zy (fun _ hrow=>Zq ⟨Yx,Y6 hP,?_⟩)
    rw[Yge] at hrow ⊢
    simp only[Yj,he,Option.bind_some,hz,if_false,hn,hx,hlt,if_true,hb,hrow,hr]
   ·exact Zg
  ·rename_i rows hx
   refine Zd Zy (fun _ hrow=>Zq ⟨Yx,Y6 hP,?_⟩)
   simp only[Yj,he,Option.bind_some,hz,if_false,hn,hx,if_true,hrow,hr]
  ·rename_i rows hx
   refine Zd Zy (fun _ hrow=>Zq ⟨Yx,Y6 hP,?_⟩)
   simp only[Yj,he,Option.bind_some,hz,if_false,hn,hx,if_true,hrow,hr]
  ·exact Zg
 ·exact Zg
theorem Ymk (hP:FuncsOk P) {f:Operand→V} {s:St} {k:Nat} {d:Option Tmp} {ty t:TypeId} {pos:String} {af:Array Edge} {g:Option (Nat×Bool)} {a:Operand}:KP (opK P M f s k ⟨d,.load t a,ty,pos,af,g⟩) (OpOk P M f s k ⟨d,.load t a,ty,pos,af,g⟩):=by
 simp only[opK]
 split
 ·rename_i i j n ha
  split
  ·rename_i b hb
   split
   ·exact Zgz hP
   ·refine Zd W8 (fun o _=>?_)
    split
    ·rename_i row
     refine Zd Zy (fun _ hrow=>Xm (fun hl=>Zd J4 (fun v hv=>Zq ⟨Yx,Y6 hP,?_⟩)) (fun _=>Zg))
     simp only[Yj,ha,hb,Option.bind_some,hrow,hl,if_true,hv,Option.map_some]
    ·exact Zg
  ·exact Zg
 ·exact Zgz hP
theorem Ykb (hP:FuncsOk P) {f:Operand→V} {s:St} {k:Nat} {d:Option Tmp} {ty t:TypeId} {pos:String} {af:Array Edge} {g:Option (Nat×Bool)} {a x:Operand}:KP (opK P M f s k ⟨d,.store t a x,ty,pos,af,g⟩) (OpOk P M f s k ⟨d,.store t a x,ty,pos,af,g⟩):=by
 simp only[opK]
 split
 ·rename_i i j n ha
  split
  ·rename_i b hb
   split
   ·exact Zgz hP
   ·rename_i hbx
    refine Zd W8 (fun o _=>?_)
    split
    ·rename_i row R
     refine Zd Zy (fun _ hrow=>Zd J4 (fun cs hcs=>Xm (fun hc=>Zd Yc1 (fun y hy=>?_)) (fun _=>Zg)))
     split
     ·rename_i b2 hb2
      refine Zd Zy (fun _ hR=>Zq ⟨Yx,Y6 hP,?_⟩)
      have hc':b.own=true∧cs.length=Zk P t∧n+Zk P t≤row.length∧Zk P t≠0:=hc
      simp only[Yj,ha,hb,Option.bind_some,hrow,hcs]
      rw[if_pos hc',hbx]
      simp only[Bool.false_eq_true,if_false,hy,Option.bind_some,hb2,hR]
     ·exact Zg
    ·exact Zg
  ·exact Zg
 ·exact Zg
def Ycl (x:V) (l h:Nat):Option V:=match x with
 | .sl id off _=>some (.sl id (off+l) (h - l))
 | .tr rows=>some (.tr ((rows.drop l).take (h - l)))
 | .vw rows=>some (.vw ((rows.drop l).take (h - l)))
 | _=>none
theorem Zx6 {s:St} {t e:TypeId} {x:V} {rows:List (List V)} {lo hi:Option Operand} {f:Operand→V} {l h:Nat} (he:Xo P t=some e) (hr:s.rowsOf x=some rows) (hl:match lo with|some z=>Wp (f z)=some l|none=>l=0) (hh:match hi with|some z=>Wp (f z)=some h|none=>rows.length=h)
  (h1:l≤h∧h≤rows.length) (h2:Zgk (Zk P e) rows=true) (h3:Zk P e≠0):Zmc P s t x (lo.map f) (hi.map f)=Ycl x l h:=by
 have key:∀(a b:Option Nat),a=some l→b=some h→(a.bind fun l=>b.bind fun h=>if l≤h∧h≤rows.length∧Zgk (Zk P e) rows=true∧Zk P e≠0 then Ycl x l h else none)=Ycl x l h:=by
  rintro _ _ rfl rfl
  simp only[Option.bind_some]
  rw[if_pos ⟨h1.1,h1.2,h2,h3⟩]
 unfold Zmc
 rw[he,Option.bind_some,hr,Option.bind_some]
 refine key _ _ ?_ ?_
 ·cases lo with
  | none=>simp only at hl;rw[hl];rfl
  | some z=>exact hl
 ·cases hi with
  | none=>simp only at hh;rw[←hh];rfl
  | some z=>exact hh
theorem Yke (hP:FuncsOk P) {f:Operand→V} {s:St} {k:Nat} {d:Option Tmp} {ty t:TypeId} {pos:String} {af:Array Edge} {g:Option (Nat×Bool)} {x:Operand} {lo hi mx:Option Operand}:KP (opK P M f s k ⟨d,.slice t x lo hi mx,ty,pos,af,g⟩) (OpOk P M f s k ⟨d,.slice t x lo hi mx,ty,pos,af,g⟩):=by
 cases mx with
 | some m=>exact Zgz hP
 | none=>
  simp only[opK]
  split
  ·rename_i id off len hx
   refine Zd W8 (fun o _=>?_)
   split
   ·rename_i l h n R
    refine Zd J4 (fun e he=>Zd Zf3 (fun rows hr=>Zd Zy (fun _ hl=>Zd Zy (fun _ hh=>Zd Zy (fun _ h1=>Zd Zy (fun _ h2=>Zd Zy (fun _ h4=>Xm (fun h3=>Zq ⟨Yx,Y6 hP,?_⟩) (fun _=>Zg))))))))
    simp only[Yj,Zx6 he hr hl hh h1 h2 h3]
    rw[hx,h4,Yge]
    rfl
   ·exact Zg
  ·rename_i rws hx
   refine Zd W8 (fun o _=>?_)
   split
   ·rename_i l h n R
    refine Zd J4 (fun e he=>Zd Zf3 (fun rows hr=>Zd Zy (fun _ hl=>Zd Zy (fun _ hh=>Zd Zy (fun _ h1=>Zd Zy (fun _ h2=>Zd Zy (fun _ h4=>Xm (fun h3=>Zq ⟨Yx,Y6 hP,?_⟩) (fun _=>Zg))))))))
    simp only[Yj,Zx6 he hr hl hh h1 h2 h3]
    rw[hx] at hr ⊢
    have:rws=rows:=by simpa [St.rowsOf] using hr
    rw[←h4,←this]
    rfl
   ·exact Zg
  ·rename_i rws hx
   refine Zd W8 (fun o _=>?_)
   split
   ·rename_i l h n R
    refine Zd J4 (fun e he=>Zd Zf3 (fun rows hr=>Zd Zy (fun _ hl=>Zd Zy (fun _ hh=>Zd Zy (fun _ h1=>Zd Zy (fun _ h2=>Zd Zy (fun _ h4=>Xm (fun h3=>Zq ⟨Yx,Y6 hP,?_⟩) (fun _=>Zg))))))))
    simp only[Yj,Zx6 he hr hl hh h1 h2 h3]
    rw[hx] at hr ⊢
    have:rws=rows:=by simpa [St.rowsOf] using hr
    rw[←h4,←this]
    rfl
   ·exact Zg
  ·exact Zgz hP
theorem Z97 (hP:FuncsOk P) {f:Operand→V} {s:St} {k:Nat} {d:Option Tmp} {ty t:TypeId} {pos:String} {af:Array Edge} {g:Option (Nat×Bool)} {l c:Operand}:KP (opK P M f s k ⟨d,.makeSlice t l c,ty,pos,af,g⟩) (OpOk P M f s k ⟨d,.makeSlice t l c,ty,pos,af,g⟩):=by
 simp only[opK]
 refine Zd W8 (fun o _=>?_)
 split
 ·rename_i n R
  refine Zd J4 (fun e he=>Zd J4 (fun z hz=>Zd Zy (fun _ hl=>Zd Zy (fun _ hc=>Zd Zy (fun _ h1=>Zd Zy (fun _ hR=>Xm (fun h2=>Zq ⟨Yx,Y6 hP,?_⟩) (fun _=>Zg)))))))
  simp only[Yj,he,hz,Option.bind_some,hl,hc]
  rw[if_pos ⟨by trivial,h1.1,h1.2,h2.1,h2.2⟩,hR,←hR,List.length_replicate]
 ·exact Zg
theorem Ynr (hP:FuncsOk P) {f:Operand→V} {s:St} {k:Nat} {d:Option Tmp} {ty:TypeId} {pos:String} {af:Array Edge} {g:Option (Nat×Bool)} {c:Call}:KP (opK P M f s k ⟨d,.call c,ty,pos,af,g⟩) (OpOk P M f s k ⟨d,.call c,ty,pos,af,g⟩):=by
 simp only[opK]
 split
 ·rename_i x hc
  split
  ·rename_i h caps hx
   refine (Ynk hP).mono fun y ⟨C,h1,h2⟩=>⟨C,h1,?_⟩
   simp only[Yj,hc,hx,h2]
  ·exact Zg
 ·rename_i hc
  split
  ·rename_i b x t t' ha ht
   refine Xm (fun he=>Ypb.kp.mono fun y hy=>⟨Yx,Y6 hP,?_⟩) (fun _=>Zg)
   simp only[Yj,hc,ha,ht,he,if_true]
   rw[←he];exact hy
  ·exact Zg
 ·rename_i hc
  split
  ·rename_i x t ha ht
   split
   ·rename_i i off n hx
    refine Zd W8 (fun o _=>?_)
    split
    ·refine Zd Zy (fun _ hn=>Xm (fun he=>Zq ⟨Yx,Y6 hP,?_⟩) (fun _=>Zg))
     simp only[Yj,hc,ha,ht,hx,he,if_true,hn]
    ·exact Zg
   ·rename_i rows hx
    refine Zd W8 (fun o _=>?_)
    split
    ·refine Zd Zy (fun _ hn=>Xm (fun he=>Zq ⟨Yx,Y6 hP,?_⟩) (fun _=>Zg))
     simp only[Yj,hc,ha,ht,hx,he,if_true,hn]
    ·exact Zg
   ·rename_i rows hx
    refine Zd W8 (fun o _=>?_)
    split
    ·refine Zd Zy (fun _ hn=>Xm (fun he=>Zq ⟨Yx,Y6 hP,?_⟩) (fun _=>Zg))
     simp only[Yj,hc,ha,ht,hx,he,if_true,hn]
    ·exact Zg
   ·exact Zgz hP
  ·exact Zg
 ·rename_i hc
  split
  ·rename_i x t ha ht
   refine Zd J4 (fun e he=>Zd J4 (fun z hz=>?_))
   split
   ·rename_i i off n hx
    split
    ·rename_i b hb
     refine Zd W8 (fun o _=>?_)
     split
     ·refine Xm (fun h=>Zd Zy (fun _ h1=>Zd Zy (fun _ h2=>Zq ⟨Yx,Y6 hP,?_⟩))) (fun _=>Zg)
      simp only[Yj,hc,ha,ht,hx,he,hz,hb,Option.bind_some]
      rw[if_pos ⟨h.1,h.2.1,h1,h.2.2.1,h.2.2.2.1,h.2.2.2.2⟩,h2]
     ·exact Zg
    ·exact Zg
   ·exact Zg
  ·exact Zg
 ·exact Zgz hP
theorem Yki (hP:FuncsOk P) {f:Operand→V} {s:St} {k:Nat} {o:Oper}:KP (opK P M f s k o) (OpOk P M f s k o):=by
 obtain⟨d,op,ty,pos,af,g⟩:=o
 cases op with
 | binOp op t x y yt=>exact Yk3 hP
 | pick c a b=>exact Yl9 hP
 | buildSlice t n parts=>exact Z7a hP
 | indexAddr t x ix=>exact Z9i hP
 | load t a=>exact Ymk hP
 | store t a x=>exact Ykb hP
 | slice t x lo hi mx=>exact Yke hP
 | makeSlice t l c=>exact Z97 hP
 | call c=>exact Ynr hP
 | _=>simp only[opK];exact Zgz hP
def Z59 (s:St) (ops:Array Oper) (o:Oper):KM (Bool×St):=
 match o.guard with
 | none=>ret (true,s)
 | some (j,b)=>match (ops[j]?).bind (·.dst) with
  | some d=>match s.env d with
   | .lit (.bool c)=>bnd hear fun o=>match o with
    | .t e=>bnd (obl (c=e)) fun _=>ret (e == b,⟨upd s.env d (.lit (.bool e)),s.heap,s.ep⟩)
    | .k=>ret (c == b,s)
    | _=>fail
   | .tup []=>ret (false,s)
   | _=>fail
  | none=>fail
theorem Z8k {s:St} {ops:Array Oper} {o:Oper}:KP (Z59 s ops o) (fun y=>wanted s ops o=some y.1∧y.2=s):=by
 unfold Z59 wanted
 cases o.guard with
 | none=>exact Zq ⟨rfl,rfl⟩
 | some p=>
  obtain⟨j,b⟩:=p
  simp only
  cases hd:(ops[j]?).bind (·.dst) with
  | none=>exact Zg
  | some d=>
   simp only[Option.map_some]
   cases he:s.env d with
   | lit v=>cases v with
    | bool c=>
     refine Zd W8 (fun q _=>?_)
     cases q with
     | t e=>
      refine Zd Zy (fun _ hc=>Zq ⟨by subst hc;rfl,?_⟩)
      have:upd s.env d (.lit (.bool e))=s.env:=by
       funext t
       unfold upd
       split
       ·rename_i h;rw[h,he,hc]
       ·rfl
      rw[this]
     | k=>exact Zq ⟨rfl,rfl⟩
     | _=>exact Zg
    | _=>exact Zg
   | tup l=>cases l with
    | nil=>exact Zq ⟨rfl,rfl⟩
    | cons x l=>exact Zg
   | _=>exact Zg
def opsK (P:Program) (M:Hints) (ops:Array Oper):(k:Nat)→List Oper→(s:St)→KM St
 | _,[],s=>ret s
 | k,o::rest,s=>bnd (Z59 s ops o) fun g=>if g.1 then bnd (opK P M g.2.opV g.2 k o) fun y=>opsK P M ops (k+1) rest (y.2.put o.dst y.1) else opsK P M ops (k+1) rest (g.2.put o.dst (.tup []))
theorem Yen {C C':Nat→X9} {ops:Array Oper}:∀(l:List Oper) {k:Nat} {s:St},(∀j,k≤j→C j=C' j)→Zee P M C ops s k l=Zee P M C' ops s k l:=by
 intro l
 induction l with
 | nil=>intros;rfl
 | cons o l ih=>
  intro k s h
  simp only[Zee,h k (Nat.le_refl _)]
  simp only[fun s=>ih (k:=k+1) (s:=s) (fun j hj=>h j (by omega))]
theorem Ybt {C C':Nat→X9} {ops:Array Oper}:∀(l:List Oper) {k:Nat} {s:St} {recs:List Rec},(∀j,k≤j→C j=C' j)→J3 P M C ops s recs k l=J3 P M C' ops s recs k l:=by
 intro l
 induction l with
 | nil=>intros;rfl
 | cons o l ih=>
  intro k s recs h
  simp only[J3,h k (Nat.le_refl _)]
  simp only[fun s recs=>ih (k:=k+1) (s:=s) (recs:=recs) (fun j hj=>h j (by omega))]
def setC (C:Nat→X9) (k:Nat) (D:X9):Nat→X9:=fun j=>if j=k then D else C j
theorem Yo2 (hP:FuncsOk P) {ops:Array Oper}:∀(l:List Oper) {k:Nat} {s:St},KP (opsK P M ops k l s) (fun s'=>∃C:Nat→X9,(∀j,Zcr P M (C j))∧Zee P M C ops s k l=some s'):=by
 intro l
 induction l with
 | nil=>intro k s;exact Zq ⟨fun _=>Yx,fun _=>Y6 hP,rfl⟩
 | cons o l ih=>
  intro k s
  simp only[opsK,Zee]
  refine Zd Z8k (fun g hg=>?_)
  obtain⟨g,s0⟩:=g
  obtain⟨hg,hs0⟩:=hg
  simp only at hg hs0
  subst hs0
  cases g with
  | true=>
   simp only[if_true]
   refine Zd (Yki hP) (fun y hy=>ih.mono fun s' ⟨C,h1,h2⟩=>?_)
   obtain⟨D,d1,d2⟩:=hy
   refine⟨setC C k D,fun j=>?_,?_⟩
   ·unfold setC;split
    ·exact d1
    ·exact h1 j
   ·rw[hg]
    simp only[Option.bind_some,if_true,setC]
    unfold evOp
    rw[d2,Option.bind_some,←h2]
    exact Yen l (fun j hj=>by simp only[setC];rw[if_neg (by omega)])
  | false=>
   simp only[Bool.false_eq_true,if_false]
   refine ih.mono fun s' ⟨C,h1,h2⟩=>⟨C,h1,?_⟩
   rw[hg]
   exact h2
def Z6m (P:Program) (M:Hints) (ops:Array Oper):(recs:List Rec)→(k:Nat)→List Oper→(s:St)→KM St
 | _,_,[],s=>ret s
 | recs,k,o::rest,s=>bnd (Z59 s ops o) fun g=>if g.1 then (if Zj0 ops g.2.ep recs (Zpp recs o) k o (touch g.2 o) (Zi3 M g.2.opV o)=true then
   bnd (opK P M g.2.opV (g.2.only (touch g.2 o)) k o) fun y=>Z6m P M ops (recs++[⟨Zpp recs o,touch g.2 o,Zi3 M g.2.opV o⟩]) (k+1) rest ((g.2.merge k (touch g.2 o) (Zi3 M g.2.opV o) y.2).put o.dst y.1) else fail)
  else if Zj0 ops g.2.ep recs (Zpp recs o) k o [] false=true then Z6m P M ops (recs++[⟨Zpp recs o,[],false⟩]) (k+1) rest (g.2.put o.dst (.tup [])) else fail
theorem Ylz (hP:FuncsOk P) {ops:Array Oper}:∀(l:List Oper) {k:Nat} {s:St} {recs:List Rec},KP (Z6m P M ops recs k l s) (fun s'=>∃C:Nat→X9,(∀j,Zcr P M (C j))∧J3 P M C ops s recs k l=some s'):=by
 intro l
 induction l with
 | nil=>intro k s recs;exact Zq ⟨fun _=>Yx,fun _=>Y6 hP,rfl⟩
 | cons o l ih=>
  intro k s recs
  simp only[Z6m,J3]
  refine Zd Z8k (fun g hg=>?_)
  obtain⟨g,s0⟩:=g
  obtain⟨hg,hs0⟩:=hg
  simp only at hg hs0
  subst hs0
  cases g with
  | true=>
   simp only[if_true]
   refine Xm (fun ha=>Zd (Yki hP) (fun y hy=>ih.mono fun s' ⟨C,h1,h2⟩=>?_)) (fun _=>Zg)
   obtain⟨D,d1,d2⟩:=hy
   refine⟨setC C k D,fun j=>?_,?_⟩
   ·unfold setC;split
    ·exact d1
    ·exact h1 j
   ·rw[hg]
    simp only[Option.bind_some,if_true,setC,ha]
    rw[d2,Option.bind_some,←h2]
    exact Ybt l (fun j hj=>by simp only[setC];rw[if_neg (by omega)])
  | false=>
   simp only[Bool.false_eq_true,if_false]
   refine Xm (fun ha=>ih.mono fun s' ⟨C,h1,h2⟩=>⟨C,h1,?_⟩) (fun _=>Zg)
   rw[hg]
   simp only[Option.bind_some,Bool.false_eq_true,if_false,ha,if_true]
   exact h2
end
inductive It where
 | c (x:Code)
 | blk (i:Nat)
def SX (P:Program) (R:Ex→St→Prop):List It→Ex→St→Prop
 | [],e,s=>R e s
 | .c x::k,.normal,s=>Cx P x s (fun e s=>SX P R k e s)
 | .c x::k,.ret,s=>SX P R k .ret s
 | .c x::k,.exit j,s=>SX P R k (.exit j) s
 | .blk i::k,.exit j,s=>if j=i then SX P R k .normal s else SX P R k (.exit j) s
 | .blk i::k,.normal,s=>SX P R k .normal s
 | .blk i::k,.ret,s=>SX P R k .ret s
structure Res where
 stk:List It
 ex:Ex
 st:St
def mach (P:Program) (M:Hints):(n:Nat)→List It→Ex→(s:St)→KM Res
 | 0,stk,ex,s=>ret ⟨stk,ex,s⟩
 | n+1,stk,ex,s=>match stk with
  | []=>ret ⟨[],ex,s⟩
  | .blk i::k=>match ex with
   | .exit j=>if j=i then mach P M n k .normal s else mach P M n k (.exit j) s
   | .normal=>mach P M n k .normal s
   | .ret=>mach P M n k .ret s
  | .c x::k=>match ex with
   | .ret=>mach P M n k .ret s
   | .exit j=>mach P M n k (.exit j) s
   | .normal=>match x with
    | .skip=>mach P M n k .normal s
    | .ret=>mach P M n k .ret s
    | .exit i=>mach P M n k (.exit i) s
    | .seq a b=>mach P M n (.c a::.c b::k) .normal s
    | .cond c a b=>match s.opV c with
     | .lit (.bool t)=>bnd (Yad t) fun e=>if e then mach P M n (.c a::k) .normal s else mach P M n (.c b::k) .normal s
     | _=>fail
    | .block i c=>mach P M n (.c c::.blk i::k) .normal s
    | .loop c=>mach P M n (.c c::.c (.loop c)::k) .normal s
    | .region _ ops d=>match d with
     | false=>bnd (opsK P M ops 0 ops.toList ⟨s.env,s.heap,s.ep+1⟩) fun s'=>mach P M n k .normal s'
     | true=>if Region.noSelect ops=true then bnd (Z6m P M ops [] 0 ops.toList ⟨s.env,s.heap,s.ep+1⟩) fun s'=>mach P M n k .normal s' else fail
    | _=>fail
section
variable {P:Program} {M:Hints} {R:Ex→St→Prop}
theorem You (M:Hints) (hP:FuncsOk P) {k:List It} {S:St} {i:Nat} {d0 d1:Tmp} {x0 y:Operand} {t yt e ty0 ty1:TypeId} {p0 p1:String} {af0 af1:Array Edge} (hte:Xo P t=some e) (hx:S.opV x0=.tr []) (hy:(({S with ep:=S.ep+1}:St).put (some d0) (.tr [])).opV y=.lit (.slice none 0 0))
  (h:∀b,SX P R k .normal ((({S with ep:=S.ep+1}:St).put (some d0) (.tr [])).put (some d1) (.lit (.bool b)))):
  SX P R (.c (.region i #[⟨some d0,.move x0,ty0,p0,af0,none⟩,⟨some d1,.binOp .eql t (.tmp d0) y yt,ty1,p1,af1,none⟩] false)::k) .normal S:=
 Ypf M hP (R:=fun e s=>SX P R k e s) hte hx hy h
def Yku:List It→Option (Operand×Tmp×Tmp×TypeId×Operand×List It)
 | .c (.region _ ops false)::k=>match ops.toList with
  | [⟨some d0,.move x0,_,_,_,none⟩,⟨some d1,.binOp .eql t (.tmp d) y _,_,_,_,none⟩]=>if d=d0 then some (x0,d0,d1,t,y,k) else none
  | _=>none
 | _=>none
theorem Zxj (M:Hints) (hP:FuncsOk P) {stk k:List It} {S:St} {d0 d1:Tmp} {x0 y:Operand} {t e:TypeId} (hs:Yku stk=some (x0,d0,d1,t,y,k)) (hte:Xo P t=some e) (hx:S.opV x0=.tr []) (hy:(({S with ep:=S.ep+1}:St).put (some d0) (.tr [])).opV y=.lit (.slice none 0 0))
  (h:∀b,SX P R k .normal ((({S with ep:=S.ep+1}:St).put (some d0) (.tr [])).put (some d1) (.lit (.bool b)))):SX P R stk .normal S:=by
 unfold Yku at hs
 split at hs
 ·rename_i i ops k'
  split at hs
  ·rename_i c0 z0 ty0 p0 af0 c1 u d z yt ty1 p1 af1 hl
   split at hs
   ·rename_i hd
    simp only[Option.some.injEq,Prod.mk.injEq] at hs
    obtain⟨rfl,rfl,rfl,rfl,rfl,rfl⟩:=hs
    subst hd
    obtain rfl:ops=#[⟨some d,.move z0,ty0,p0,af0,none⟩,⟨some c1,.binOp .eql u (.tmp d) z yt,ty1,p1,af1,none⟩]:=by
     apply Array.toList_inj.1;rw[hl]
    exact You M hP hte hx hy h
   ·cases hs
  ·cases hs
 ·cases hs
theorem Ypr (hP:FuncsOk P):∀(n:Nat) {stk:List It} {ex:Ex} {s:St},KP (mach P M n stk ex s) (fun r=>SX P R r.stk r.ex r.st→SX P R stk ex s):=by
 intro n
 induction n with
 | zero=>intro stk ex s;exact Zq id
 | succ n ih=>
  intro stk ex s
  simp only[mach]
  split
  ·exact Zq id
  ·rename_i i k
   split
   ·rename_i j
    refine Xm (fun hj=>ih.mono fun r hr h=>?_) (fun hj=>ih.mono fun r hr h=>?_)
    ·simp only[SX];rw[if_pos hj];exact hr h
    ·simp only[SX];rw[if_neg hj];exact hr h
   ·exact ih.mono fun r hr h=>hr h
   ·exact ih.mono fun r hr h=>hr h
  ·rename_i x k
   split
   ·exact ih.mono fun r hr h=>hr h
   ·exact ih.mono fun r hr h=>hr h
   ·split
    ·exact ih.mono fun r hr h=>Yob (hr h)
    ·exact ih.mono fun r hr h=>Cx_ret (hr h)
    ·exact ih.mono fun r hr h=>Ypa (hr h)
    ·refine ih.mono fun r hr h=>Cx_seq (Z7z (hr h) fun e s h=>?_)
     cases e<;>exact h
    ·rename_i c a b
     split
     ·rename_i t hc
      refine Zd Yct (fun e he=>?_)
      subst he
      cases t with
      | true=>exact ih.mono fun r hr h=>Ygp hc (hr h)
      | false=>exact ih.mono fun r hr h=>Ygp hc (hr h)
     ·exact Zg
    ·rename_i i c
     refine ih.mono fun r hr h=>Ym6 (Z7z (hr h) fun e s h=>?_)
     cases e<;>exact h
    ·rename_i c
     refine ih.mono fun r hr h=>Yot (Z7z (hr h) fun e s h=>?_)
     cases e<;>exact h
    ·rename_i i ops d
     split
     ·refine Zd (Yo2 hP _) (fun s' hs=>ih.mono fun r hr h=>?_)
      obtain⟨C,h1,h2⟩:=hs
      exact Cx_ops hP C h1 h2 (hr h)
     ·refine Xm (fun hn=>Zd (Ylz hP _) (fun s' hs=>ih.mono fun r hr h=>?_)) (fun _=>Zg)
      obtain⟨C,h1,h2⟩:=hs
      exact Yo1 hP C h1 hn h2 (hr h)
    ·exact Zg
theorem Ydl (hP:FuncsOk P) (n:Nat) {stk:List It} {ex:Ex} {s:St}:KP (mach P M n stk ex s) (fun r=>∀R,SX P R r.stk r.ex r.st→SX P R stk ex s):=fun q a obs q' e ho R=>Ypr hP n q a obs q' e ho
def endK (P:Program) (M:Hints) (f:FuncId) (fn:Func) (xs:List V) (r:Res):KM (V×List V):=match r.stk with
 | []=>match r.ex with
  | .exit _=>fail
  | .normal=>retK P M f fn xs r.st
  | .ret=>retK P M f fn xs r.st
 | _=>fail
def runK (P:Program) (M:Hints) (f:FuncId) (fn:Func) (xs:List V) (n:Nat) (stk:List It) (s:St):KM (V×List V):=
 bnd (mach P M n stk .normal s) (endK P M f fn xs)
theorem Yo8 (hP:FuncsOk P) {f:FuncId} {fn:Func} {xs:List V} {n:Nat} {stk:List It} {s:St}:KP (runK P M f fn xs n stk s) (fun y=>SX P (RetC P M f fn xs y) stk .normal s):=by
 refine Zd (Ydl hP n) (fun r hr=>?_)
 obtain⟨st,ex,s1⟩:=r
 unfold endK
 cases st with
 | cons x l=>exact Zg
 | nil=>cases ex with
  | exit i=>exact Zg
  | normal=>exact Ygw.kp.mono fun y hy=>hr _ ⟨trivial,hy⟩
  | ret=>exact Ygw.kp.mono fun y hy=>hr _ ⟨trivial,hy⟩
def told {α:Type} (x:Option (α×List Prop×List O)):Option (Prop×α):=match x with|some (a,obs,[])=>some (All obs,a)|_=>none
theorem Ygz {α:Type} {x:KM α} {q:List O} {Q:α→Prop} {p:Prop} {a:α} (h:KP x Q) (e:told (x q)=some (p,a)) (hp:p):Q a:=by
 unfold told at e
 split at e
 ·rename_i b obs hx
  injection e with e
  injection e with e1 e2
  subst e2
  exact h q _ _ _ hx (by rw[e1];exact hp)
 ·cases e
theorem Yf6 (hP:FuncsOk P) {f:FuncId} {fn:Func} {xs:List V} {y:V×List V} {stk:List It} {s:St} {p:Prop} (n:Nat) (q:List O) (hp:p) (e:told (runK P M f fn xs n stk s q)=some (p,y)):SX P (RetC P M f fn xs y) stk .normal s:=
 Ygz (x:=runK P M f fn xs n stk s) (Q:=fun y=>SX P (RetC P M f fn xs y) stk .normal s) (Yo8 hP) e hp
def ren1 (f:List (Id×Id)):V→V
 | .ptr id i off=>match renI f id with|some id'=>.ptr id' i off|none=>.undef
 | .sl id off len=>match renI f id with|some id'=>.sl id' off len|none=>(match off,len with|0,0=>.lit (.slice none 0 0)|_,_=>.undef)
 | .lit v=>.lit v
 | .tr rows=>.tr rows
 | .vw rows=>.vw rows
 | .rp sh row off=>.rp sh row off
 | _=>.undef
def renV (f:List (Id×Id)):V→V
 | .agg xs=>.agg (xs.map (ren1 f))
 | .tup xs=>.tup (xs.map (ren1 f))
 | .fn g xs=>.fn g (xs.map (ren1 f))
 | x=>ren1 f x
theorem Z62 {f:List (Id×Id)} {x:V} (h:ren1 f x≠.undef∨x=.undef):VR1 f x (ren1 f x):=by
 cases x with
 | undef=>trivial
 | ptr id i off=>
  simp only[ren1] at h ⊢
  split
  ·rename_i id' hr;exact⟨hr,rfl,rfl⟩
  ·rename_i hr;rw[hr] at h;simp at h
 | sl id off len=>
  simp only[ren1] at h ⊢
  split
  ·rename_i id' hr;exact⟨hr,rfl,rfl⟩
  ·rename_i hr
   rw[hr] at h
   simp only at h
   split
   ·exact⟨hr,rfl,rfl⟩
   ·rename_i hne
    exfalso
    split at h
    ·rename_i h1 h2;exact hne rfl rfl
    ·simp at h
 | lit v=>rfl
 | tr rows=>rfl
 | vw rows=>rfl
 | rp sh row off=>rfl
 | agg _=>simp[ren1] at h
 | tup _=>simp[ren1] at h
 | fn _ _=>simp[ren1] at h
 | own _ _=>simp[ren1] at h
 | obx _=>simp[ren1] at h
def okV:V→Bool|.undef=>false|_=>true
theorem okV_ne {x:V} (h:okV x=true):x≠.undef:=by rintro rfl;cases h
theorem Z1r {f:List (Id×Id)}:∀{xs:List V},(xs.map (ren1 f)).all okV=true→VRs f xs (xs.map (ren1 f)):=by
 intro xs
 induction xs with
 | nil=>intro _;trivial
 | cons x xs ih=>
  intro h
  simp only[List.map_cons,List.all_cons,Bool.and_eq_true] at h
  exact⟨Z62 (.inl (okV_ne h.1)),ih h.2⟩
def okVs:V→Bool
 | .agg xs|.tup xs|.fn _ xs=>xs.all okV
 | x=>okV x
theorem Yoe {f:List (Id×Id)} {x:V} (h:okVs (renV f x)=true):VR f x (renV f x):=by
 cases x with
 | agg xs=>exact Z1r h
 | tup xs=>exact Z1r h
 | fn g xs=>exact⟨rfl,Z1r h⟩
 | undef=>trivial
 | lit v=>rfl
 | tr rows=>rfl
 | vw rows=>rfl
 | rp sh row off=>rfl
 | own e rows=>cases h
 | obx cs=>cases h
 | ptr id i off=>exact Z62 (x:=.ptr id i off) (.inl fun e=>by have h2:okVs (ren1 f (.ptr id i off))=true:=h;rw[e] at h2;cases h2)
 | sl id off len=>exact Z62 (x:=.sl id off len) (.inl fun e=>by have h2:okVs (ren1 f (.sl id off len))=true:=h;rw[e] at h2;cases h2)
def renB (f:List (Id×Id)) (p:Id×Blk):Option Blk:=match renI f p.1 with
 | none=>none
 | some _=>some ⟨p.2.box,p.2.own,p.2.cl,(if p.2.box then 0 else p.2.el),if p.2.box then p.2.rows.map (fun r=>r.map (ren1 f)) else p.2.rows⟩
def wasB (f:List (Id×Id)) (S:St) (p:Id×Blk):Option Blk:=match renI f p.1 with
 | none=>none
 | some id'=>(S.heap id').map fun c=>⟨c.box,c.own,c.cl,(if c.box then 0 else c.el),c.rows⟩
def newB (f:List (Id×Id)) (p:Id×Blk):Bool:=match renI f p.1 with
 | none=>!p.2.box&&p.2.own&&(match p.2.rows with|[]=>true|_=>false)
 | some _=>if p.2.box then (match p.2.rows with|[r]=>(r.map (ren1 f)).all okV|_=>false) else true
theorem Yof {f:List (Id×Id)} {S:St} {p:Id×Blk} (h:wasB f S p=renB f p) (hn:newB f p=true):BR f S p.1 p.2:=by
 obtain⟨id,b⟩:=p
 unfold BR
 unfold wasB renB at h
 unfold newB at hn
 simp only at h hn ⊢
 split
 ·rename_i hr
  rw[hr] at hn
  simp only[Bool.and_eq_true,Bool.not_eq_true'] at hn
  refine⟨hn.1.1,hn.1.2,?_⟩
  cases hb:b.rows with
  | nil=>rfl
  | cons x l=>rw[hb] at hn;simp at hn
 ·rename_i id' hr
  rw[hr] at h hn
  simp only at h hn
  obtain⟨c,h1,h2⟩:=Option.map_eq_some_iff.1 h
  injection h2 with e1 e2 e3 e4 e5
  refine⟨c,h1,e1,e2,e3,?_⟩
  cases hbx:b.box with
  | true=>
   rw[hbx] at hn e1 e5
   simp only[if_true] at hn e5 ⊢
   cases hb:b.rows with
   | nil=>rw[hb] at hn;cases hn
   | cons r l=>cases l with
    | cons r2 l=>rw[hb] at hn;cases hn
    | nil=>
     rw[hb] at hn e5
     exact⟨r,_,rfl,e5,Z1r hn⟩
  | false=>
   rw[hbx] at e1 e4 e5
   rw[e1] at e4
   simp only[Bool.false_eq_true,if_false] at e4 e5 ⊢
   exact⟨e4,e5⟩
def wasL (f:List (Id×Id)) (l:List (Nat×V)) (h:List (Id×Blk)) (S:St):List V×List (Option Blk):=(l.map fun p=>S.env p.1,h.map fun p=>wasB f S p)
def renL (f:List (Id×Id)) (l:List (Nat×V)) (h:List (Id×Blk)):List V×List (Option Blk):=(l.map fun p=>renV f p.2,h.map fun p=>renB f p)
def cutB (f:List (Id×Id)) (l:List (Nat×V)) (h:List (Id×Blk)) (ep:Nat):Bool:=wkB f l h ep&&(l.all fun p=>okVs (renV f p.2))&&h.all fun p=>newB f p
theorem Z4y {α β:Type} {g1 g2:α→β} {l:List α} (h:l.map g1=l.map g2):∀x∈l,g1 x=g2 x:=by
 induction l with
 | nil=>intro x hx;simp at hx
 | cons y l ih=>
  simp only[List.map_cons,List.cons.injEq] at h
  intro x hx
  rcases List.mem_cons.1 hx with rfl|hx
  ·exact h.1
  ·exact ih h.2 x hx
theorem Yow {f:List (Id×Id)} {l:List (Nat×V)} {h:List (Id×Blk)} {ep:Nat} {S:St} (e:wasL f l h S=renL f l h) (hb:cutB f l h ep=true):Weak f S l h ep:=by
 simp only[wasL,renL,Prod.mk.injEq] at e
 simp only[cutB,Bool.and_eq_true,List.all_eq_true] at hb
 refine⟨fun p hp=>?_,fun p hp=>Yof (Z4y e.2 p hp) (hb.2 p hp),hb.1.1⟩
 rw[Z4y e.1 p hp]
 exact Yoe (hb.1.2 p hp)
def len1:V→KM V
 | .sl id off len=>bnd hear fun o=>match o with
  | .num n _ _ _=>bnd (obl (len=n)) fun _=>ret (.sl id off n)
  | _=>fail
 | x=>ret x
theorem Ygo {x:V}:KP (len1 x) (fun y=>y=x):=by
 unfold len1
 split
 ·refine Zd W8 (fun o _=>?_)
  split
  ·exact Zd Zy (fun _ h=>Zq (by rw[h]))
  ·exact Zg
 ·exact Zq rfl
def lens:List V→KM (List V)
 | []=>ret []
 | x::xs=>bnd (len1 x) fun y=>bnd (lens xs) fun ys=>ret (y::ys)
theorem Z67:∀{xs:List V},KP (lens xs) (fun ys=>ys=xs):=by
 intro xs
 induction xs with
 | nil=>exact Zq rfl
 | cons x xs ih=>exact Zd Ygo (fun y hy=>Zd ih (fun ys hys=>Zq (by rw[hy,hys])))
def lenV:V→KM V
 | .agg xs=>bnd (lens xs) fun ys=>ret (.agg ys)
 | .fn g xs=>bnd (lens xs) fun ys=>ret (.fn g ys)
 | x=>len1 x
theorem Ypp {x:V}:KP (lenV x) (fun y=>y=x):=by
 unfold lenV
 split
 ·exact Zd Z67 (fun y hy=>Zq (by rw[hy]))
 ·exact Zd Z67 (fun y hy=>Zq (by rw[hy]))
 ·exact Ygo
def Yhk (S:St):List (Nat×V)→KM (List V)
 | []=>ret []
 | p::l=>bnd (lenV (S.env p.1)) fun y=>bnd (Yhk S l) fun ys=>ret (y::ys)
theorem Ypd {S:St}:∀{l:List (Nat×V)},KP (Yhk S l) (fun ys=>ys=l.map fun p=>S.env p.1):=by
 intro l
 induction l with
 | nil=>exact Zq rfl
 | cons p l ih=>exact Zd Ypp (fun y hy=>Zd ih (fun ys hys=>Zq (by rw[hy,hys];rfl)))
def lenB:Option Blk→KM (Option Blk)
 | some ⟨true,own,cl,el,[row]⟩=>bnd (lens row) fun r=>ret (some ⟨true,own,cl,el,[r]⟩)
 | x=>ret x
theorem Yn9 {x:Option Blk}:KP (lenB x) (fun y=>y=x):=by
 unfold lenB
 split
 ·exact Zd Z67 (fun r hr=>Zq (by rw[hr]))
 ·exact Zq rfl
def lenH (f:List (Id×Id)) (S:St):List (Id×Blk)→KM (List (Option Blk))
 | []=>ret []
 | p::l=>bnd (lenB (wasB f S p)) fun y=>bnd (lenH f S l) fun ys=>ret (y::ys)
theorem Yok {f:List (Id×Id)} {S:St}:∀{l:List (Id×Blk)},KP (lenH f S l) (fun ys=>ys=l.map fun p=>wasB f S p):=by
 intro l
 induction l with
 | nil=>exact Zq rfl
 | cons p l ih=>exact Zd Yn9 (fun y hy=>Zd ih (fun ys hys=>Zq (by rw[hy,hys];rfl)))
def Ylo (f:List (Id×Id)) (l:List (Nat×V)) (h:List (Id×Blk)) (r:Res):KM (List It×List V×List (Option Blk)):=match r.ex with
 | .normal=>bnd (Yhk r.st l) fun vs=>bnd (lenH f r.st h) fun bs=>ret (r.stk,vs,bs)
 | _=>fail
def cutK (P:Program) (M:Hints) (f:List (Id×Id)) (l:List (Nat×V)) (h:List (Id×Blk)) (n:Nat) (stk:List It) (s:St):KM (List It×List V×List (Option Blk)):=
 bnd (mach P M n stk .normal s) (Ylo f l h)
def isC:List It→Bool
 | .c _::_=>true
 | _=>false
theorem Ygr (hP:FuncsOk P) {stk k2:List It} {s:St} {p:Prop} {l:List (Nat×V)} {h:List (Id×Blk)} {ep:Nat} (f:List (Id×Id)) (n:Nat) (q:List O) (hp:p) (hn:SX P R k2 .normal (mkS l h ep))
  (e:told (cutK P M f l h n stk s q)=some (p,(k2,renL f l h))) (hb:(isC k2&&cutB f l h ep)=true):SX P R stk .normal s:=by
 simp only[Bool.and_eq_true] at hb
 refine Ygz (x:=cutK P M f l h n stk s) (Q:=fun y=>y=(k2,renL f l h)→SX P R stk .normal s) ?_ e hp rfl
 refine Zd (Ydl hP n) (fun r hr=>?_)
 obtain⟨st,ex,s1⟩:=r
 unfold Ylo
 cases ex with
 | normal=>
  refine Zd Ypd (fun vs hvs=>Zd Yok (fun bs hbs=>Zq fun hy=>hr _ ?_))
  simp only[Prod.mk.injEq] at hy
  simp only
  rw[hy.1]
  have hy2:wasL f l h s1=renL f l h:=by
   rw[←hy.2,hvs,hbs];rfl
  cases k2 with
  | nil=>cases hb.1
  | cons x k=>cases x with
   | blk i=>cases hb.1
   | c x=>exact Yov f (Yow hy2 hb.2) hn
 | ret=>exact Zg
 | exit i=>exact Zg
end
end Go.Proofs.YtciimjnpdmmfnaaGreat.Ev
namespace Go.Proofs.YtciimjnpdmmfnaaGreat.Ev
open Go
set_option linter.unusedVariables false
section
variable {α:Type}
def idx (xs:List α) (i:Int):Option α:=if 0≤i then xs[i.toNat]? else none
def appI (sz:Nat) (xs ys:List α):Option (List α):=if (xs.length+ys.length)*sz≤140737488355328∧xs.length+ys.length≤9223372036854775807 then some (xs++ys) else none
def mkI (sz:Nat) (n:Int) (z:α):Option (List α):=if 0≤n∧n.toNat*sz≤70368744177664∧n.toNat≤9223372036854775807 then some (List.replicate n.toNat z) else none
def Q2 (xs:List α) (l h:Int):Option (List α):=if 0≤l∧l≤h∧h.toNat≤xs.length then some ((xs.drop l.toNat).take (h.toNat - l.toNat)) else none
def clrI (z:α) (xs:List α) (l h:Int):Option (List α):=if l.toNat+(h.toNat - l.toNat)≤xs.length then some (xs.take l.toNat++List.replicate (h.toNat - l.toNat) z++xs.drop (l.toNat+(h.toNat - l.toNat))) else none
def setO (xs:List α) (i:Int) (a:α):Option (List α):=some (xs.set i.toNat a)
def lenE {β:Type} (xs:List α) (ys:List β):Option Unit:=if xs.length=ys.length then some () else none
end
def strL (l:List UInt8):ByteArray:=⟨l.toArray⟩
def FU:Nat:=18446744073709551616
def w64 (n:Int):Int:=IntKind.i64.wrap n
def addW (a b:Int):Int:=IntKind.i64.wrap (a+b)
def subW (a b:Int):Int:=IntKind.i64.wrap (a - b)
def mulW (a b:Int):Int:=IntKind.i64.wrap (a*b)
def quoW (a b:Int):Int:=IntKind.i64.wrap (a.tdiv b)
def remW (a b:Int):Int:=a.tmod b
def andW (a b:Int):Int:=IntKind.i64.wrap ((BitVec.ofInt IntKind.i64.bits a &&& BitVec.ofInt IntKind.i64.bits b).toNat)
def orW (a b:Int):Int:=IntKind.i64.wrap ((BitVec.ofInt IntKind.i64.bits a ||| BitVec.ofInt IntKind.i64.bits b).toNat)
def xorW (a b:Int):Int:=IntKind.i64.wrap ((BitVec.ofInt IntKind.i64.bits a ^^^ BitVec.ofInt IntKind.i64.bits b).toNat)
def shlW (a b:Int):Int:=IntKind.i64.wrap (a*2^min b.toNat IntKind.i64.bits)
def shrW (a b:Int):Int:=a.fdiv (2^min b.toNat IntKind.i64.bits)
def minI (x y:Int):Int:=if y < x then y else x
def maxI (x y:Int):Int:=if y > x then y else x
def nzI (b:Int):Option Unit:=if b=0 then none else some ()
def nnI (b:Int):Option Unit:=if 0≤b then some () else none
theorem w64_of {n:Int} (h1:-9223372036854775808≤n) (h2:n < 9223372036854775808):w64 n=n:=by
 simp[w64,IntKind.wrap,IntKind.bits,IntKind.signed];omega
end Go.Proofs.YtciimjnpdmmfnaaGreat.Ev
namespace Go.Proofs.YtciimjnpdmmfnaaGreat.Ev
open Go Go.RowKit KM
set_option linter.unusedVariables false
set_option linter.unusedSimpArgs false
abbrev il (n:Int):V:=.lit (.int .i64 n)
abbrev bl (b:Bool):V:=.lit (.bool b)
section
variable {P:Program} {M:Hints}
def entS (M:Hints) (f:FuncId) (xs:List V):St:=(St.enters ⟨fun _=>.undef,fun _=>none,0⟩ 0 (M.modes f) xs).getD ⟨fun _=>.undef,fun _=>none,0⟩
theorem Ymi (hP:FuncsOk P) {f:FuncId} {fn:Func} {c:Code} {xs:List V} {r:V} {os:List V} (hfn:P.funcs[f]?=some fn) (hc:fn.body=some c) (hs:(St.enters ⟨fun _=>.undef,fun _=>none,0⟩ 0 (M.modes f) xs).isSome=true)
  (h:SX P (RetC P M f fn xs (r,os)) [.c c] .normal (entS M f xs)):Fine P M (f,xs,r,os):=by
 obtain⟨s1,h1⟩:=Option.isSome_iff_exists.1 hs
 refine Yoz hP hfn hc h1 ?_
 have:entS M f xs=s1:=by unfold entS;rw[h1];rfl
 rw[←this]
 exact h
end
theorem aa {p q:Prop} (h:p) (k:q):p∧q:=⟨h,k⟩
theorem tt:True:=trivial
theorem Ymf {α β:Type} {x:Option α} {f:α→Option β} {b:β} (h:x.bind f=some b):∃a,x=some a∧f a=some b:=Option.bind_eq_some_iff.1 h
theorem Ynh {β:Type} {t:Bool} {x y:Option β} {b:β} (h:(if t=true then x else y)=some b):(t=true∧x=some b)∨(t=false∧y=some b):=by
 cases t with
 | true=>exact .inl ⟨rfl,h⟩
 | false=>exact .inr ⟨rfl,h⟩
section
variable {α:Type}
theorem ixn {xs:List α} {i:Int} {a:α} (h:idx xs i=some a):Wp (il i)=some i.toNat:=by
 unfold idx at h
 split at h
 ·rename_i h0;simp[Wp,h0]
 ·cases h
theorem ixr (e:α→List V) {xs:List α} {i:Int} {a:α} (h:idx xs i=some a):(xs.map e)[i.toNat]?=some (e a):=by
 unfold idx at h
 split at h
 ·rw[List.getElem?_map,h];rfl
 ·cases h
theorem ixl (e:α→List V) {xs:List α} {i:Int} {a:α} (h:idx xs i=some a):i.toNat < (xs.map e).length:=(List.getElem?_eq_some_iff.1 (ixr e h)).1
theorem lenr (e:α→List V) (xs:List α):(xs.map e).length=xs.length:=List.length_map ..
theorem lene (e:α→List V) (xs:List α):(xs.map e).length=(xs.map e).length:=rfl
theorem alr (n:Nat) {e:α→List V} (he:∀a,(e a).length=n) (xs:List α):Zgk n (xs.map e)=true:=by
 unfold Zgk
 rw[List.all_eq_true]
 intro r hr
 obtain⟨a,_,rfl⟩:=List.mem_map.1 hr
 simp[he]
theorem ltr {e:α→List V} (he:∀a,(e a).all Zry=true) (xs:List α):Kn (xs.map e)=true:=by
 unfold Kn
 rw[List.all_eq_true]
 intro r hr
 obtain⟨a,_,rfl⟩:=List.mem_map.1 hr
 exact he a
theorem apm (e:α→List V) {sz:Nat} {xs ys zs:List α} (h:appI sz xs ys=some zs):xs.map e++ys.map e=zs.map e:=by
 unfold appI at h
 split at h
 ·injection h with h;rw[←h,List.map_append]
 ·cases h
theorem apl (e:α→List V) {sz:Nat} {xs ys zs:List α} (h:appI sz xs ys=some zs):((xs.map e).length+(ys.map e).length)*sz≤140737488355328∧(xs.map e).length+(ys.map e).length≤9223372036854775807:=by
 unfold appI at h
 split at h
 ·rename_i hh;simpa using hh
 ·cases h
theorem apm0 (e:α→List V) {sz:Nat} {ys zs:List α} (h:appI sz [] ys=some zs):ys.map e=zs.map e:=apm e h
theorem mkn {sz:Nat} {n:Int} {z:α} {xs:List α} (h:mkI sz n z=some xs):Wp (il n)=some n.toNat:=by
 unfold mkI at h
 split at h
 ·rename_i h0;simp[Wp,h0.1]
 ·cases h
theorem mkl {sz:Nat} {n:Int} {z:α} {xs:List α} (h:mkI sz n z=some xs):n.toNat*sz≤70368744177664∧n.toNat≤9223372036854775807:=by
 unfold mkI at h
 split at h
 ·rename_i h0;exact h0.2
 ·cases h
theorem mkr (e:α→List V) {sz:Nat} {n:Int} {z:α} {xs:List α} (h:mkI sz n z=some xs):List.replicate n.toNat (e z)=xs.map e:=by
 unfold mkI at h
 split at h
 ·injection h with h;rw[←h,List.map_replicate]
 ·cases h
theorem sln {xs ys:List α} {l h:Int} (e:Q2 xs l h=some ys):Wp (il l)=some l.toNat∧Wp (il h)=some h.toNat:=by
 unfold Q2 at e
 split at e
 ·rename_i h0
  refine⟨by simp[Wp,h0.1],?_⟩
  have:0≤h:=by omega
  simp[Wp,this]
 ·cases e
theorem sll (en:α→List V) {xs ys:List α} {l h:Int} (e:Q2 xs l h=some ys):l.toNat≤h.toNat∧h.toNat≤(xs.map en).length:=by
 unfold Q2 at e
 split at e
 ·rename_i h0
  rw[List.length_map]
  omega
 ·cases e
theorem slr (en:α→List V) {xs ys:List α} {l h:Int} (e:Q2 xs l h=some ys):((xs.map en).drop l.toNat).take (h.toNat - l.toNat)=ys.map en:=by
 unfold Q2 at e
 split at e
 ·injection e with e;rw[←e,List.map_take,List.map_drop]
 ·cases e
end
def encI (n:Int):List V:=[.lit (.int .i64 n)]
def encU (n:Int):List V:=[.lit (.int .u8 n)]
def encB (b:Bool):List V:=[.lit (.bool b)]
def encS (b:ByteArray):List V:=[.lit (.string b)]
theorem Wr (n:Int):(encI n).length=1:=rfl
theorem Zij (n:Bool):(encB n).length=1:=rfl
theorem Zlu (n:Int):(encI n).all Zry=true:=rfl
abbrev ss (b:ByteArray):V:=.lit (.string b)
section
variable {α:Type}
theorem seto (e:α→List V) {xs ys:List α} {i:Int} {a:α} (h:setO xs i a=some ys):(xs.map e).set i.toNat (e a)=ys.map e:=by
 unfold setO at h
 injection h with h
 rw[←h,List.map_set]
theorem setl (e:α→List V) {xs ys:List α} {i:Int} {a:α} (h:setO xs i a=some ys):(xs.map e).length=(ys.map e).length:=by
 rw[←seto e h,List.length_set]
theorem lz (e:α→List V) {xs:List α} (h:decide (xs.length=0)=true):(xs.map e).length=0:=by
 rw[List.length_map];exact of_decide_eq_true h
theorem lnz (e:α→List V) {xs:List α} (h:decide (xs.length=0)=false):(xs.map e).length≠0:=by
 rw[List.length_map];exact of_decide_eq_false h
theorem ixc (e:α→List V) {xs ys:List α} {i:Int} {a:α} (h:idx ys i=some a) (hl:(xs.map e).length=(ys.map e).length):i.toNat < (xs.map e).length:=hl▸ixl e h
theorem lenq (e:α→List V) {xs ys:List α} {u:Unit} (h:lenE xs ys=some u):(xs.map e).length=(ys.map e).length:=by
 unfold lenE at h
 split at h
 ·rename_i hh;simpa using hh
 ·cases h
theorem sla (en:α→List V) {xs ys:List α} {l h:Int} (e:Q2 xs l h=some ys):l.toNat+(h.toNat - l.toNat)≤(xs.map en).length:=by
 have:=sll en e
 omega
end
section
variable {α:Type}
theorem Zxb {sz:Nat} {r:List α} (h:appI sz [] []=some r):[]=r:=by
 unfold appI at h
 split at h
 ·injection h
 ·cases h
theorem apz (n:Nat):(0+0)*n≤140737488355328∧0+0≤9223372036854775807:=by simp
theorem clrl (e:α→List V) {z:α} {xs ys:List α} {l h:Int} (q:clrI z xs l h=some ys):l.toNat+(h.toNat - l.toNat)≤(xs.map e).length:=by
 unfold clrI at q
 split at q
 ·rwa [List.length_map]
 ·cases q
theorem clrr (e:α→List V) {z:α} {xs ys:List α} {l h:Int} (q:clrI z xs l h=some ys):(xs.map e).take l.toNat++List.replicate (h.toNat - l.toNat) (e z)++(xs.map e).drop (l.toNat+(h.toNat - l.toNat))=ys.map e:=by
 unfold clrI at q
 split at q
 ·injection q with q;rw[←q];simp
 ·cases q
theorem clrs (e:α→List V) {z:α} {xs ys:List α} {l h:Int} (q:clrI z xs l h=some ys):(xs.map e).length=(ys.map e).length:=by
 unfold clrI at q
 split at q
 ·injection q with q;rw[←q];simp;omega
 ·cases q
end
def ks:Nat→List O→List O
 | 0,l=>l
 | n+1,l=>.k::ks n l
def Scr (q:List O) (p:Prop):Prop:=p
theorem ee:Scr [] True:=trivial
section
variable {q:List O} {p:Prop} {α:Type}
theorem kk (n:Nat) (k:Scr q p):Scr (ks n q) p:=k
theorem gg {c b:Bool} (h:c=b) (k:Scr q p):Scr (.t b::q) (c=b∧p):=⟨h,k⟩
theorem rr {P:Program} {M:Hints} {y:FuncId×List V×V×List V} (h:Fine P M y) (k:Scr q p):Scr (.res y.2.2.1 y.2.2.2::q) (Fine P M y∧p):=⟨h,k⟩
theorem xb (e:α→List V) {xs:List α} {i:Int} {a:α} (h:idx xs i=some a) (k:Scr q p):Scr (.row i.toNat (e a)::q) (Wp (il i)=some i.toNat∧(xs.map e)[i.toNat]?=some (e a)∧p):=⟨ixn h,ixr e h,k⟩
theorem xd (e:α→List V) {xs:List α} {i:Int} {a:α} (h:idx xs i=some a) (k:Scr q p):Scr (.row i.toNat (e a)::.cell (e a)::q) (Wp (il i)=some i.toNat∧i.toNat < (xs.map e).length∧(xs.map e)[i.toNat]?=some (e a)∧(xs.map e)[i.toNat]?=some (e a)∧p):=⟨ixn h,ixl e h,ixr e h,ixr e h,k⟩
theorem xp (e:α→List V) {xs ys:List α} {i:Int} {a b:α} (h:idx xs i=some a) (h2:setO xs i b=some ys) (k:Scr q p):Scr (.row i.toNat (e a)::.put (e a) (ys.map e)::q) (Wp (il i)=some i.toNat∧i.toNat < (xs.map e).length∧(xs.map e)[i.toNat]?=some (e a)∧(xs.map e)[i.toNat]?=some (e a)∧(xs.map e).set i.toNat (e b)=ys.map e∧p):=⟨ixn h,ixl e h,ixr e h,ixr e h,seto e h2,k⟩
theorem xq (e:α→List V) {xs:List α} {i:Int} {a:α} (h:idx xs i=some a) (ys:List α) (k:Scr q p):Scr (.row i.toNat (e a)::.put (e a) (ys.map e)::q) (Wp (il i)=some i.toNat∧i.toNat < (xs.map e).length∧(xs.map e)[i.toNat]?=some (e a)∧(xs.map e)[i.toNat]?=some (e a)∧p):=⟨ixn h,ixl e h,ixr e h,ixr e h,k⟩
theorem ln (e:α→List V) (xs:List α) (k:Scr q p):Scr (.num (xs.map e).length 0 0 []::q) ((xs.map e).length=(xs.map e).length∧p):=⟨rfl,k⟩
theorem lr (e:α→List V) (xs:List α) (k:Scr q p):Scr (.num xs.length 0 0 []::q) ((xs.map e).length=xs.length∧p):=⟨lenr e xs,k⟩
theorem tp (x:O) (k:Scr q p):Scr (x::q) p:=k
theorem tq (l:List O) (k:Scr q p):Scr (l++q) p:=k
theorem ta (e:α→List V) (ys zs:List α) (k:Scr q p):Scr (.app (ys.map e) true (zs.map e) (zs.map e).length::q) p:=k
theorem oa (n:Nat) {e:α→List V} (he:∀a,(e a).length=n) (x:α) (k:Scr q p):Scr q (1=([x].map e).length∧[x].map e=[x].map e∧Zgk n ([x].map e)=true∧p):=⟨rfl,rfl,alr n he [x],k⟩
theorem ol (n:Nat) {e:α→List V} (he:∀a,(e a).length=n) (hl:∀a,(e a).all Zry=true) (ys:List α) (k:Scr q p):Scr q (ys.map e=ys.map e∧Kn (ys.map e)=true∧Zgk n (ys.map e)=true∧0=(([]:List α).map e).length∧p):=⟨rfl,ltr hl ys,alr n he ys,rfl,k⟩
theorem ox (e:α→List V) {sz:Nat} {xs ys zs:List α} (h:appI sz xs ys=some zs) (k:Scr q p):Scr q ((xs.map e).length=(xs.map e).length∧(((xs.map e).length+(ys.map e).length)*sz≤140737488355328∧(xs.map e).length+(ys.map e).length≤9223372036854775807)∧xs.map e++ys.map e=zs.map e∧p):=⟨rfl,apl e h,apm e h,k⟩
theorem oe (e:α→List V) (xs:List α) (k:Scr q p):Scr q ((xs.map e).length=(xs.map e).length∧p):=⟨rfl,k⟩
theorem ob {a:Prop} (h:a) (k:Scr q p):Scr q (a∧p):=⟨h,k⟩
end
theorem nz0 {b:Int} {u:Unit} (h:nzI b=some u):b≠0:=by
 unfold nzI at h;split at h
 ·cases h
 ·assumption
theorem nn0 {b:Int} {u:Unit} (h:nnI b=some u):0≤b:=by
 unfold nnI at h;split at h
 ·assumption
 ·cases h
def Ztk (f:Func):Code:=f.body.getD .skip
def at_:List Nat→Code→List It→List It
 | 0::p,.seq a b,k=>at_ p a (.c b::k)
 | _::p,.seq _ b,k=>at_ p b k
 | 0::p,.cond _ a _,k=>at_ p a k
 | _::p,.cond _ _ b,k=>at_ p b k
 | _::p,.block i c,k=>at_ p c (.blk i::k)
 | _::p,.loop c,k=>at_ p c (.c (.loop c)::k)
 | _,c,k=>.c c::k
end Go.Proofs.YtciimjnpdmmfnaaGreat.Ev
namespace Go.Proofs.YtciimjnpdmmfnaaGreat.Ev
open Go Go.Proofs
set_option linter.unusedVariables false
structure GL1Cur where
 b:List Int
 i:Int
 h:Int
 deriving DecidableEq
structure GMConf where
 weight:Int
 prio:Bool
 every:Int
 cap:Int
 deriving DecidableEq
structure GConf where
 masters:List GMConf
 quantum:Int
 maxWait:Int
 maxRetry:Int
 maxSplit:Int
 lockMost:Int
 deriving DecidableEq
structure GReq where
 write:Bool
 addr:Int
 size:Int
 burst:Int
 lock:Bool
 data_:List Int
 deriving DecidableEq
structure GMst where
 queue:List GReq
 beat:Int
 done:Int
 tries:Int
 parted:Bool
 broken:Bool
 deriving DecidableEq
structure GWrr where
 at_:Int
 credit:Int
 deriving DecidableEq
structure GBucket where
 tokens:Int
 count:Int
 deriving DecidableEq
structure GBeat where
 live:Bool
 who:Int
 beat:Int
 first:Bool
 by_:Int
 left:Int
 resp:Int
 second:Bool
 deriving DecidableEq
structure GDev where
 regs:List Int
 timer:Int
 fifo:List Int
 deriving DecidableEq
structure GModel where
 mem:List Int
 dev:GDev
 deriving DecidableEq
structure GDone where
 cycle:Int
 who:Int
 write:Bool
 addr:Int
 size:Int
 value:Int
 resp:Int
 deriving DecidableEq
structure GBus where
 conf:GConf
 now:Int
 m:List GMst
 arb:GWrr
 buckets:List GBucket
 splits:List Int
 holder:Int
 held:Int
 last:Int
 addr:GBeat
 data_:GBeat
 model:GModel
 picks:Int
 log:List GDone
 deriving DecidableEq
structure GPost where
 at_:Int
 who:Int
 req:GReq
 deriving DecidableEq
structure GScript where
 posts:List GPost
 waits:List Int
 says:List Int
 deriving DecidableEq
structure GWave where
 cycle:Int
 addr:Int
 kind:Int
 who:Int
 data_:Int
 from_:Int
 ready:Bool
 resp:Int
 got:Int
 deriving DecidableEq
abbrev GMConf.z0:GMConf:=⟨0,false,0,0⟩
abbrev GConf.z0:GConf:=⟨[],0,0,0,0,0⟩
abbrev GReq.z0:GReq:=⟨false,0,0,0,false,[]⟩
abbrev GMst.z0:GMst:=⟨[],0,0,0,false,false⟩
abbrev GWrr.z0:GWrr:=⟨0,0⟩
abbrev GBucket.z0:GBucket:=⟨0,0⟩
abbrev GBeat.z0:GBeat:=⟨false,0,0,false,0,0,0,false⟩
abbrev GDev.z0:GDev:=⟨[],0,[]⟩
abbrev GModel.z0:GModel:=⟨[],GDev.z0⟩
abbrev GDone.z0:GDone:=⟨0,0,false,0,0,0,0⟩
abbrev GBus.z0:GBus:=⟨GConf.z0,0,[],GWrr.z0,[],[],0,0,0,GBeat.z0,GBeat.z0,GModel.z0,0,[]⟩
abbrev GScript.z0:GScript:=⟨[],[],[]⟩
abbrev GWave.z0:GWave:=⟨0,0,0,0,0,0,false,0,0⟩
def Z65 (x0:List Int):Option Bool:=
 some (decide ((x0.length:Int) > 1048576))
def Zla (x0:List Int) (k_L1:Int→Int→Option GL1Cur) (v0:Int) (v1:Int) (v2:Bool):Option GL1Cur:=
 if v2=true then (
  (idx x0 v1).bind fun a0=>
  k_L1 (andW (addW (addW (mulW v0 131) (w64 a0)) 7) 1073741823) (addW v1 1))
 else (
  some (GL1Cur.mk x0 0 v0))
def Zoo (x0:List Int)  (k:Int→Int→Option GL1Cur) (v0:Int) (v1:Int):Option GL1Cur:=
 if decide (v1 < (x0.length:Int))=true then (
  Zla x0 k v0 v1 (decide (v1 < 4000)))
 else (
  Zla x0 k v0 v1 false)
def Zcq (x0:List Int)  : Nat→Int→Int→Option GL1Cur
 | 0,_,_=>none
 | m+1,v0,v1=>Zoo x0  (Zcq x0  m) v0 v1
def Zl9 (x0:List Int):Option GL1Cur:=
 Zcq x0 FU (addW 10101 (x0.length:Int)) 0
def Zds (x0:GL1Cur):Option (Int×GL1Cur):=
 if decide (x0.i < (x0.b.length:Int))=true then (
  (idx x0.b x0.i).bind fun a0=>
  some ((andW (addW (andW (xorW (shrW (addW (mulW x0.h 6364136223846793005) 1442695040888963407) 33) (shrW (addW (mulW x0.h 6364136223846793005) 1442695040888963407) 45)) 255) (w64 a0)) 255),(GL1Cur.mk x0.b (addW x0.i 1) (addW (mulW x0.h 6364136223846793005) 1442695040888963407))))
 else (
  some ((andW (xorW (shrW (addW (mulW x0.h 6364136223846793005) 1442695040888963407) 33) (shrW (addW (mulW x0.h 6364136223846793005) 1442695040888963407) 45)) 255),{x0 with h:=(addW (mulW x0.h 6364136223846793005) 1442695040888963407)}))
def Zo (x0:GL1Cur) (x1:Int):Option (Int×GL1Cur):=
 if decide (x1≤0)=true then (
  some (0,x0))
 else (
  if decide (x1≤256)=true then (
   (Zds x0).bind fun r0=>
   (nzI x1).bind fun n0=>
   some ((remW r0.1 x1),r0.2))
  else (
   (Zds x0).bind fun r1=>
   (Zds r1.2).bind fun r2=>
   (Zds r2.2).bind fun r3=>
   (Zds r3.2).bind fun r4=>
   (nzI x1).bind fun n1=>
   some ((remW (addW (addW (addW (mulW r1.1 16777216) (mulW r2.1 65536)) (mulW r3.1 256)) r4.1) x1),r4.2)))
def Zax (x0:GL1Cur) (x1:Int):Option (Bool×GL1Cur):=
 (Zo x0 x1).bind fun r0=>
 some (decide (r0.1=0),r0.2)
def Zj (x0:Int) (x1:Int) (x2:Int):Option Bool:=
 if decide (x0≥x1)=true then (
  some (decide (x0≤x2)))
 else (
  some false)
def Zkc (x0:GConf)  (v0:Bool):Option Int:=
 if v0=true then (
  some 0)
 else (
  some (mulW (addW x0.maxRetry 2) (addW x0.maxWait 6)))
def Zgg (x0:GConf):Option Int:=
 (Zj x0.maxRetry 0 3).bind fun r0=>
 if (!r0)=true then (
  Zkc x0 true)
 else (
  (Zj x0.maxWait 0 3).bind fun r1=>
  Zkc x0 (!r1))
def Zat (x0:GConf):Option Int:=
 (Zgg x0).bind fun r0=>
 if decide (r0=0)=true then (
  some 0)
 else (
  (Zj x0.lockMost 1 40).bind fun r1=>
  if (!r1)=true then (
   some 0)
  else (
   (Zgg x0).bind fun r2=>
   some (addW (mulW 2 r2) x0.lockMost)))
def Zmq (x0:GL1Cur)  (k:GL1Cur→GConf→Int→Option (GConf×GL1Cur)) (vb0:GL1Cur) (vb1:GConf) (v0:Int):Option (GConf×GL1Cur):=
 if decide (v0 > 0)=true then (
  (Zo vb0 3).bind fun r0=>
  (appI 32 vb1.masters [(GMConf.mk (addW 1 r0.1) false 0 0)]).bind fun z0=>
  k r0.2 {vb1 with masters:=z0} (subW v0 1))
 else (
  (Zax vb0 2).bind fun r1=>
  if r1.1=true then (
   (Zo r1.2 (vb1.masters.length:Int)).bind fun r2=>
   (idx vb1.masters r2.1).bind fun a0=>
   (setO vb1.masters r2.1 {a0 with prio:=true}).bind fun y0=>
   (Zat {vb1 with masters:=y0}).bind fun r3=>
   (Zo r2.2 30).bind fun r4=>
   (idx y0 r2.1).bind fun a1=>
   (setO y0 r2.1 {a1 with every:=(addW (mulW 2 r3) r4.1)}).bind fun y1=>
   (Zo r4.2 4).bind fun r5=>
   (idx y1 r2.1).bind fun a2=>
   (setO y1 r2.1 {a2 with cap:=(addW 1 r5.1)}).bind fun y2=>
   some ({vb1 with masters:=y2},r5.2))
  else (
   some (vb1,r1.2)))
def Zbc (x0:GL1Cur)  : Nat→GL1Cur→GConf→Int→Option (GConf×GL1Cur)
 | 0,_,_,_=>none
 | m+1,vb0,vb1,v0=>Zmq x0  (Zbc x0  m) vb0 vb1 v0
def Zm8 (x0:GL1Cur):Option (GConf×GL1Cur):=
 (Zo x0 3).bind fun r6=>
 (Zo r6.2 3).bind fun r7=>
 (Zo r7.2 3).bind fun r8=>
 (Zo r8.2 6).bind fun r9=>
 (Zo r9.2 12).bind fun r10=>
 (Zo r10.2 4).bind fun r11=>
 Zbc x0 FU r11.2 (GConf.mk [] (addW 1 r6.1) r7.1 r8.1 (addW 1 r9.1) (addW 1 r10.1)) (addW 1 r11.1)
def Yh (x0:GL1Cur) (x1:List Int):Option (Int×GL1Cur):=
 (Zo x0 (x1.length:Int)).bind fun r0=>
 (idx x1 r0.1).bind fun a0=>
 some (a0,r0.2)
def Zqe (x0:GL1Cur):Option (GConf×GL1Cur):=
 (Zm8 x0).bind fun r0=>
 (Zo r0.2 14).bind fun r1=>
 if decide (r1.1=0)=true then (
  (Yh r1.2 [0,5]).bind fun r2=>
  (idx r0.1.masters 0).bind fun a0=>
  (setO r0.1.masters 0 {a0 with weight:=r2.1}).bind fun y0=>
  some ({r0.1 with masters:=y0},r2.2))
 else (
  if decide (r1.1=1)=true then (
   (idx r0.1.masters 0).bind fun a1=>
   (setO r0.1.masters 0 {a1 with prio:=(!a1.prio)}).bind fun y1=>
   some ({r0.1 with masters:=y1},r1.2))
  else (
   if decide (r1.1=2)=true then (
    (Yh r1.2 [0,5,4]).bind fun r3=>
    some ({r0.1 with quantum:=r3.1},r3.2))
   else (
    if decide (r1.1=3)=true then (
     (Yh r1.2 [(-1),4,3]).bind fun r4=>
     some ({r0.1 with maxWait:=r4.1},r4.2))
    else (
     if decide (r1.1=4)=true then (
      (Yh r1.2 [0,13]).bind fun r5=>
      some ({r0.1 with maxSplit:=r5.1},r5.2))
     else (
      if decide (r1.1=5)=true then (
       some ({r0.1 with masters:=[]},r1.2))
      else (
       if decide (r1.1=6)=true then (
        (Yh r1.2 [(-1),4,3]).bind fun r6=>
        some ({r0.1 with maxRetry:=r6.1},r6.2))
       else (
        some (r0.1,r1.2))))))))
def W1 (x0:Int):Option Int:=
 (Zj x0 0 2).bind fun r0=>
 if (!r0)=true then (
  some 0)
 else (
  (nnI x0).bind fun n0=>
  some (shlW 1 x0))
def Q0 (x0:Int):Option Int:=
 (Zj x0 0 3).bind fun r0=>
 if (!r0)=true then (
  some 0)
 else (
  (idx [1,4,4,8] x0).bind fun a0=>
  some a0)
def Kr (x0:Int) (x1:Int):Option Bool:=
 (W1 x1).bind fun r0=>
 if decide (r0 > 0)=true then (
  if decide (x0≥0)=true then (
   (W1 x1).bind fun r1=>
   (nzI r1).bind fun n0=>
   some (decide ((remW x0 r1)=0)))
  else (
   some false))
 else (
  some false)
def Zf1 (x0:Int) (x1:Int) (x2:Int)  (v0:Int) (v1:Bool):Option Int:=
 if v1=true then (
  some (subW (addW x0 v0) (mulW 4 v0)))
 else (
  some (addW x0 v0))
def Zb5 (x0:Int) (x1:Int) (x2:Int)  (v0:Int) (v2:Bool):Option Int:=
 if v2=true then (
  some (-1))
 else (
  if decide (x2=2)=true then (
   (nzI (mulW 4 v0)).bind fun n0=>
   Zf1 x0 x1 x2 v0 (decide ((remW (addW x0 v0) (mulW 4 v0))=0)))
  else (
   Zf1 x0 x1 x2 v0 false))
def Zi4 (x0:Int) (x1:Int) (x2:Int):Option Int:=
 (W1 x1).bind fun r0=>
 (Kr x0 x1).bind fun r1=>
 if (!r1)=true then (
  Zb5 x0 x1 x2 r0 true)
 else (
  (Zj x0 0 511).bind fun r2=>
  if (!r2)=true then (
   Zb5 x0 x1 x2 r0 true)
  else (
   (Q0 x2).bind fun r3=>
   Zb5 x0 x1 x2 r0 (decide (r3=0))))
def J7 (x0:Int) (x1:Int) (x2:Int) (k_L1:Int→(List Int)→Option (List Int)) (v0:Int) (v1:List Int) (v2:Bool):Option (List Int):=
 if v2=true then (
  (appI 8 v1 [v0]).bind fun z0=>
  (Zi4 v0 x1 x2).bind fun r0=>
  k_L1 r0 z0)
 else (
  (Q0 x2).bind fun r1=>
  if decide ((v1.length:Int) < r1)=true then (
   some [])
  else (
   some v1))
def Jf (x0:Int) (x1:Int) (x2:Int)  (k:Int→(List Int)→Option (List Int)) (v0:Int) (v1:List Int):Option (List Int):=
 (Q0 x2).bind fun r2=>
 if decide ((v1.length:Int) < r2)=true then (
  (Zi4 v0 x1 x2).bind fun r3=>
  J7 x0 x1 x2 k v0 v1 (decide (r3≥0)))
 else (
  J7 x0 x1 x2 k v0 v1 false)
def Zcs (x0:Int) (x1:Int) (x2:Int)  : Nat→Int→(List Int)→Option (List Int)
 | 0,_,_=>none
 | m+1,v0,v1=>Jf x0 x1 x2  (Zcs x0 x1 x2  m) v0 v1
def Zeq (x0:Int) (x1:Int) (x2:Int):Option (List Int):=
 Zcs x0 x1 x2 FU x0 []
def Zly (x0:Int) (x1:Int) (x2:Int)  (k:(List Int)→Int→Option Bool) (v0:List Int) (v1:Int):Option Bool:=
 if decide (v1 < (v0.length:Int))=true then (
  (idx v0 v1).bind fun a0=>
  (idx v0 0).bind fun a1=>
  if decide ((quoW a0 64)≠(quoW a1 64))=true then (
   some false)
  else (
   k v0 (addW v1 1)))
 else (
  some (decide ((v0.length:Int) > 0)))
def Zg8 (x0:Int) (x1:Int) (x2:Int)  : Nat→(List Int)→Int→Option Bool
 | 0,_,_=>none
 | m+1,v0,v1=>Zly x0 x1 x2  (Zg8 x0 x1 x2  m) v0 v1
def Zku (x0:Int) (x1:Int) (x2:Int):Option Bool:=
 (Zeq x0 x1 x2).bind fun r0=>
 Zg8 x0 x1 x2 FU r0 0
def Xh (x0:Int):Option Int:=
 (W1 x0).bind fun r0=>
 if decide (r0=0)=true then (
  some 0)
 else (
  (W1 x0).bind fun r1=>
  (nnI (mulW 8 r1)).bind fun n0=>
  some (shlW 1 (mulW 8 r1)))
def Zlb (x0:GL1Cur) (k_L1:GL1Cur→GReq→Int→Option (GReq×GL1Cur)) (vb0:GL1Cur) (vb1:GReq) (v0:Int) (v1:Bool):Option (GReq×GL1Cur):=
 if v1=true then (
  (Xh vb1.size).bind fun r0=>
  (Xh vb1.size).bind fun r1=>
  (Yh vb0 [(minI r0 1000),r1]).bind fun r2=>
  (Zo r2.2 r2.1).bind fun r3=>
  (appI 8 vb1.data_ [r3.1]).bind fun z0=>
  k_L1 r3.2 {vb1 with data_:=z0} (addW v0 1))
 else (
  some (vb1,vb0))
def Zol (x0:GL1Cur)  (k:GL1Cur→GReq→Int→Option (GReq×GL1Cur)) (vb0:GL1Cur) (vb1:GReq) (v0:Int):Option (GReq×GL1Cur):=
 (Q0 vb1.burst).bind fun r4=>
 if decide (v0 < r4)=true then (
  Zlb x0 k vb0 vb1 v0 vb1.write)
 else (
  Zlb x0 k vb0 vb1 v0 false)
def Zco (x0:GL1Cur)  : Nat→GL1Cur→GReq→Int→Option (GReq×GL1Cur)
 | 0,_,_,_=>none
 | m+1,vb0,vb1,v0=>Zol x0  (Zco x0  m) vb0 vb1 v0
def Zgr (x0:GL1Cur)  (vb0:GL1Cur) (vb1:GReq):Option (GReq×GL1Cur):=
 Zco x0 FU vb0 vb1 0
def Zir (x0:GL1Cur):Option (GReq×GL1Cur):=
 (Zax x0 2).bind fun r5=>
 (Yh r5.2 [2,2,2,0,1]).bind fun r6=>
 (Yh r6.2 [0,0,1,2,3]).bind fun r7=>
 (Zax r7.2 6).bind fun r8=>
 (W1 r6.1).bind fun r9=>
 (Zo r8.2 128).bind fun r10=>
 (Zo r10.2 128).bind fun r11=>
 (Zo r11.2 64).bind fun r12=>
 (Zo r12.2 40).bind fun r13=>
 (Zo r13.2 512).bind fun r14=>
 (Yh r14.2 [r10.1,r11.1,(addW 128 r12.1),(addW 192 r13.1),r14.1]).bind fun r15=>
 (nzI r9).bind fun n0=>
 (Zku (mulW (quoW r15.1 r9) r9) r6.1 r7.1).bind fun r16=>
 if (!r16)=true then (
  Zgr x0 r15.2 (GReq.mk r5.1 (mulW (quoW r15.1 r9) r9) r6.1 0 r8.1 []))
 else (
  Zgr x0 r15.2 (GReq.mk r5.1 (mulW (quoW r15.1 r9) r9) r6.1 r7.1 r8.1 []))
def Zk2 (x0:GL1Cur):Option (Int×GL1Cur):=
 (Zo x0 6).bind fun r0=>
 some ((subW r0.1 1),r0.2)
def Zi9 (x0:GL1Cur):Option (GReq×GL1Cur):=
 (Zir x0).bind fun r0=>
 (Zo r0.2 12).bind fun r1=>
 if decide (r1.1=0)=true then (
  (Yh r1.2 [(-4),510,512,61]).bind fun r2=>
  some ({r0.1 with addr:=r2.1},r2.2))
 else (
  if decide (r1.1=1)=true then (
   some ({r0.1 with write:=(!r0.1.write)},r1.2))
  else (
   if decide (r1.1=2)=true then (
    (Zk2 r1.2).bind fun r3=>
    some ({r0.1 with size:=r3.1},r3.2))
   else (
    if decide (r1.1=3)=true then (
     (Zk2 r1.2).bind fun r4=>
     some ({r0.1 with burst:=r4.1},r4.2))
    else (
     if decide (r1.1=4)=true then (
      (appI 8 r0.1.data_ [1]).bind fun z0=>
      some ({r0.1 with data_:=z0},r1.2))
     else (
      some (r0.1,r1.2))))))
def Zbi (x0:List Int)  (vb0:GL1Cur) (vb1:GConf) (v0:List GReq) (v1:Bool):Option (GConf×List GReq):=
 if v1=true then (
  (Zi9 vb0).bind fun r0=>
  (idx v0 0).bind fun a0=>
  (setO v0 0 r0.1).bind fun y0=>
  some (vb1,y0))
 else (
  some (vb1,v0))
def Zko (x0:List Int)  (k:GL1Cur→GConf→(List GReq)→Int→Option (GConf×List GReq)) (vb0:GL1Cur) (vb1:GConf) (v0:List GReq) (v2:Int):Option (GConf×List GReq):=
 if decide (v2 > 0)=true then (
  (Zir vb0).bind fun r1=>
  (appI 64 v0 [r1.1]).bind fun z0=>
  k r1.2 vb1 z0 (subW v2 1))
 else (
  if decide ((v0.length:Int) > 0)=true then (
   (Zax vb0 8).bind fun r2=>
   Zbi x0 r2.2 vb1 v0 r2.1)
  else (
   Zbi x0 vb0 vb1 v0 false))
def Jn (x0:List Int)  : Nat→GL1Cur→GConf→(List GReq)→Int→Option (GConf×List GReq)
 | 0,_,_,_,_=>none
 | m+1,vb0,vb1,v0,v2=>Zko x0  (Jn x0  m) vb0 vb1 v0 v2
def Znl (x0:List Int):Option (GConf×List GReq):=
 (Zl9 x0).bind fun r3=>
 (Zqe r3).bind fun r4=>
 (Zo r4.2 5).bind fun r5=>
 Jn x0 FU r5.2 r4.1 [] r5.1
def Z1 (x0:Int) (x1:Int) (x2:Int):Option Bool:=
 if decide (x1≤x0)=true then (
  some (decide (x0≤x2)))
 else (
  some false)
def Zox (x0:GConf)  (v0:Bool):Option Int:=
 if v0=true then (
  some 0)
 else (
  some (mulW (addW x0.maxRetry 2) (addW x0.maxWait 6)))
def Znm (x0:GConf):Option Int:=
 (Z1 x0.maxRetry 0 3).bind fun r0=>
 if (!r0)=true then (
  Zox x0 true)
 else (
  (Z1 x0.maxWait 0 3).bind fun r1=>
  Zox x0 (!r1))
def Znv (x0:GConf):Option Int:=
 (Znm x0).bind fun r0=>
 if decide (r0=0)=true then (
  some 0)
 else (
  (Z1 x0.lockMost 1 40).bind fun r1=>
  if (!r1)=true then (
   some 0)
  else (
   (Znm x0).bind fun r2=>
   some (addW (mulW 2 r2) x0.lockMost)))
def Zos (x0:GConf)  (k:Int→Int→Option Int) (v0:Int) (v1:Int):Option Int:=
 if decide (v1 < (x0.masters.length:Int))=true then (
  (idx x0.masters v1).bind fun a0=>
  if a0.prio=true then (
   k (addW v0 1) (addW v1 1))
  else (
   k v0 (addW v1 1)))
 else (
  some v0)
def Zlk (x0:GConf)  : Nat→Int→Int→Option Int
 | 0,_,_=>none
 | m+1,v0,v1=>Zos x0  (Zlk x0  m) v0 v1
def Zuw (x0:GConf):Option Int:=
 Zlk x0 FU 0 0
def Zjn (x0:GConf):Option Int:=
 (Znv x0).bind fun r0=>
 (Zuw x0).bind fun r1=>
 some (mulW (mulW 2 r0) r1)
def Zn0 (x0:GMConf) (x1:GConf):Option Bool:=
 (Z1 x0.weight 1 4).bind fun r0=>
 if (!r0)=true then (
  some true)
 else (
  if x0.prio=true then (
   (Zjn x1).bind fun r1=>
   (Z1 x0.every r1 1000).bind fun r2=>
   if (!r2)=true then (
    some true)
   else (
    (Z1 x0.cap 1 8).bind fun r3=>
    some (!r3)))
  else (
   if decide (x0.every≠0)=true then (
    some true)
   else (
    some (decide (x0.cap≠0)))))
def Xr (x0:List GMConf) (x1c0:GConf)  (k:Int→Option Int) (v0:Int):Option Int:=
 if decide (v0 < (x0.length:Int))=true then (
  (idx x0 v0).bind fun a0=>
  (Zn0 a0 x1c0).bind fun r0=>
  if r0=true then (
   some v0)
  else (
   k (addW v0 1)))
 else (
  some (-1))
def Z3 (x0:List GMConf) (x1c0:GConf)  : Nat→Int→Option Int
 | 0,_=>none
 | m+1,v0=>Xr x0 x1c0  (Z3 x0 x1c0  m) v0
def We (x0:List GMConf) (x1c0:GConf):Option Int:=
 Z3 x0 x1c0 FU 0
def Yz (x0:List GMConf) (x1c0:GConf):Option Bool:=
 (We x0 x1c0).bind fun r0=>
 some (decide (r0≥0))
def Zf6 (x0:GConf):Option Bool:=
 (Z1 (x0.masters.length:Int) 1 4).bind fun r0=>
 if (!r0)=true then (
  some false)
 else (
  (Z1 x0.quantum 1 4).bind fun r1=>
  if (!r1)=true then (
   some false)
  else (
   (Z1 x0.maxSplit 1 12).bind fun r2=>
   if (!r2)=true then (
    some false)
   else (
    (Znv x0).bind fun r3=>
    if decide (r3=0)=true then (
     some false)
    else (
     (Yz x0.masters x0).bind fun r4=>
     some (!r4)))))
def Ka (x0:List GMConf):Option (List GMConf):=appI 32 [] x0
def Zk8 (x0:GConf):Option GConf:=
 (Ka x0.masters).bind fun r0=>
 some {x0 with masters:=r0}
def Z6j  : Option GDev:=
 (mkI 8 4 0).bind fun m0=>
 some (GDev.mk m0 0 [])
def Zmt  : Option GModel:=
 (mkI 8 192 0).bind fun m0=>
 (Z6j).bind fun r0=>
 some (GModel.mk m0 r0)
def Zlp (x0:GMConf):Option GBucket:=
 if (!x0.prio)=true then (
  some GBucket.z0)
 else (
  some (GBucket.mk (maxI x0.cap 0) 0))
def Zh4 (x0:GConf)  (k:GBus→Int→Option (GBus×Bool)) (vb0:GBus) (v0:Int):Option (GBus×Bool):=
 if decide (v0 < (x0.masters.length:Int))=true then (
  (idx x0.masters v0).bind fun a0=>
  (appI 56 vb0.m [GMst.z0]).bind fun z0=>
  (Zlp a0).bind fun r0=>
  (appI 16 vb0.buckets [r0]).bind fun z1=>
  (appI 8 vb0.splits [0]).bind fun z2=>
  k {vb0 with m:=z0,buckets:=z1,splits:=z2} (addW v0 1))
 else (
  some (vb0,true))
def Zkb (x0:GConf)  : Nat→GBus→Int→Option (GBus×Bool)
 | 0,_,_=>none
 | m+1,vb0,v0=>Zh4 x0  (Zkb x0  m) vb0 v0
def Zr4 (x0:GConf):Option (GBus×Bool):=
 (Zf6 x0).bind fun r1=>
 if (!r1)=true then (
  some (GBus.z0,false))
 else (
  (Zk8 x0).bind fun r2=>
  (Zmt).bind fun r3=>
  Zkb x0 FU (GBus.mk r2 0 [] GWrr.z0 [] [] (-1) 0 (-1) GBeat.z0 GBeat.z0 r3 0 []) 0)
def Zdw (x0:Int):Option Int:=
 (Z1 x0 0 3).bind fun r0=>
 if (!r0)=true then (
  some 0)
 else (
  (idx [1,4,4,8] x0).bind fun a0=>
  some a0)
def Q1 (x0:Int):Option Int:=
 (Z1 x0 0 2).bind fun r0=>
 if (!r0)=true then (
  some 0)
 else (
  (nnI x0).bind fun n0=>
  some (shlW 1 x0))
def Zd4 (x0:Int) (x1:Int):Option Bool:=
 (Z1 x1 0 2).bind fun r0=>
 if r0=true then (
  if decide (x0≥0)=true then (
   (Q1 x1).bind fun r1=>
   (nzI r1).bind fun n0=>
   some (decide ((remW x0 r1)=0)))
  else (
   some false))
 else (
  some false)
def Zbm (x0:Int) (x1:Int) (x2:Int)  (v0:Bool):Option Int:=
 if v0=true then (
  some (-1))
 else (
  (Q1 x1).bind fun r0=>
  (Q1 x1).bind fun r1=>
  if decide (x2=2)=true then (
   (nzI (mulW 4 r1)).bind fun n0=>
   if decide ((remW (addW x0 r0) (mulW 4 r1))=0)=true then (
    some (subW (addW x0 r0) (mulW 4 r1)))
   else (
    some (addW x0 r0)))
  else (
   some (addW x0 r0)))
def Zmo (x0:Int) (x1:Int) (x2:Int):Option Int:=
 (Zd4 x0 x1).bind fun r2=>
 if (!r2)=true then (
  Zbm x0 x1 x2 true)
 else (
  if decide (x0≥512)=true then (
   Zbm x0 x1 x2 true)
  else (
   (Zdw x2).bind fun r3=>
   Zbm x0 x1 x2 (decide (r3=0))))
def Jh (x0:Int) (x1:Int) (x2:Int)  (k:Int→(List Int)→Int→Int→Option (List Int)) (v0:Int) (v1:List Int) (v2:Int) (v3:Int):Option (List Int):=
 if decide (v3 < v2)=true then (
  (Zmo v0 x1 x2).bind fun r0=>
  if decide (r0 < 0)=true then (
   some [])
  else (
   (appI 8 v1 [v0]).bind fun z0=>
   k r0 z0 v2 (addW v3 1)))
 else (
  some v1)
def Zda (x0:Int) (x1:Int) (x2:Int)  : Nat→Int→(List Int)→Int→Int→Option (List Int)
 | 0,_,_,_,_=>none
 | m+1,v0,v1,v2,v3=>Jh x0 x1 x2  (Zda x0 x1 x2  m) v0 v1 v2 v3
def Zet (x0:Int) (x1:Int) (x2:Int):Option (List Int):=
 (Zdw x2).bind fun r1=>
 Zda x0 x1 x2 FU x0 [] r1 0
def Zl5 (x0:Int) (x1:Int) (x2:Int)  (k:(List Int)→Int→Int→Option Bool) (v0:List Int) (v1:Int) (v2:Int):Option Bool:=
 if decide (v2 < v1)=true then (
  (idx v0 v2).bind fun a0=>
  (idx v0 0).bind fun a1=>
  if decide ((quoW a0 64)≠(quoW a1 64))=true then (
   some false)
  else (
   k v0 v1 (addW v2 1)))
 else (
  some (decide ((v0.length:Int) > 0)))
def Zh2 (x0:Int) (x1:Int) (x2:Int)  : Nat→(List Int)→Int→Int→Option Bool
 | 0,_,_,_=>none
 | m+1,v0,v1,v2=>Zl5 x0 x1 x2  (Zh2 x0 x1 x2  m) v0 v1 v2
def Zpy (x0:Int) (x1:Int) (x2:Int):Option Bool:=
 (Zet x0 x1 x2).bind fun r0=>
 Zh2 x0 x1 x2 FU r0 (r0.length:Int) 0
def Zky (x0:Int):Option Int:=
 (Q1 x0).bind fun r0=>
 if decide (r0=0)=true then (
  some 0)
 else (
  (Q1 x0).bind fun r1=>
  (nnI (mulW 8 r1)).bind fun n0=>
  some (shlW 1 (mulW 8 r1)))
def Za7 (x0:Int) (x1:Int):Option Bool:=
 (Zky x1).bind fun r0=>
 (Z1 x0 0 (subW r0 1)).bind fun r1=>
 some r1
def Zpt (x0:Int) (x1:GReq):Option Bool:=
 (Za7 x0 x1.size).bind fun r0=>
 some (!r0)
def Zer (x0:List Int) (x1c0:GReq)  (k:Int→Option Int) (v0:Int):Option Int:=
 if decide (v0 < (x0.length:Int))=true then (
  (idx x0 v0).bind fun a0=>
  (Zpt a0 x1c0).bind fun r0=>
  if r0=true then (
   some v0)
  else (
   k (addW v0 1)))
 else (
  some (-1))
def Wk (x0:List Int) (x1c0:GReq)  : Nat→Int→Option Int
 | 0,_=>none
 | m+1,v0=>Zer x0 x1c0  (Wk x0 x1c0  m) v0
def W5 (x0:List Int) (x1c0:GReq):Option Int:=
 Wk x0 x1c0 FU 0
def Xd (x0:List Int) (x1c0:GReq):Option Bool:=
 (W5 x0 x1c0).bind fun r0=>
 some (decide (r0≥0))
def Zlm (x0:GReq)  (v0:Int):Option Bool:=
 (Zpy x0.addr x0.size x0.burst).bind fun r0=>
 if r0=true then (
  if decide ((x0.data_.length:Int)=v0)=true then (
   (Xd x0.data_ x0).bind fun r1=>
   some (!r1))
  else (
   some false))
 else (
  some false)
def Zl7 (x0:GReq):Option Bool:=
 if x0.write=true then (
  (Zdw x0.burst).bind fun r2=>
  Zlm x0 r2)
 else (
  Zlm x0 0)
def Zrn (x0:GReq):Option Bool:=
 (Zl7 x0).bind fun r0=>
 some (!r0)
def Ze6 (x0:List GReq)  (k:Int→Option Int) (v0:Int):Option Int:=
 if decide (v0 < (x0.length:Int))=true then (
  (idx x0 v0).bind fun a0=>
  (Zrn a0).bind fun r0=>
  if r0=true then (
   some v0)
  else (
   k (addW v0 1)))
 else (
  some (-1))
def Xf (x0:List GReq)  : Nat→Int→Option Int
 | 0,_=>none
 | m+1,v0=>Ze6 x0  (Xf x0  m) v0
def Qf (x0:List GReq):Option Int:=
 Xf x0 FU 0
def Wz (x0:List GReq):Option Bool:=
 (Qf x0).bind fun r0=>
 some (decide (r0≥0))
def Yd (x0:List Int):Option (List Int):=appI 8 [] x0
def Zfv (x0:GReq):Option GReq:=
 (Yd x0.data_).bind fun r0=>
 some {x0 with data_:=r0}
def Z5d (x0:GMst)  (k:(List GReq)→Int→Option GMst) (v0:List GReq) (v1:Int):Option GMst:=
 if decide (v1 < (x0.queue.length:Int))=true then (
  (idx x0.queue v1).bind fun a0=>
  (Zfv a0).bind fun r0=>
  (appI 64 v0 [r0]).bind fun z0=>
  k z0 (addW v1 1))
 else (
  some {x0 with queue:=v0})
def Zj2 (x0:GMst)  : Nat→(List GReq)→Int→Option GMst
 | 0,_,_=>none
 | m+1,v0,v1=>Z5d x0  (Zj2 x0  m) v0 v1
def Zcv (x0:GMst):Option GMst:=
 Zj2 x0 FU [] 0
def Qo (x0:List GBucket):Option (List GBucket):=appI 16 [] x0
def Zns (x0:GDev):Option GDev:=
 (Yd x0.regs).bind fun r0=>
 (Yd x0.fifo).bind fun r1=>
 some (GDev.mk r0 x0.timer r1)
def Ze0 (x0:GModel):Option GModel:=
 (Yd x0.mem).bind fun r0=>
 (Zns x0.dev).bind fun r1=>
 some (GModel.mk r0 r1)
def Ky (x0:List GDone):Option (List GDone):=appI 56 [] x0
def Zh8 (x0:GBus)  (k:GBus→(List GMst)→Int→Option GBus) (vb0:GBus) (v0:List GMst) (v1:Int):Option GBus:=
 if decide (v1 < (x0.m.length:Int))=true then (
  (idx x0.m v1).bind fun a0=>
  (Zcv a0).bind fun r0=>
  (appI 56 v0 [r0]).bind fun z0=>
  k vb0 z0 (addW v1 1))
 else (
  (Qo vb0.buckets).bind fun r1=>
  (Yd vb0.splits).bind fun r2=>
  (Ze0 vb0.model).bind fun r3=>
  (Ky vb0.log).bind fun r4=>
  some {vb0 with m:=v0,buckets:=r1,splits:=r2,model:=r3,log:=r4})
def Zen (x0:GBus)  : Nat→GBus→(List GMst)→Int→Option GBus
 | 0,_,_,_=>none
 | m+1,vb0,v0,v1=>Zh8 x0  (Zen x0  m) vb0 v0 v1
def Znt (x0:GBus):Option GBus:=
 (Zk8 x0.conf).bind fun r5=>
 Zen x0 FU {x0 with conf:=r5} [] 0
def Zdm (x0:GReq):Option Bool:=
 (Zl7 x0).bind fun r0=>
 some (!r0)
def Zbb (x0:List GReq)  (k:Int→Option Int) (v0:Int):Option Int:=
 if decide (v0 < (x0.length:Int))=true then (
  (idx x0 v0).bind fun a0=>
  (Zdm a0).bind fun r0=>
  if r0=true then (
   some v0)
  else (
   k (addW v0 1)))
 else (
  some (-1))
def Xn (x0:List GReq)  : Nat→Int→Option Int
 | 0,_=>none
 | m+1,v0=>Zbb x0  (Xn x0  m) v0
def X5 (x0:List GReq):Option Int:=
 Xn x0 FU 0
def Yt (x0:List GReq):Option Bool:=
 (X5 x0).bind fun r0=>
 some (decide (r0≥0))
def Jb (x0:GMst):Option Int:=
 if decide ((x0.queue.length:Int)=0)=true then (
  some 0)
 else (
  (idx x0.queue 0).bind fun a0=>
  (Zdw a0.burst).bind fun r0=>
  some r0)
def Xe (x0:GMst)  (v0:Bool):Option Bool:=
 if v0=true then (
  some false)
 else (
  if decide ((x0.queue.length:Int)=0)=true then (
   if decide (x0.beat=0)=true then (
    if decide (x0.done=0)=true then (
     if decide (x0.tries=0)=true then (
      if (!x0.parted)=true then (
       some (!x0.broken))
      else (
       some false))
     else (
      some false))
    else (
     some false))
   else (
    some false))
  else (
   (Jb x0).bind fun r0=>
   (Z1 x0.done 0 (subW r0 1)).bind fun r1=>
   if r1=true then (
    (Jb x0).bind fun r2=>
    (Z1 x0.beat x0.done (minI (addW x0.done 2) r2)).bind fun r3=>
    some r3)
   else (
    some false)))
def Wt (x0:GMst):Option Bool:=
 if decide ((x0.queue.length:Int) > 4)=true then (
  Xe x0 true)
 else (
  if decide (x0.tries < 0)=true then (
   Xe x0 true)
  else (
   (Yt x0.queue).bind fun r4=>
   Xe x0 r4))
def Zit (x0:GBucket) (x1:GMConf):Option Bool:=
 if (!x1.prio)=true then (
  some (decide (x0.tokens=0)&&(decide (x0.count=0)&&true)))
 else (
  (Z1 x0.tokens 0 x1.cap).bind fun r0=>
  if r0=true then (
   if decide (x0.count≥0)=true then (
    some (decide (x0.count < x1.every)))
   else (
    some false))
  else (
   some false))
def Jc (x0:GBus)  (k:Int→Option Bool) (v0:Int):Option Bool:=
 if decide (v0 < (x0.m.length:Int))=true then (
  (idx x0.m v0).bind fun a0=>
  (Wt a0).bind fun r0=>
  if (!r0)=true then (
   some false)
  else (
   if decide (a0.tries > x0.conf.maxRetry)=true then (
    some false)
   else (
    (idx x0.buckets v0).bind fun a1=>
    (idx x0.conf.masters v0).bind fun a2=>
    (Zit a1 a2).bind fun r1=>
    if (!r1)=true then (
     some false)
    else (
     (idx x0.splits v0).bind fun a3=>
     (Z1 a3 0 x0.conf.maxSplit).bind fun r2=>
     if (!r2)=true then (
      some false)
     else (
      k (addW v0 1))))))
 else (
  some true)
def Zd3 (x0:GBus)  : Nat→Int→Option Bool
 | 0,_=>none
 | m+1,v0=>Jc x0  (Zd3 x0  m) v0
def X3 (x0:GBus)  (v1:Bool):Option Bool:=
 if v1=true then (
  some false)
 else (
  Zd3 x0 FU 0)
def Zc8 (x0:GBus):Option Bool:=
 if decide ((x0.m.length:Int)≠(x0.conf.masters.length:Int))=true then (
  X3 x0 true)
 else (
  if decide ((x0.buckets.length:Int)≠(x0.conf.masters.length:Int))=true then (
   X3 x0 true)
  else (
   X3 x0 (decide ((x0.splits.length:Int)≠(x0.conf.masters.length:Int)))))
def W9 (x0:GConf) (x1:Int):Option Bool:=
 (Z1 x1 0 (subW (x0.masters.length:Int) 1)).bind fun r0=>
 some r0
def Zou (x0:GConf) (x1:Int)  (v0:Bool):Option Int:=
 if v0=true then (
  some 0)
 else (
  (idx x0.masters x1).bind fun a0=>
  some (mulW a0.weight x0.quantum))
def Zke (x0:GConf) (x1:Int):Option Int:=
 (Zf6 x0).bind fun r0=>
 if (!r0)=true then (
  Zou x0 x1 true)
 else (
  (W9 x0 x1).bind fun r1=>
  Zou x0 x1 (!r1))
def Zjc (x0:GWrr) (x1:GConf):Option Bool:=
 (Zf6 x1).bind fun r0=>
 if r0=true then (
  (W9 x1 x0.at_).bind fun r1=>
  if r1=true then (
   (Zke x1 x0.at_).bind fun r2=>
   (Z1 x0.credit 0 r2).bind fun r3=>
   some r3)
  else (
   some false))
 else (
  some false)
def Zrp (x0:Int):Option Bool:=
 (Z1 x0 0 255).bind fun r0=>
 some (!r0)
def Ze7 (x0:List Int)  (k:Int→Option Int) (v0:Int):Option Int:=
 if decide (v0 < (x0.length:Int))=true then (
  (idx x0 v0).bind fun a0=>
  (Zrp a0).bind fun r0=>
  if r0=true then (
   some v0)
  else (
   k (addW v0 1)))
 else (
  some (-1))
def Wx (x0:List Int)  : Nat→Int→Option Int
 | 0,_=>none
 | m+1,v0=>Ze7 x0  (Wx x0  m) v0
def Qi (x0:List Int):Option Int:=
 Wx x0 FU 0
def Xk (x0:List Int):Option Bool:=
 (Qi x0).bind fun r0=>
 some (decide (r0≥0))
def Zon (x0:List Int) (x1:Int) (x2:Int):Option Bool:=
 if decide ((x0.length:Int)≤512)=true then (
  (Xk x0).bind fun r0=>
  if (!r0)=true then (
   (Zd4 x1 x2).bind fun r1=>
   if r1=true then (
    (Q1 x2).bind fun r2=>
    some (decide (x1≤(subW (x0.length:Int) r2))))
   else (
    some false))
  else (
   some false))
 else (
  some false)
def Zo0 (x0:Int):Option Bool:=
 (Za7 x0 2).bind fun r0=>
 some (!r0)
def Ze2 (x0:List Int)  (k:Int→Option Int) (v0:Int):Option Int:=
 if decide (v0 < (x0.length:Int))=true then (
  (idx x0 v0).bind fun a0=>
  (Zo0 a0).bind fun r0=>
  if r0=true then (
   some v0)
  else (
   k (addW v0 1)))
 else (
  some (-1))
def Wj (x0:List Int)  : Nat→Int→Option Int
 | 0,_=>none
 | m+1,v0=>Ze2 x0  (Wj x0  m) v0
def W6 (x0:List Int):Option Int:=
 Wj x0 FU 0
def Yr (x0:List Int):Option Bool:=
 (W6 x0).bind fun r0=>
 some (decide (r0≥0))
def Zqu (x0:GDev):Option Bool:=
 if decide ((x0.regs.length:Int)=4)=true then (
  if decide ((x0.fifo.length:Int)≤4)=true then (
   (Yr x0.regs).bind fun r0=>
   if (!r0)=true then (
    (Yr x0.fifo).bind fun r1=>
    if (!r1)=true then (
     (Za7 x0.timer 2).bind fun r2=>
     some r2)
    else (
     some false))
   else (
    some false))
  else (
   some false))
 else (
  some false)
def Zdy (x0:GModel):Option Bool:=
 if decide ((x0.mem.length:Int)=192)=true then (
  (Zon x0.mem 0 0).bind fun r0=>
  if r0=true then (
   (Zqu x0.dev).bind fun r1=>
   some r1)
  else (
   some false))
 else (
  some false)
def Zj5 (x0:GBeat):Option Bool:=
 some (!x0.live)
def Zci (x0:List GBeat)  (k:Int→Option Int) (v0:Int):Option Int:=
 if decide (v0 < (x0.length:Int))=true then (
  (idx x0 v0).bind fun a0=>
  (Zj5 a0).bind fun r0=>
  if r0=true then (
   some v0)
  else (
   k (addW v0 1)))
 else (
  some (-1))
def Xw (x0:List GBeat)  : Nat→Int→Option Int
 | 0,_=>none
 | m+1,v0=>Zci x0  (Xw x0  m) v0
def Wd (x0:List GBeat):Option Int:=
 Xw x0 FU 0
def Zb4 (x0:List GBeat)  (k:(List GBeat)→Int→Int→Option (List GBeat)) (v0:List GBeat) (v1:Int) (v2:Int):Option (List GBeat):=
 if decide (v2 < (v0.length:Int))=true then (
  (idx v0 v2).bind fun a0=>
  (Zj5 a0).bind fun r0=>
  if (!r0)=true then (
   (idx v0 v1).bind fun a1=>
   (setO v0 v1 a0).bind fun y0=>
   k y0 (addW v1 1) (addW v2 1))
  else (
   k v0 v1 (addW v2 1)))
 else (
  (Q2 v0 v1 (v0.length:Int)).bind fun s0=>
  (clrI GBeat.z0 v0 v1 (v0.length:Int)).bind fun y1=>
  (Q2 y1 0 v1).bind fun s1=>
  some s1)
def Xs (x0:List GBeat)  : Nat→(List GBeat)→Int→Int→Option (List GBeat)
 | 0,_,_,_=>none
 | m+1,v0,v1,v2=>Zb4 x0  (Xs x0  m) v0 v1 v2
def Y4 (x0:List GBeat):Option (List GBeat):=
 (Wd x0).bind fun r1=>
 if decide (r1=(-1))=true then (
  some x0)
 else (
  Xs x0 FU x0 r1 (addW r1 1))
def Zog (x0:GBus):Option (List GBeat):=
 (Y4 [x0.addr,x0.data_]).bind fun r0=>
 some r0
def Wy (x0:GBus) (k_L1:(List Int)→(List GBeat)→Int→Int→Option Bool) (vb0:GBeat) (v0:List Int) (v1:List GBeat) (v2:Int) (v3:Int) (v4:Bool):Option Bool:=
 if v4=true then (
  some false)
 else (
  (idx v0 vb0.who).bind fun a0=>
  (setO v0 vb0.who (addW a0 1)).bind fun y0=>
  k_L1 y0 v1 v2 (addW v3 1))
def X2 (x0:GBus)  (v5:Bool):Option Bool:=
 if v5=true then (
  some false)
 else (
  if (!x0.data_.second)=true then (
   some true)
  else (
   if decide (x0.data_.left=0)=true then (
    if decide (x0.data_.resp≠0)=true then (
     some (!x0.addr.live))
    else (
     some false))
   else (
    some false)))
def K0 (x0:GBus)  (vb1:GMst) (v6:Bool):Option Bool:=
 if v6=true then (
  some false)
 else (
  if decide (x0.data_.resp=3)=true then (
   if vb1.parted=true then (
    X2 x0 true)
   else (
    X2 x0 (decide (x0.data_.who=x0.holder))))
  else (
   X2 x0 false))
def Qp (x0:GBus)  (vb1:GMst) (v7:Bool):Option Bool:=
 if v7=true then (
  some false)
 else (
  if decide (x0.data_.resp=2)=true then (
   K0 x0 vb1 (decide (vb1.tries≥x0.conf.maxRetry)))
  else (
   K0 x0 vb1 false))
def Yf (x0:GBus)  (v8:Bool):Option Bool:=
 if v8=true then (
  some false)
 else (
  if (!x0.data_.live)=true then (
   some ((x0.data_.live == false)&&(decide (x0.data_.who=0)&&(decide (x0.data_.beat=0)&&((x0.data_.first == false)&&(decide (x0.data_.by_=0)&&(decide (x0.data_.left=0)&&(decide (x0.data_.resp=0)&&((x0.data_.second == false)&&true)))))))))
  else (
   (idx x0.m x0.data_.who).bind fun a1=>
   if decide (x0.data_.beat≠a1.done)=true then (
    Qp x0 a1 true)
   else (
    (Z1 x0.data_.left 0 (addW x0.conf.maxWait 2)).bind fun r0=>
    if (!r0)=true then (
     Qp x0 a1 true)
    else (
     (Z1 x0.data_.resp 0 3).bind fun r1=>
     Qp x0 a1 (!r1)))))
def Y8 (x0:GBus)  (k:(List Int)→Int→Option Bool) (v0:List Int) (v9:Int):Option Bool:=
 if decide (v9 < (x0.m.length:Int))=true then (
  (idx x0.m v9).bind fun a2=>
  (idx v0 v9).bind fun a3=>
  if decide ((subW a2.beat a2.done)≠a3)=true then (
   some false)
  else (
   k v0 (addW v9 1)))
 else (
  if x0.addr.live=true then (
   (idx x0.m x0.addr.who).bind fun a4=>
   if decide (x0.addr.beat≠(subW a4.beat 1))=true then (
    Yf x0 true)
   else (
    if decide (x0.addr.left≠0)=true then (
     Yf x0 true)
    else (
     if decide (x0.addr.resp≠0)=true then (
      Yf x0 true)
     else (
      if x0.addr.second=true then (
       Yf x0 true)
      else (
       if (!x0.addr.live)=true then (
        Yf x0 (!((x0.addr.live == false)&&(decide (x0.addr.who=0)&&(decide (x0.addr.beat=0)&&((x0.addr.first == false)&&(decide (x0.addr.by_=0)&&(decide (x0.addr.left=0)&&(decide (x0.addr.resp=0)&&((x0.addr.second == false)&&true))))))))))
       else (
        Yf x0 false))))))
  else (
   if (!x0.addr.live)=true then (
    Yf x0 (!((x0.addr.live == false)&&(decide (x0.addr.who=0)&&(decide (x0.addr.beat=0)&&((x0.addr.first == false)&&(decide (x0.addr.by_=0)&&(decide (x0.addr.left=0)&&(decide (x0.addr.resp=0)&&((x0.addr.second == false)&&true))))))))))
   else (
    Yf x0 false)))
def Kw (x0:GBus)  : Nat→(List Int)→Int→Option Bool
 | 0,_,_=>none
 | m+1,v0,v9=>Y8 x0  (Kw x0  m) v0 v9
def Y5 (x0:GBus)  (k:(List Int)→(List GBeat)→Int→Int→Option Bool) (v0:List Int) (v1:List GBeat) (v2:Int) (v3:Int):Option Bool:=
 if decide (v3 < v2)=true then (
  (idx v1 v3).bind fun a5=>
  (W9 x0.conf a5.who).bind fun r2=>
  if (!r2)=true then (
   Wy x0 k a5 v0 v1 v2 v3 true)
  else (
   (Z1 a5.by_ 1 3).bind fun r3=>
   if (!r3)=true then (
    Wy x0 k a5 v0 v1 v2 v3 true)
   else (
    (idx x0.splits a5.who).bind fun a6=>
    Wy x0 k a5 v0 v1 v2 v3 (decide (a6≠0)))))
 else (
  Kw x0 FU v0 0)
def Zas (x0:GBus)  : Nat→(List Int)→(List GBeat)→Int→Int→Option Bool
 | 0,_,_,_,_=>none
 | m+1,v0,v1,v2,v3=>Y5 x0  (Zas x0  m) v0 v1 v2 v3
def Jm (x0:GBus):Option Bool:=
 (mkI 8 (x0.m.length:Int) 0).bind fun m0=>
 (Zog x0).bind fun r4=>
 Zas x0 FU m0 r4 (r4.length:Int) 0
def Zl8 (x0:GMst):Option Bool:=
 if decide ((x0.queue.length:Int) > 0)=true then (
  (idx x0.queue 0).bind fun a0=>
  if a0.lock=true then (
   some (!x0.broken))
  else (
   some false))
 else (
  some false)
def Zcd (x0:GBus)  (k:Int→Option Bool) (v0:Int):Option Bool:=
 if decide (v0 < (x0.m.length:Int))=true then (
  (idx x0.m v0).bind fun a0=>
  if decide (a0.beat > 0)=true then (
   (Zl8 a0).bind fun r0=>
   if r0=true then (
    if decide (x0.holder≠v0)=true then (
     some false)
    else (
     k (addW v0 1)))
   else (
    k (addW v0 1)))
  else (
   k (addW v0 1)))
 else (
  if decide (x0.holder=(-1))=true then (
   some (decide (x0.held=0)))
  else (
   (W9 x0.conf x0.holder).bind fun r1=>
   if r1=true then (
    (idx x0.m x0.holder).bind fun a1=>
    (Zl8 a1).bind fun r2=>
    if r2=true then (
     (idx x0.splits x0.holder).bind fun a2=>
     if decide (a2=0)=true then (
      (Z1 x0.held 0 x0.conf.lockMost).bind fun r3=>
      some r3)
     else (
      some false))
    else (
     some false))
   else (
    some false)))
def Zis (x0:GBus)  : Nat→Int→Option Bool
 | 0,_=>none
 | m+1,v0=>Zcd x0  (Zis x0  m) v0
def Zba (x0:GBus):Option Bool:=
 Zis x0 FU 0
def Zai (x0:GBus)  (k:Int→Int→Option Bool) (v0:Int) (v1:Int):Option Bool:=
 if decide (v1 < (x0.log.length:Int))=true then (
  (idx x0.log v1).bind fun a0=>
  if decide (a0.cycle≤v0)=true then (
   some false)
  else (
   if decide (a0.cycle≥x0.now)=true then (
    some false)
   else (
    (W9 x0.conf a0.who).bind fun r0=>
    if (!r0)=true then (
     some false)
    else (
     (Zd4 a0.addr a0.size).bind fun r1=>
     if (!r1)=true then (
      some false)
     else (
      if decide (a0.addr≥512)=true then (
       some false)
      else (
       (Za7 a0.value a0.size).bind fun r2=>
       if (!r2)=true then (
        some false)
       else (
        if decide (a0.resp≠0)=true then (
         if decide (a0.resp≠1)=true then (
          some false)
         else (
          k a0.cycle (addW v1 1)))
        else (
         k a0.cycle (addW v1 1)))))))))
 else (
  some true)
def Zay (x0:GBus)  : Nat→Int→Int→Option Bool
 | 0,_,_=>none
 | m+1,v0,v1=>Zai x0  (Zay x0  m) v0 v1
def Jl (x0:GBus):Option Bool:=
 Zay x0 FU (-1) 0
def Zmi (x0:GBus):Option Bool:=
 (Zf6 x0.conf).bind fun r0=>
 if r0=true then (
  (Z1 x0.now 0 4000).bind fun r1=>
  if r1=true then (
   (Zc8 x0).bind fun r2=>
   if r2=true then (
    (Zjc x0.arb x0.conf).bind fun r3=>
    if r3=true then (
     if decide (x0.last=(-1))=true then (
      (Zdy x0.model).bind fun r4=>
      if r4=true then (
       (Z1 x0.picks 0 x0.now).bind fun r5=>
       if r5=true then (
        (Jm x0).bind fun r6=>
        if r6=true then (
         (Zba x0).bind fun r7=>
         if r7=true then (
          (Jl x0).bind fun r8=>
          some r8)
         else (
          some false))
        else (
         some false))
       else (
        some false))
      else (
       some false))
     else (
      (W9 x0.conf x0.last).bind fun r9=>
      if r9=true then (
       (Zdy x0.model).bind fun r4=>
       if r4=true then (
        (Z1 x0.picks 0 x0.now).bind fun r5=>
        if r5=true then (
         (Jm x0).bind fun r6=>
         if r6=true then (
          (Zba x0).bind fun r7=>
          if r7=true then (
           (Jl x0).bind fun r8=>
           some r8)
          else (
           some false))
         else (
          some false))
        else (
         some false))
       else (
        some false))
      else (
       some false)))
    else (
     some false))
   else (
    some false))
  else (
   some false))
 else (
  some false)
def Z1u (x0:GScript)  (k:Int→Int→Option Int) (v0:Int) (v1:Int):Option Int:=
 if decide (v1 < (x0.posts.length:Int))=true then (
  (idx x0.posts v1).bind fun a0=>
  k (maxI v0 a0.at_) (addW v1 1))
 else (
  some v0)
def Zfw (x0:GScript)  : Nat→Int→Int→Option Int
 | 0,_,_=>none
 | m+1,v0,v1=>Z1u x0  (Zfw x0  m) v0 v1
def Zmm (x0:GScript):Option Int:=
 Zfw x0 FU (-1) 0
def Zbr (x0:GMst):Option Bool:=
 some (decide ((x0.queue.length:Int) > 0))
def Zcj (x0:List GMst)  (k:Int→Option Int) (v0:Int):Option Int:=
 if decide (v0 < (x0.length:Int))=true then (
  (idx x0 v0).bind fun a0=>
  (Zbr a0).bind fun r0=>
  if r0=true then (
   some v0)
  else (
   k (addW v0 1)))
 else (
  some (-1))
def Yw (x0:List GMst)  : Nat→Int→Option Int
 | 0,_=>none
 | m+1,v0=>Zcj x0  (Yw x0  m) v0
def Wf (x0:List GMst):Option Int:=
 Yw x0 FU 0
def X1 (x0:List GMst):Option Bool:=
 (Wf x0).bind fun r0=>
 some (decide (r0≥0))
def Zji (x0:GBus):Option Bool:=
 (X1 x0.m).bind fun r0=>
 some (!r0)
def Zhk (x0:GMst) (x1:Int)  (v0:Bool):Option Int:=
 if v0=true then (
  some (-1))
 else (
  (idx x0.queue 0).bind fun a0=>
  (Zet a0.addr a0.size a0.burst).bind fun r0=>
  (idx r0 x1).bind fun a1=>
  some a1)
def Za8 (x0:GMst) (x1:Int):Option Int:=
 (Wt x0).bind fun r1=>
 if (!r1)=true then (
  Zhk x0 x1 true)
 else (
  (Jb x0).bind fun r2=>
  (Z1 x1 0 (subW r2 1)).bind fun r3=>
  Zhk x0 x1 (!r3))
def Zf9 (x0:GScript) (x1:Int)  (k:(List GPost)→Int→Option (List GPost)) (v0:List GPost) (v1:Int):Option (List GPost):=
 if decide (v1 < (x0.posts.length:Int))=true then (
  (idx x0.posts v1).bind fun a0=>
  if decide (a0.at_=x1)=true then (
   (Zfv a0.req).bind fun r0=>
   (appI 80 v0 [{a0 with req:=r0}]).bind fun z0=>
   k z0 (addW v1 1))
  else (
   k v0 (addW v1 1)))
 else (
  some v0)
def Zg9 (x0:GScript) (x1:Int)  : Nat→(List GPost)→Int→Option (List GPost)
 | 0,_,_=>none
 | m+1,v0,v1=>Zf9 x0 x1  (Zg9 x0 x1  m) v0 v1
def Zpw (x0:GScript) (x1:Int):Option (List GPost):=
 Zg9 x0 x1 FU [] 0
def Zc9 (x0:GMst) (x1:GReq)  (vb0:GMst) (v0:Bool):Option (GMst×Bool):=
 if v0=true then (
  some (vb0,false))
 else (
  (Zfv x1).bind fun r0=>
  (appI 64 vb0.queue [r0]).bind fun z0=>
  some ({vb0 with queue:=z0},true))
def Zpl (x0:GMst) (x1:GReq):Option (GMst×Bool):=
 (Zcv x0).bind fun r1=>
 (Wt x0).bind fun r2=>
 if (!r2)=true then (
  Zc9 x0 x1 r1 true)
 else (
  (Zl7 x1).bind fun r3=>
  if (!r3)=true then (
   Zc9 x0 x1 r1 true)
  else (
   Zc9 x0 x1 r1 (decide ((x0.queue.length:Int)=4))))
def Zjp (x0:GBucket) (x1:GMConf):Option Bool:=
 if x1.prio=true then (
  (Zit x0 x1).bind fun r0=>
  some r0)
 else (
  some false)
def Zjf (x0:GBucket) (x1:GMConf):Option GBucket:=
 (Zjp x0 x1).bind fun r0=>
 if (!r0)=true then (
  some x0)
 else (
  if decide ((addW x0.count 1)=x1.every)=true then (
   some (GBucket.mk (minI (addW x0.tokens 1) x1.cap) 0))
  else (
   some (GBucket.mk x0.tokens (addW x0.count 1))))
def Zho (x0:GMst)  (vb0:GMst) (v0:Bool):Option (GMst×Bool):=
 if v0=true then (
  some (vb0,false))
 else (
  some ({vb0 with beat:=(subW vb0.beat 1)},true))
def Zpz (x0:GMst):Option (GMst×Bool):=
 (Zcv x0).bind fun r0=>
 (Wt x0).bind fun r1=>
 if (!r1)=true then (
  Zho x0 r0 true)
 else (
  Zho x0 r0 (decide (x0.beat=x0.done)))
def Zkd (x0:GBucket) (x1:GMConf):Option GBucket:=
 (Zjp x0 x1).bind fun r0=>
 if r0=true then (
  if decide (x0.tokens < x1.cap)=true then (
   some (GBucket.mk (addW x0.tokens 1) x0.count))
  else (
   some x0))
 else (
  some x0)
def Zhw (x0:GWrr) (x1:GConf) (x2:Int)  (v0:Bool):Option GWrr:=
 if v0=true then (
  (Zke x1 x2).bind fun r0=>
  some (GWrr.mk x0.at_ (minI (addW x0.credit 1) r0)))
 else (
  some x0)
def Zpv (x0:GWrr) (x1:GConf) (x2:Int):Option GWrr:=
 (Zjc x0 x1).bind fun r1=>
 if r1=true then (
  Zhw x0 x1 x2 (decide (x2=x0.at_)))
 else (
  Zhw x0 x1 x2 false)
def Zbh (x0:GBus) (x1:GBeat):Option GBus:=
 (idx x0.m x1.who).bind fun a0=>
 (Zpz a0).bind fun r0=>
 (setO x0.m x1.who r0.1).bind fun y0=>
 if decide (x1.by_=1)=true then (
  (idx x0.buckets x1.who).bind fun a1=>
  (idx x0.conf.masters x1.who).bind fun a2=>
  (Zkd a1 a2).bind fun r1=>
  (setO x0.buckets x1.who r1).bind fun y1=>
  some {x0 with m:=y0,buckets:=y1})
 else (
  if decide (x1.by_=2)=true then (
   (Zpv x0.arb x0.conf x1.who).bind fun r2=>
   some {x0 with m:=y0,arb:=r2})
  else (
   some {x0 with m:=y0}))
def Zg6 (x0:List Int) (x1:Int)  (v0:Bool):Option Int:=
 if v0=true then (
  some 0)
 else (
  (nzI (x0.length:Int)).bind fun n0=>
  (idx x0 (remW x1 (x0.length:Int))).bind fun a0=>
  some a0)
def Zg1 (x0:List Int) (x1:Int):Option Int:=
 if decide ((x0.length:Int)=0)=true then (
  Zg6 x0 x1 true)
 else (
  Zg6 x0 x1 (decide (x1 < 0)))
def Zpf (x0:GConf) (x1:GScript) (x2:Int):Option Int:=
 (Zg1 x1.waits x2).bind fun r0=>
 some (maxI 1 (minI (addW (maxI 0 (minI r0 99)) 1) x0.maxSplit))
def Zjj (x0:GMst) (x1:Int):Option Int:=
 (idx x0.queue 0).bind fun a0=>
 if a0.write=true then (
  (idx a0.data_ x1).bind fun a1=>
  some a1)
 else (
  some 0)
def Zhd (x0:Int)  (v0:Bool):Option Int:=
 if v0=true then (
  some 0)
 else (
  if decide (x0 < 128)=true then (
   some 1)
  else (
   if decide (x0 < 192)=true then (
    some 2)
   else (
    some 3)))
def Zkt (x0:Int):Option Int:=
 if decide (x0 < 0)=true then (
  Zhd x0 true)
 else (
  Zhd x0 (decide (x0≥224)))
def Zgm (x0:GDev) (x1:Bool) (x2:Int) (x3:Int)  (vb0:GDev) (v0:Bool):Option (GDev×Int×Bool):=
 if v0=true then (
  some (vb0,0,false))
 else (
  if x1=true then (
   (idx vb0.regs (quoW x2 4)).bind fun a0=>
   (setO vb0.regs (quoW x2 4) x3).bind fun y0=>
   some ({vb0 with regs:=y0},x3,true))
  else (
   (idx x0.regs (quoW x2 4)).bind fun a1=>
   some (vb0,a1,true)))
def Zgs (x0:GDev) (x1:Bool) (x2:Int) (x3:Int)  (vb0:GDev) (v1:Bool):Option (GDev×Int×Bool):=
 if v1=true then (
  (idx x0.fifo 0).bind fun a2=>
  (Q2 x0.fifo 1 (x0.fifo.length:Int)).bind fun s0=>
  (Yd s0).bind fun r0=>
  some ({vb0 with fifo:=r0},a2,true))
 else (
  if decide (x2≥16)=true then (
   Zgm x0 x1 x2 x3 vb0 true)
  else (
   if decide (x2 < 0)=true then (
    Zgm x0 x1 x2 x3 vb0 true)
   else (
    Zgm x0 x1 x2 x3 vb0 (decide ((remW x2 4)≠0)))))
def Zgq (x0:GDev) (x1:Bool) (x2:Int) (x3:Int)  (vb0:GDev) (v2:Bool):Option (GDev×Int×Bool):=
 if v2=true then (
  (appI 8 vb0.fifo [x3]).bind fun z0=>
  some ({vb0 with fifo:=z0},x3,true))
 else (
  if decide (x2=20)=true then (
   if (!x1)=true then (
    Zgs x0 x1 x2 x3 vb0 (decide ((x0.fifo.length:Int) > 0)))
   else (
    Zgs x0 x1 x2 x3 vb0 false))
  else (
   Zgs x0 x1 x2 x3 vb0 false))
def Zk9 (x0:GDev) (x1:Bool) (x2:Int) (x3:Int)  (vb0:GDev) (v3:Bool):Option (GDev×Int×Bool):=
 if v3=true then (
  some ({vb0 with timer:=x3},x3,true))
 else (
  if decide (x2=16)=true then (
   (Zky 2).bind fun r1=>
   (nzI r1).bind fun n0=>
   some ({vb0 with timer:=(remW (addW x0.timer 1) r1)},x0.timer,true))
  else (
   if decide (x2=20)=true then (
    if x1=true then (
     Zgq x0 x1 x2 x3 vb0 (decide ((x0.fifo.length:Int) < 4)))
    else (
     Zgq x0 x1 x2 x3 vb0 false))
   else (
    Zgq x0 x1 x2 x3 vb0 false)))
def Zal (x0:GDev) (x1:Bool) (x2:Int) (x3:Int)  (vb0:GDev) (v4:Bool):Option (GDev×Int×Bool):=
 if v4=true then (
  some (vb0,0,false))
 else (
  if decide (x2=16)=true then (
   Zk9 x0 x1 x2 x3 vb0 x1)
  else (
   Zk9 x0 x1 x2 x3 vb0 false))
def Zum (x0:GDev) (x1:Bool) (x2:Int) (x3:Int):Option (GDev×Int×Bool):=
 (Zns x0).bind fun r2=>
 (Zqu x0).bind fun r3=>
 if (!r3)=true then (
  Zal x0 x1 x2 x3 r2 true)
 else (
  if x1=true then (
   (Za7 x3 2).bind fun r4=>
   Zal x0 x1 x2 x3 r2 (!r4))
  else (
   Zal x0 x1 x2 x3 r2 false))
def Zdn (x0:List Int) (x1:Int) (x2:Int) (x3:Int)  (k:(List Int)→Int→Int→Option (List Int×Bool)) (v0:List Int) (v1:Int) (v2:Int):Option (List Int×Bool):=
 if decide (v2 < v1)=true then (
  (nnI (mulW 8 v2)).bind fun n0=>
  (idx v0 (addW x1 v2)).bind fun a0=>
  (setO v0 (addW x1 v2) (andW (shrW x3 (mulW 8 v2)) 255)).bind fun y0=>
  k y0 v1 (addW v2 1))
 else (
  some (v0,true))
def Zjx (x0:List Int) (x1:Int) (x2:Int) (x3:Int)  : Nat→(List Int)→Int→Int→Option (List Int×Bool)
 | 0,_,_,_=>none
 | m+1,v0,v1,v2=>Zdn x0 x1 x2 x3  (Zjx x0 x1 x2 x3  m) v0 v1 v2
def Zjv (x0:List Int) (x1:Int) (x2:Int) (x3:Int)  (v0:List Int) (v3:Bool):Option (List Int×Bool):=
 if v3=true then (
  some (v0,false))
 else (
  (Q1 x2).bind fun r0=>
  Zjx x0 x1 x2 x3 FU v0 r0 0)
def Zrf (x0:List Int) (x1:Int) (x2:Int) (x3:Int):Option (List Int×Bool):=
 (Yd x0).bind fun r1=>
 (Zon x0 x1 x2).bind fun r2=>
 if (!r2)=true then (
  Zjv x0 x1 x2 x3 r1 true)
 else (
  (Za7 x3 x2).bind fun r3=>
  Zjv x0 x1 x2 x3 r1 (!r3))
def Zdj (x0:List Int) (x1:Int) (x2:Int)  (k:Int→Int→Int→Option (Int×Bool)) (v0:Int) (v1:Int) (v2:Int):Option (Int×Bool):=
 if decide (v2 < v1)=true then (
  (idx x0 (addW x1 v2)).bind fun a0=>
  (nnI (mulW 8 v2)).bind fun n0=>
  k (orW v0 (shlW a0 (mulW 8 v2))) v1 (addW v2 1))
 else (
  some (v0,true))
def Zjd (x0:List Int) (x1:Int) (x2:Int)  : Nat→Int→Int→Int→Option (Int×Bool)
 | 0,_,_,_=>none
 | m+1,v0,v1,v2=>Zdj x0 x1 x2  (Zjd x0 x1 x2  m) v0 v1 v2
def Zrh (x0:List Int) (x1:Int) (x2:Int):Option (Int×Bool):=
 (Zon x0 x1 x2).bind fun r0=>
 if (!r0)=true then (
  some (0,false))
 else (
  (Q1 x2).bind fun r1=>
  Zjd x0 x1 x2 FU 0 r1 0)
def Zaf (x0:GModel) (x1:Bool) (x2:Int) (x3:Int) (x4:Int)  (vb0:GModel) (v0:Int) (v1:Bool):Option (GModel×Int×Int):=
 if (!v1)=true then (
  (Ze0 x0).bind fun r0=>
  some (r0,0,1))
 else (
  some (vb0,v0,0))
def Zh5 (x0:GModel) (x1:Bool) (x2:Int) (x3:Int) (x4:Int)  (vb0:GModel) (v2:Bool):Option (GModel×Int×Int):=
 if v2=true then (
  if x1=true then (
   (Zrf x0.mem x2 x3 x4).bind fun r1=>
   Zaf x0 x1 x2 x3 x4 (GModel.mk r1.1 vb0.dev) x4 r1.2)
  else (
   (Zrh x0.mem x2 x3).bind fun r2=>
   Zaf x0 x1 x2 x3 x4 vb0 r2.1 r2.2))
 else (
  Zaf x0 x1 x2 x3 x4 vb0 x4 false)
def Zhg (x0:GModel) (x1:Bool) (x2:Int) (x3:Int) (x4:Int)  (vb0:GModel) (v3:Int) (v4:Bool):Option (GModel×Int×Int):=
 if v4=true then (
  (Zum x0.dev x1 (subW x2 192) x4).bind fun r3=>
  Zaf x0 x1 x2 x3 x4 (GModel.mk vb0.mem r3.1) r3.2.1 r3.2.2)
 else (
  if decide (v3=1)=true then (
   Zh5 x0 x1 x2 x3 x4 vb0 true)
  else (
   Zh5 x0 x1 x2 x3 x4 vb0 (decide (v3=2))))
def W4 (x0:GModel) (x1:Bool) (x2:Int) (x3:Int) (x4:Int)  (vb0:GModel) (v5:Bool):Option (GModel×Int×Int):=
 if v5=true then (
  some (vb0,0,1))
 else (
  (Zkt x2).bind fun r4=>
  if decide (r4=3)=true then (
   Zhg x0 x1 x2 x3 x4 vb0 r4 (decide (x3=2)))
  else (
   Zhg x0 x1 x2 x3 x4 vb0 r4 false))
def Zp0 (x0:GModel) (x1:Bool) (x2:Int) (x3:Int) (x4:Int):Option (GModel×Int×Int):=
 (Ze0 x0).bind fun r5=>
 (Zdy x0).bind fun r6=>
 if (!r6)=true then (
  W4 x0 x1 x2 x3 x4 r5 true)
 else (
  (Zd4 x2 x3).bind fun r7=>
  if (!r7)=true then (
   W4 x0 x1 x2 x3 x4 r5 true)
  else (
   if x1=true then (
    (Za7 x4 x3).bind fun r8=>
    W4 x0 x1 x2 x3 x4 r5 (!r8))
   else (
    W4 x0 x1 x2 x3 x4 r5 false)))
def Zoa (x0:GBus) (x1:GBeat):Option (GModel×Int×Int):=
 (idx x0.m x1.who).bind fun a0=>
 (idx a0.queue 0).bind fun a1=>
 (Za8 a0 x1.beat).bind fun r0=>
 (Zjj a0 x1.beat).bind fun r1=>
 (Zp0 x0.model a1.write r0 a1.size r1).bind fun r2=>
 some (r2.1,r2.2.1,r2.2.2)
def Zjh (x0:GMst)  (vb0:GMst) (v0:Bool):Option (GMst×Bool):=
 if v0=true then (
  some (vb0,false))
 else (
  (Jb {vb0 with done:=(addW vb0.done 1)}).bind fun r0=>
  if decide ((addW vb0.done 1)=r0)=true then (
   (Q2 vb0.queue 1 (vb0.queue.length:Int)).bind fun s0=>
   some ((GMst.mk s0 0 0 0 false false),true))
  else (
   some ((GMst.mk vb0.queue vb0.beat (addW vb0.done 1) 0 false vb0.broken),true)))
def Zrl (x0:GMst):Option (GMst×Bool):=
 (Zcv x0).bind fun r1=>
 (Wt x0).bind fun r2=>
 if (!r2)=true then (
  Zjh x0 r1 true)
 else (
  Zjh x0 r1 (decide (x0.beat=x0.done)))
def Zie (x0:GBus):Option GBus:=
 some {x0 with holder:=(-1),held:=0}
def Za0 (x0:GBus) (x1:GBeat)  (vb0:GBus) (vb1:GMst):Option GBus:=
 (idx vb0.m x1.who).bind fun a0=>
 (setO vb0.m x1.who vb1).bind fun y0=>
 some {vb0 with m:=y0}
def Zav (x0:GBus) (x1:GBeat)  (vb0:GBus) (vb1:GMst) (v0:Bool):Option GBus:=
 if v0=true then (
  (Zie vb0).bind fun r0=>
  Za0 x0 x1 r0 vb1)
 else (
  Za0 x0 x1 vb0 vb1)
def K4 (x0:GBus) (x1:GBeat)  (vb0:GBus) (vb1:GMst) (vb2:GDone):Option GBus:=
 (appI 56 vb0.log [vb2]).bind fun z0=>
 (Zrl vb1).bind fun r1=>
 if decide (vb0.holder=x1.who)=true then (
  Zav x0 x1 {vb0 with log:=z0} r1.1 (decide ((r1.1.queue.length:Int) < (vb1.queue.length:Int))))
 else (
  Zav x0 x1 {vb0 with log:=z0} r1.1 false)
def Zfa (x0:GBus) (x1:GBeat):Option GBus:=
 (idx x0.m x1.who).bind fun a1=>
 (idx a1.queue 0).bind fun a2=>
 (Za8 a1 x1.beat).bind fun r2=>
 if decide (x1.resp=0)=true then (
  (Zoa x0 x1).bind fun r3=>
  K4 x0 x1 {x0 with model:=r3.1} a1 (GDone.mk x0.now x1.who a2.write r2 a2.size r3.2.1 x1.resp))
 else (
  K4 x0 x1 x0 a1 (GDone.mk x0.now x1.who a2.write r2 a2.size 0 x1.resp))
def Zdq (x0:GBus) (x1:GScript) (x2:GWave)  (vb0:GBus):Option (Bool×GBus×GWave):=
 some (false,vb0,{x2 with resp:=x0.data_.resp})
def Kp (x0:GBus) (x1:GScript) (x2:GWave)  (v0:Bool):Option (Bool×GBus×GWave):=
 if v0=true then (
  if x0.addr.live=true then (
   (Zbh {x0 with data_:={x0.data_ with second:=true}} x0.addr).bind fun r0=>
   Zdq x0 x1 x2 {r0 with addr:=GBeat.z0})
  else (
   Zdq x0 x1 x2 {x0 with data_:={x0.data_ with second:=true}}))
 else (
  if decide (x0.data_.resp=2)=true then (
   (idx x0.m x0.data_.who).bind fun a0=>
   (setO x0.m x0.data_.who {a0 with tries:=(addW a0.tries 1)}).bind fun y0=>
   (Zbh {x0 with m:=y0,data_:=GBeat.z0} x0.data_).bind fun r1=>
   some (true,r1,{x2 with resp:=x0.data_.resp}))
  else (
   if decide (x0.data_.resp=3)=true then (
    (idx x0.m x0.data_.who).bind fun a1=>
    (setO x0.m x0.data_.who {a1 with parted:=true}).bind fun y1=>
    (Zpf x0.conf x1 x0.picks).bind fun r2=>
    (idx x0.splits x0.data_.who).bind fun a2=>
    (setO x0.splits x0.data_.who r2).bind fun y2=>
    (Zbh {x0 with m:=y1,splits:=y2,data_:=GBeat.z0} x0.data_).bind fun r3=>
    some (true,r3,{x2 with resp:=x0.data_.resp}))
   else (
    (Zfa {x0 with data_:=GBeat.z0} x0.data_).bind fun r4=>
    some (true,r4,{x2 with resp:=x0.data_.resp}))))
def Zjg (x0:GBus) (x1:GScript) (x2:GWave):Option (Bool×GBus×GWave):=
 if (!x0.data_.live)=true then (
  some (true,x0,x2))
 else (
  if decide (x0.data_.left > 0)=true then (
   some (false,{x0 with data_:={x0.data_ with left:=(subW x0.data_.left 1)}},x2))
  else (
   if decide (x0.data_.resp≠0)=true then (
    Kp x0 x1 x2 (!x0.data_.second))
   else (
    Kp x0 x1 x2 false)))
def Zrg (x0:GConf) (x1:GScript) (x2:Int):Option Int:=
 (Zg1 x1.waits x2).bind fun r0=>
 some (maxI 0 (minI r0 x0.maxWait))
def Zr5 (x0:GScript) (x1:Int):Option Int:=
 (Zg1 x0.says x1).bind fun r0=>
 if decide (r0=2)=true then (
  some r0)
 else (
  if decide (r0=3)=true then (
   some r0)
  else (
   some 0))
def Wo (x0:GBus) (x1:GScript) (x2:GBeat)  (vb0:GMst) (v0:Int) (v1:Int) (v2:Int) (v3:Int) (v4:Bool):Option (Int×Int):=
 if v4=true then (
  some (2,v2))
 else (
  if decide (v3=3)=true then (
   if decide (v0=2)=true then (
    if (!vb0.parted)=true then (
     if decide (x2.who≠x0.holder)=true then (
      some (3,v2))
     else (
      some (v1,v2)))
    else (
     some (v1,v2)))
   else (
    some (v1,v2)))
  else (
   some (v1,v2)))
def Zac (x0:GBus) (x1:GScript) (x2:GBeat)  (vb1:GMst) (v0:Int) (v1:Int) (v2:Int):Option (Int×Int):=
 (Zr5 x1 x0.picks).bind fun r0=>
 if decide (r0=2)=true then (
  if decide (v0≠3)=true then (
   Wo x0 x1 x2 vb1 v0 v1 v2 r0 (decide (vb1.tries < x0.conf.maxRetry)))
  else (
   Wo x0 x1 x2 vb1 v0 v1 v2 r0 false))
 else (
  Wo x0 x1 x2 vb1 v0 v1 v2 r0 false)
def Qc (x0:GBus) (x1:GScript) (x2:GBeat)  (vb1:GMst) (v0:Int) (v5:Bool):Option (Int×Int):=
 if v5=true then (
  some (1,0))
 else (
  (Zoa x0 x2).bind fun r1=>
  (Zrg x0.conf x1 x0.picks).bind fun r2=>
  if decide (v0=3)=true then (
   Zac x0 x1 x2 vb1 v0 r1.2.2 (addW r2 2))
  else (
   Zac x0 x1 x2 vb1 v0 r1.2.2 r2))
def Zjl (x0:GBus) (x1:GScript) (x2:GBeat):Option (Int×Int):=
 (idx x0.m x2.who).bind fun a0=>
 (Za8 a0 x2.beat).bind fun r3=>
 (Zkt r3).bind fun r4=>
 if a0.broken=true then (
  Qc x0 x1 x2 a0 r4 true)
 else (
  Qc x0 x1 x2 a0 r4 (decide (r4=0)))
def Zil (x0:GMst):Option Bool:=
 (Wt x0).bind fun r0=>
 if r0=true then (
  (Jb x0).bind fun r1=>
  some (decide (x0.beat < r1)))
 else (
  some false)
def Zc0 (x0:GBucket) (x1:GMConf)  (v0:Bool):Option (GBucket×Bool):=
 if v0=true then (
  some (x0,false))
 else (
  some ((GBucket.mk (subW x0.tokens 1) x0.count),true))
def Zkg (x0:GBucket) (x1:GMConf):Option (GBucket×Bool):=
 (Zjp x0 x1).bind fun r0=>
 if (!r0)=true then (
  Zc0 x0 x1 true)
 else (
  Zc0 x0 x1 (decide (x0.tokens=0)))
def Zlw (x0:GWrr) (x1:GConf) (x2:List Bool)  (k:Int→Option (GWrr×Int)) (v0:Int):Option (GWrr×Int):=
 if decide (v0≤(x1.masters.length:Int))=true then (
  (nzI (x1.masters.length:Int)).bind fun n0=>
  (idx x2 (remW (addW x0.at_ v0) (x1.masters.length:Int))).bind fun a0=>
  if a0=true then (
   (Zke x1 (remW (addW x0.at_ v0) (x1.masters.length:Int))).bind fun r0=>
   some ((GWrr.mk (remW (addW x0.at_ v0) (x1.masters.length:Int)) (subW r0 1)),(remW (addW x0.at_ v0) (x1.masters.length:Int))))
  else (
   k (addW v0 1)))
 else (
  some ((GWrr.mk x0.at_ 0),(-1)))
def Zhq (x0:GWrr) (x1:GConf) (x2:List Bool)  : Nat→Int→Option (GWrr×Int)
 | 0,_=>none
 | m+1,v0=>Zlw x0 x1 x2  (Zhq x0 x1 x2  m) v0
def Zhz (x0:GWrr) (x1:GConf) (x2:List Bool)  (v1:Bool):Option (GWrr×Int):=
 if v1=true then (
  some ((GWrr.mk x0.at_ (subW x0.credit 1)),x0.at_))
 else (
  Zhq x0 x1 x2 FU 1)
def Zh7 (x0:GWrr) (x1:GConf) (x2:List Bool)  (v2:Bool):Option (GWrr×Int):=
 if v2=true then (
  some (x0,(-1)))
 else (
  if decide (x0.credit > 0)=true then (
   (idx x2 x0.at_).bind fun a1=>
   Zhz x0 x1 x2 a1)
  else (
   Zhz x0 x1 x2 false))
def Zo8 (x0:GWrr) (x1:GConf) (x2:List Bool):Option (GWrr×Int):=
 (Zjc x0 x1).bind fun r1=>
 if (!r1)=true then (
  Zh7 x0 x1 x2 true)
 else (
  Zh7 x0 x1 x2 (decide ((x2.length:Int)≠(x1.masters.length:Int))))
def Zan (x0:GBus)  (k:(List Bool)→Int→Int→Option (Int×Int×GBus)) (v0:List Bool) (v1:Int) (v2:Int):Option (Int×Int×GBus):=
 if decide (v2 < v1)=true then (
  (idx v0 v2).bind fun a0=>
  if (!a0)=true then (
   k v0 v1 (addW v2 1))
  else (
   (idx x0.buckets v2).bind fun a1=>
   (idx x0.conf.masters v2).bind fun a2=>
   (Zkg a1 a2).bind fun r0=>
   if r0.2=true then (
    (setO x0.buckets v2 r0.1).bind fun y0=>
    some (v2,1,{x0 with buckets:=y0}))
   else (
    k v0 v1 (addW v2 1))))
 else (
  if decide (x0.holder≠(-1))=true then (
   some ((-1),0,x0))
  else (
   (Zo8 x0.arb x0.conf v0).bind fun r1=>
   some (r1.2,2,{x0 with arb:=r1.1})))
def Zb6 (x0:GBus)  : Nat→(List Bool)→Int→Int→Option (Int×Int×GBus)
 | 0,_,_,_=>none
 | m+1,v0,v1,v2=>Zan x0  (Zb6 x0  m) v0 v1 v2
def Zfr (x0:GBus)  (v0:List Bool) (v3:Bool):Option (Int×Int×GBus):=
 if v3=true then (
  some (x0.holder,3,x0))
 else (
  Zb6 x0 FU v0 (v0.length:Int) 0)
def Zd8 (x0:GBus)  (k:(List Bool)→Int→Option (Int×Int×GBus)) (v0:List Bool) (v4:Int):Option (Int×Int×GBus):=
 if decide (v4 < (x0.m.length:Int))=true then (
  (idx x0.m v4).bind fun a3=>
  (Zil a3).bind fun r2=>
  if r2=true then (
   (idx x0.splits v4).bind fun a4=>
   if decide (a4=0)=true then (
    if decide (x0.holder=(-1))=true then (
     (appI 1 v0 [true]).bind fun z0=>
     k z0 (addW v4 1))
    else (
     (appI 1 v0 [decide (x0.holder=v4)]).bind fun z0=>
     k z0 (addW v4 1)))
   else (
    (appI 1 v0 [false]).bind fun z0=>
    k z0 (addW v4 1)))
  else (
   (appI 1 v0 [false]).bind fun z0=>
   k z0 (addW v4 1)))
 else (
  if decide (x0.holder≠(-1))=true then (
   (idx v0 x0.holder).bind fun a5=>
   Zfr x0 v0 a5)
  else (
   Zfr x0 v0 false))
def Zfu (x0:GBus)  : Nat→(List Bool)→Int→Option (Int×Int×GBus)
 | 0,_,_=>none
 | m+1,v0,v4=>Zd8 x0  (Zfu x0  m) v0 v4
def Znx (x0:GBus):Option (Int×Int×GBus):=
 Zfu x0 FU [] 0
def Zfs (x0:GMst)  (vb0:GMst) (v0:Bool):Option (GMst×Bool):=
 if v0=true then (
  some (vb0,false))
 else (
  some ({vb0 with beat:=(addW vb0.beat 1)},true))
def Znf (x0:GMst):Option (GMst×Bool):=
 (Zcv x0).bind fun r0=>
 (Zil x0).bind fun r1=>
 if (!r1)=true then (
  Zfs x0 r0 true)
 else (
  Zfs x0 r0 (decide (x0.beat=(addW x0.done 2))))
def Zec (x0:GBus)  (vb0:GBus) (vb1:GMst) (v0:Int):Option (Int×GBus):=
 (Znf vb1).bind fun r0=>
 (idx vb0.m v0).bind fun a0=>
 (setO vb0.m v0 r0.1).bind fun y0=>
 some (v0,{vb0 with m:=y0,last:=v0})
def Zeb (x0:GBus)  (vb0:GBus) (vb1:GMst) (v0:Int) (v1:Bool):Option (Int×GBus):=
 if v1=true then (
  Zec x0 {vb0 with holder:=v0,held:=0} vb1 v0)
 else (
  Zec x0 vb0 vb1 v0)
def Qr (x0:GBus)  (vb0:GBus) (vb1:GMst) (v0:Int):Option (Int×GBus):=
 (Zl8 vb1).bind fun r1=>
 if r1=true then (
  Zeb x0 vb0 vb1 v0 (decide (vb0.holder=(-1))))
 else (
  Zeb x0 vb0 vb1 v0 false)
def Zld (x0:GBus):Option (Int×GBus):=
 (Znx x0).bind fun r2=>
 if decide (r2.1 < 0)=true then (
  some ((-1),r2.2.2))
 else (
  (idx r2.2.2.m r2.1).bind fun a1=>
  if decide (a1.beat=0)=true then (
   Qr x0 {r2.2.2 with addr:=(GBeat.mk true r2.1 a1.beat true r2.2.1 0 0 false)} a1 r2.1)
  else (
   Qr x0 {r2.2.2 with addr:=(GBeat.mk true r2.1 a1.beat (decide (r2.2.2.last≠r2.1)) r2.2.1 0 0 false)} a1 r2.1))
def Zbk (x0:GBus) (x1:GScript)  (vb0:GBus) (vb1:GWave):Option (GWave×GBus):=
 some (vb1,{vb0 with now:=(addW vb0.now 1)})
def Zbq (x0:GBus) (x1:GScript)  (vb0:GBus) (vb1:GWave):Option (GWave×GBus):=
 (Zld vb0).bind fun r0=>
 Zbk x0 x1 r0.2 {vb1 with got:=r0.1}
def Jp (x0:GBus) (x1:GScript)  (vb0:GBus) (vb2:GWave):Option (GWave×GBus):=
 if vb0.addr.live=true then (
  (Zjl vb0 x1 vb0.addr).bind fun r1=>
  Zbq x0 x1 {vb0 with addr:=GBeat.z0,data_:={vb0.addr with left:=r1.2,resp:=r1.1},picks:=(addW vb0.picks 1)} vb2)
 else (
  Zbq x0 x1 vb0 vb2)
def Qg (x0:GBus) (x1:GScript)  (vb0:GBus) (vb2:GWave) (v0:Bool):Option (GWave×GBus):=
 if v0=true then (
  (idx vb0.m vb0.holder).bind fun a0=>
  (setO vb0.m vb0.holder {a0 with broken:=true}).bind fun y0=>
  (Zie {vb0 with m:=y0}).bind fun r2=>
  Jp x0 x1 r2 vb2)
 else (
  Jp x0 x1 vb0 vb2)
def Qh (x0:GBus) (x1:GScript)  (vb0:GBus) (vb2:GWave):Option (GWave×GBus):=
 (Zjg vb0 x1 vb2).bind fun r3=>
 if r3.1=true then (
  if decide (r3.2.1.holder≠(-1))=true then (
   Qg x0 x1 r3.2.1 {r3.2.2 with ready:=r3.1} (decide (r3.2.1.held=r3.2.1.conf.lockMost)))
  else (
   Qg x0 x1 r3.2.1 {r3.2.2 with ready:=r3.1} false))
 else (
  Zbk x0 x1 r3.2.1 {r3.2.2 with ready:=r3.1})
def Zea (x0:GBus) (x1:GScript)  (k:GBus→GWave→Int→Int→Option (GWave×GBus)) (vb0:GBus) (vb2:GWave) (v1:Int) (v2:Int):Option (GWave×GBus):=
 if decide (v2 < v1)=true then (
  (idx vb0.splits v2).bind fun a1=>
  (setO vb0.splits v2 (maxI (subW a1 1) 0)).bind fun y1=>
  (idx vb0.buckets v2).bind fun a2=>
  (idx vb0.conf.masters v2).bind fun a3=>
  (Zjf a2 a3).bind fun r4=>
  (setO vb0.buckets v2 r4).bind fun y2=>
  k {vb0 with buckets:=y2,splits:=y1} vb2 v1 (addW v2 1))
 else (
  if decide (vb0.holder≠(-1))=true then (
   Qh x0 x1 {vb0 with held:=(minI (addW vb0.held 1) vb0.conf.lockMost)} vb2)
  else (
   Qh x0 x1 vb0 vb2))
def Kf (x0:GBus) (x1:GScript)  : Nat→GBus→GWave→Int→Int→Option (GWave×GBus)
 | 0,_,_,_,_=>none
 | m+1,vb0,vb2,v1,v2=>Zea x0 x1  (Kf x0 x1  m) vb0 vb2 v1 v2
def Zd7 (x0:GBus) (x1:GScript)  (k:GBus→GWave→(List GPost)→Int→Int→Option (GWave×GBus)) (vb0:GBus) (vb2:GWave) (v3:List GPost) (v4:Int) (v5:Int):Option (GWave×GBus):=
 if decide (v5 < v4)=true then (
  (idx v3 v5).bind fun a4=>
  (W9 vb0.conf a4.who).bind fun r5=>
  if r5=true then (
   (idx vb0.m a4.who).bind fun a5=>
   (Zpl a5 a4.req).bind fun r6=>
   (setO vb0.m a4.who r6.1).bind fun y3=>
   k {vb0 with m:=y3} vb2 v3 v4 (addW v5 1))
  else (
   k vb0 vb2 v3 v4 (addW v5 1)))
 else (
  Kf x0 x1 FU vb0 vb2 (vb0.splits.length:Int) 0)
def Zbt (x0:GBus) (x1:GScript)  : Nat→GBus→GWave→(List GPost)→Int→Int→Option (GWave×GBus)
 | 0,_,_,_,_,_=>none
 | m+1,vb0,vb2,v3,v4,v5=>Zd7 x0 x1  (Zbt x0 x1  m) vb0 vb2 v3 v4 v5
def Zb0 (x0:GBus) (x1:GScript)  (vb2:GWave):Option (GWave×GBus):=
 (Zpw x1 x0.now).bind fun r7=>
 Zbt x0 x1 FU x0 vb2 r7 (r7.length:Int) 0
def Zbu (x0:GBus) (x1:GScript)  (vb2:GWave):Option (GWave×GBus):=
 if x0.data_.live=true then (
  (idx x0.m x0.data_.who).bind fun a6=>
  (Za8 a6 x0.data_.beat).bind fun r8=>
  Zb0 x0 x1 {vb2 with data_:=r8,from_:=x0.data_.who})
 else (
  Zb0 x0 x1 vb2)
def Zeo (x0:GBus) (x1:GScript):Option (GWave×GBus):=
 if x0.addr.live=true then (
  (idx x0.m x0.addr.who).bind fun a7=>
  (Za8 a7 x0.addr.beat).bind fun r9=>
  if x0.addr.first=true then (
   Zbu x0 x1 (GWave.mk x0.now r9 2 x0.addr.who (-1) (-1) true 0 (-1)))
  else (
   Zbu x0 x1 (GWave.mk x0.now r9 3 x0.addr.who (-1) (-1) true 0 (-1))))
 else (
  Zbu x0 x1 (GWave.mk x0.now (-1) 0 (-1) (-1) (-1) true 0 (-1)))
def Zel (x0:GBus) (x1:GScript)  (vb0:GBus):Option (GBus×Int):=
 (Znt vb0).bind fun r0=>
 some (r0,(subW vb0.now x0.now))
def Zdt (x0:GBus) (x1:GScript)  (k:GBus→Int→Option (GBus×Int)) (vb1:GBus) (v0:Int):Option (GBus×Int):=
 if decide (vb1.now < 4000)=true then (
  (Zji vb1).bind fun r1=>
  if (!r1)=true then (
   (Zeo vb1 x1).bind fun r2=>
   k r2.2 v0)
  else (
   if decide (vb1.now≤v0)=true then (
    (Zeo vb1 x1).bind fun r2=>
    k r2.2 v0)
   else (
    Zel x0 x1 vb1)))
 else (
  Zel x0 x1 vb1)
def Jt (x0:GBus) (x1:GScript)  : Nat→GBus→Int→Option (GBus×Int)
 | 0,_,_=>none
 | m+1,vb1,v0=>Zdt x0 x1  (Jt x0 x1  m) vb1 v0
def Zmv (x0:GBus) (x1:GScript):Option (GBus×Int):=
 (Znt x0).bind fun r3=>
 (Zmi x0).bind fun r4=>
 if (!r4)=true then (
  some (r3,0))
 else (
  (Zmm x1).bind fun r5=>
  Jt x0 x1 FU r3 r5)
def Zlt (x0:GConf) (x1:List GReq)  (k:GBus→GScript→Int→Option (List GDone×Bool)) (vb0:GBus) (vb1:GScript) (v0:Int):Option (List GDone×Bool):=
 if decide (v0 < (x1.length:Int))=true then (
  (idx x1 v0).bind fun a0=>
  (appI 80 vb1.posts [(GPost.mk 0 0 a0)]).bind fun z0=>
  k vb0 {vb1 with posts:=z0} (addW v0 1))
 else (
  (Zmv vb0 vb1).bind fun r0=>
  some (r0.1.log,true))
def Zob (x0:GConf) (x1:List GReq)  : Nat→GBus→GScript→Int→Option (List GDone×Bool)
 | 0,_,_,_=>none
 | m+1,vb0,vb1,v0=>Zlt x0 x1  (Zob x0 x1  m) vb0 vb1 v0
def Ziw (x0:GConf) (x1:List GReq)  (vb0:GBus) (v1:Bool):Option (List GDone×Bool):=
 if v1=true then (
  some ([],false))
 else (
  Zob x0 x1 FU vb0 GScript.z0 0)
def Zsm (x0:GConf) (x1:List GReq):Option (List GDone×Bool):=
 (Zr4 x0).bind fun r1=>
 if (!r1.2)=true then (
  Ziw x0 x1 r1.1 true)
 else (
  if decide ((x1.length:Int) > 4)=true then (
   Ziw x0 x1 r1.1 true)
  else (
   (Wz x1).bind fun r2=>
   Ziw x0 x1 r1.1 r2))
def Zm5 (x0:GConf):Option Bool:=
 (Zj x0.quantum 1 4).bind fun r0=>
 if r0=true then (
  (Zgg x0).bind fun r1=>
  if decide (r1 > 0)=true then (
   (Zj x0.maxSplit 1 12).bind fun r2=>
   if r2=true then (
    (Zj x0.lockMost 1 40).bind fun r3=>
    some r3)
   else (
    some false))
  else (
   some false))
 else (
  some false)
def Zmy (x0:GConf)  (k:Int→Int→Option Bool) (v0:Int) (v1:Int):Option Bool:=
 if decide (v1 < (x0.masters.length:Int))=true then (
  (idx x0.masters v1).bind fun a0=>
  (Zj a0.weight 1 4).bind fun r0=>
  if (!r0)=true then (
   some false)
  else (
   if (!a0.prio)=true then (
    if decide (a0.every≠0)=true then (
     some false)
    else (
     if decide (a0.cap≠0)=true then (
      some false)
     else (
      if a0.prio=true then (
       (Zat x0).bind fun r1=>
       (Zj a0.every (mulW (mulW 2 v0) r1) 1000).bind fun r2=>
       if (!r2)=true then (
        some false)
       else (
        (Zj a0.cap 1 8).bind fun r3=>
        if (!r3)=true then (
         some false)
        else (
         k v0 (addW v1 1))))
      else (
       k v0 (addW v1 1)))))
   else (
    if a0.prio=true then (
     (Zat x0).bind fun r1=>
     (Zj a0.every (mulW (mulW 2 v0) r1) 1000).bind fun r2=>
     if (!r2)=true then (
      some false)
     else (
      (Zj a0.cap 1 8).bind fun r3=>
      if (!r3)=true then (
       some false)
      else (
       k v0 (addW v1 1))))
    else (
     k v0 (addW v1 1)))))
 else (
  (Zj (x0.masters.length:Int) 1 4).bind fun r4=>
  if r4=true then (
   (Zm5 x0).bind fun r5=>
   some r5)
  else (
   some false))
def Ko (x0:GConf)  : Nat→Int→Int→Option Bool
 | 0,_,_=>none
 | m+1,v0,v1=>Zmy x0  (Ko x0  m) v0 v1
def Zn1 (x0:GConf)  (k:Int→Int→Option Bool) (v0:Int) (v2:Int):Option Bool:=
 if decide (v2 < (x0.masters.length:Int))=true then (
  (idx x0.masters v2).bind fun a1=>
  if a1.prio=true then (
   k (addW v0 1) (addW v2 1))
  else (
   k v0 (addW v2 1)))
 else (
  Ko x0 FU v0 0)
def Zj3 (x0:GConf)  : Nat→Int→Int→Option Bool
 | 0,_,_=>none
 | m+1,v0,v2=>Zn1 x0  (Zj3 x0  m) v0 v2
def Zaw (x0:GConf):Option Bool:=
 Zj3 x0 FU 0 0
def Zoq (x0:GReq)  (k:Int→Option Bool) (v0:Int):Option Bool:=
 if decide (v0 < (x0.data_.length:Int))=true then (
  (idx x0.data_ v0).bind fun a0=>
  (Xh x0.size).bind fun r0=>
  (Zj a0 0 (subW r0 1)).bind fun r1=>
  if (!r1)=true then (
   some false)
  else (
   k (addW v0 1)))
 else (
  if decide ((x0.data_.length:Int)=0)=true then (
   if (!x0.write)=true then (
    some true)
   else (
    (Q0 x0.burst).bind fun r2=>
    if decide ((x0.data_.length:Int)=r2)=true then (
     some x0.write)
    else (
     some false)))
  else (
   (Q0 x0.burst).bind fun r2=>
   if decide ((x0.data_.length:Int)=r2)=true then (
    some x0.write)
   else (
    some false)))
def Zlf (x0:GReq)  : Nat→Int→Option Bool
 | 0,_=>none
 | m+1,v0=>Zoq x0  (Zlf x0  m) v0
def Zma (x0:GReq):Option Bool:=
 (Zku x0.addr x0.size x0.burst).bind fun r3=>
 if (!r3)=true then (
  some false)
 else (
  Zlf x0 FU 0)
def Zmx (x0:GConf):Option GConf:=
 (appI 32 [] x0.masters).bind fun z0=>
 some {x0 with masters:=z0}
def Zys  : Option GDev:=
 (mkI 8 4 0).bind fun m0=>
 some (GDev.mk m0 0 [])
def Znc  : Option GModel:=
 (mkI 8 192 0).bind fun m0=>
 (Zys).bind fun r0=>
 some (GModel.mk m0 r0)
def Zli (x0:GMConf):Option GBucket:=
 if (!x0.prio)=true then (
  some GBucket.z0)
 else (
  some (GBucket.mk (maxI 0 x0.cap) 0))
def Zhc (x0:GConf)  (k:GBus→Int→Option (GBus×Bool)) (vb0:GBus) (v0:Int):Option (GBus×Bool):=
 if decide (v0 < (x0.masters.length:Int))=true then (
  (appI 56 vb0.m [GMst.z0]).bind fun z0=>
  (idx x0.masters v0).bind fun a0=>
  (Zli a0).bind fun r0=>
  (appI 16 vb0.buckets [r0]).bind fun z1=>
  (appI 8 vb0.splits [0]).bind fun z2=>
  k {vb0 with m:=z0,buckets:=z1,splits:=z2} (addW v0 1))
 else (
  some (vb0,true))
def Zju (x0:GConf)  : Nat→GBus→Int→Option (GBus×Bool)
 | 0,_,_=>none
 | m+1,vb0,v0=>Zhc x0  (Zju x0  m) vb0 v0
def Znw (x0:GConf):Option (GBus×Bool):=
 (Zaw x0).bind fun r1=>
 if (!r1)=true then (
  some (GBus.z0,false))
 else (
  (Zmx x0).bind fun r2=>
  (Znc).bind fun r3=>
  Zju x0 FU (GBus.mk r2 0 [] GWrr.z0 [] [] (-1) 0 (-1) GBeat.z0 GBeat.z0 r3 0 []) 0)
def Zfm (x0:GReq):Option GReq:=
 (appI 8 [] x0.data_).bind fun z0=>
 some {x0 with data_:=z0}
def Z3w (x0:GMst)  (k:(List GReq)→Int→Option GMst) (v0:List GReq) (v1:Int):Option GMst:=
 if decide (v1 < (x0.queue.length:Int))=true then (
  (idx x0.queue v1).bind fun a0=>
  (Zfm a0).bind fun r0=>
  (appI 64 v0 [r0]).bind fun z0=>
  k z0 (addW v1 1))
 else (
  some {x0 with queue:=v0})
def Zg7 (x0:GMst)  : Nat→(List GReq)→Int→Option GMst
 | 0,_,_=>none
 | m+1,v0,v1=>Z3w x0  (Zg7 x0  m) v0 v1
def Za9 (x0:GMst):Option GMst:=
 Zg7 x0 FU [] 0
def Zn2 (x0:GDev):Option GDev:=
 (appI 8 [] x0.regs).bind fun z0=>
 (appI 8 [] x0.fifo).bind fun z1=>
 some (GDev.mk z0 x0.timer z1)
def Zm3 (x0:GModel):Option GModel:=
 (appI 8 [] x0.mem).bind fun z0=>
 (Zn2 x0.dev).bind fun r0=>
 some (GModel.mk z0 r0)
def Zfz (x0:GBus)  (k:GBus→Int→Option GBus) (vb0:GBus) (v0:Int):Option GBus:=
 if decide (v0 < (x0.m.length:Int))=true then (
  (idx x0.m v0).bind fun a0=>
  (Za9 a0).bind fun r0=>
  (appI 56 vb0.m [r0]).bind fun z0=>
  k {vb0 with m:=z0} (addW v0 1))
 else (
  (appI 16 [] x0.buckets).bind fun z1=>
  (appI 8 [] x0.splits).bind fun z2=>
  (Zm3 x0.model).bind fun r1=>
  (appI 56 [] x0.log).bind fun z3=>
  some {vb0 with buckets:=z1,splits:=z2,model:=r1,log:=z3})
def Zdl (x0:GBus)  : Nat→GBus→Int→Option GBus
 | 0,_,_=>none
 | m+1,vb0,v0=>Zfz x0  (Zdl x0  m) vb0 v0
def Zk6 (x0:GBus):Option GBus:=
 (Zmx x0.conf).bind fun r2=>
 Zdl x0 FU {x0 with conf:=r2,m:=[]} 0
def Zj1 (x0:GConf) (x1:Int)  (v0:Bool):Option Int:=
 if v0=true then (
  some 0)
 else (
  (idx x0.masters x1).bind fun a0=>
  some (mulW a0.weight x0.quantum))
def Zf2 (x0:GConf) (x1:Int):Option Int:=
 (Zaw x0).bind fun r0=>
 if (!r0)=true then (
  Zj1 x0 x1 true)
 else (
  (Zj x1 0 (subW (x0.masters.length:Int) 1)).bind fun r1=>
  Zj1 x0 x1 (!r1))
def Zmf (x0:GWrr) (x1:GConf):Option Bool:=
 (Zaw x1).bind fun r0=>
 if r0=true then (
  (Zj x0.at_ 0 (subW (x1.masters.length:Int) 1)).bind fun r1=>
  if r1=true then (
   (Zf2 x1 x0.at_).bind fun r2=>
   (Zj x0.credit 0 r2).bind fun r3=>
   some r3)
  else (
   some false))
 else (
  some false)
def Zl4 (x0:List Int)  (k:Int→Option Bool) (v0:Int):Option Bool:=
 if decide (v0 < (x0.length:Int))=true then (
  (idx x0 v0).bind fun a0=>
  (Zj a0 0 255).bind fun r0=>
  if (!r0)=true then (
   some false)
  else (
   k (addW v0 1)))
 else (
  some (decide ((x0.length:Int)≤512)))
def Zia (x0:List Int)  : Nat→Int→Option Bool
 | 0,_=>none
 | m+1,v0=>Zl4 x0  (Zia x0  m) v0
def Zkq (x0:List Int):Option Bool:=
 Zia x0 FU 0
def Zlz (x0:List Int)  (k:Int→Option Bool) (v0:Int):Option Bool:=
 if decide (v0 < (x0.length:Int))=true then (
  (idx x0 v0).bind fun a0=>
  (Xh 2).bind fun r0=>
  (Zj a0 0 (subW r0 1)).bind fun r1=>
  if (!r1)=true then (
   some false)
  else (
   k (addW v0 1)))
 else (
  some true)
def Zhj (x0:List Int)  : Nat→Int→Option Bool
 | 0,_=>none
 | m+1,v0=>Zlz x0  (Zhj x0  m) v0
def Zkp (x0:List Int):Option Bool:=
 Zhj x0 FU 0
def Zp3 (x0:GDev):Option Bool:=
 if decide ((x0.regs.length:Int)=4)=true then (
  (Zkp x0.regs).bind fun r0=>
  if r0=true then (
   (Xh 2).bind fun r1=>
   (Zj x0.timer 0 (subW r1 1)).bind fun r2=>
   if r2=true then (
    if decide ((x0.fifo.length:Int)≤4)=true then (
     (Zkp x0.fifo).bind fun r3=>
     some r3)
    else (
     some false))
   else (
    some false))
  else (
   some false))
 else (
  some false)
def Zk0 (x0:GModel):Option Bool:=
 if decide ((x0.mem.length:Int)=192)=true then (
  (Zkq x0.mem).bind fun r0=>
  if r0=true then (
   (Zp3 x0.dev).bind fun r1=>
   some r1)
  else (
   some false))
 else (
  some false)
def J9 (x0:GMst):Option Int:=
 if decide ((x0.queue.length:Int)=0)=true then (
  some 0)
 else (
  (idx x0.queue 0).bind fun a0=>
  (Q0 a0.burst).bind fun r0=>
  some r0)
def Ke (x0:GMst)  (v0:Bool):Option Bool:=
 if v0=true then (
  some false)
 else (
  if decide ((x0.queue.length:Int)=0)=true then (
   if decide (x0.beat=0)=true then (
    if decide (x0.done=0)=true then (
     if decide (x0.tries=0)=true then (
      if (!x0.parted)=true then (
       some (!x0.broken))
      else (
       some false))
     else (
      some false))
    else (
     some false))
   else (
    some false))
  else (
   (J9 x0).bind fun r0=>
   (Zj x0.done 0 (subW r0 1)).bind fun r1=>
   if r1=true then (
    (J9 x0).bind fun r2=>
    (Zj x0.beat x0.done (minI (addW x0.done 2) r2)).bind fun r3=>
    some r3)
   else (
    some false)))
def Zkm (x0:GMst)  (k:Int→Option Bool) (v1:Int):Option Bool:=
 if decide (v1 < (x0.queue.length:Int))=true then (
  (idx x0.queue v1).bind fun a0=>
  (Zma a0).bind fun r4=>
  if (!r4)=true then (
   some false)
  else (
   k (addW v1 1)))
 else (
  if decide ((x0.queue.length:Int) > 4)=true then (
   Ke x0 true)
  else (
   Ke x0 (decide (x0.tries < 0))))
def Zgf (x0:GMst)  : Nat→Int→Option Bool
 | 0,_=>none
 | m+1,v1=>Zkm x0  (Zgf x0  m) v1
def Kz (x0:GMst):Option Bool:=
 Zgf x0 FU 0
def Z0u (x0:GMst) (x1:GConf):Option Bool:=
 (Zaw x1).bind fun r0=>
 if r0=true then (
  (Kz x0).bind fun r1=>
  if r1=true then (
   some (decide (x0.tries≤x1.maxRetry)))
  else (
   some false))
 else (
  some false)
def Zb1 (x0:GBucket) (x1:GMConf):Option Bool:=
 if (!x1.prio)=true then (
  some (decide (x0.tokens=0)&&(decide (x0.count=0)&&true)))
 else (
  (Zj x0.tokens 0 x1.cap).bind fun r0=>
  if r0=true then (
   (Zj x0.count 0 (subW x1.every 1)).bind fun r1=>
   some r1)
  else (
   some false))
def Zhu (x0:GBus) (x1:Int)  (v0:Int):Option Int:=
 if x0.data_.live=true then (
  if decide (x0.data_.who=x1)=true then (
   some (addW v0 1))
  else (
   some v0))
 else (
  some v0)
def Zhe (x0:GBus) (x1:Int)  (v1:Bool):Option Int:=
 if v1=true then (
  Zhu x0 x1 (addW 0 1))
 else (
  Zhu x0 x1 0)
def Zpx (x0:GBus) (x1:Int):Option Int:=
 if x0.addr.live=true then (
  Zhe x0 x1 (decide (x0.addr.who=x1)))
 else (
  Zhe x0 x1 false)
def Znp (x0:Int):Option ByteArray:=
 (Zj x0 0 3).bind fun r0=>
 if (!r0)=true then (
  some ByteArray.empty)
 else (
  (idx [(strL [111,107,97,121]),(strL [101,114,114,111,114]),(strL [114,101,116,114,121]),(strL [115,112,108,105,116])] x0).bind fun a0=>
  some a0)
def Zu (x0:GBus) (x1:GBeat) (x2:Bool)  (vb0:GMst) (v0:Bool):Option Bool:=
 if v0=true then (
  some false)
 else (
  if decide (x1.beat=vb0.done)=true then (
   (Zj x1.left 0 (addW x0.conf.maxWait 2)).bind fun r0=>
   if r0=true then (
    (Znp x1.resp).bind fun r1=>
    if (!(r1.toList == ByteArray.empty.toList))=true then (
     if (!x1.second)=true then (
      some true)
     else (
      if decide (x1.resp≠0)=true then (
       some (decide (x1.left=0)))
      else (
       some false)))
    else (
     some false))
   else (
    some false))
  else (
   some false))
def Wg (x0:GBus) (x1:GBeat) (x2:Bool)  (v1:Bool):Option Bool:=
 if v1=true then (
  some false)
 else (
  (idx x0.m x1.who).bind fun a0=>
  if (!x2)=true then (
   if decide (x1.beat=(subW a0.beat 1))=true then (
    if decide (x1.left=0)=true then (
     if decide (x1.resp=0)=true then (
      some (!x1.second))
     else (
      some false))
    else (
     some false))
   else (
    some false))
  else (
   if decide (x1.resp=2)=true then (
    if decide (a0.tries≥x0.conf.maxRetry)=true then (
     Zu x0 x1 x2 a0 true)
    else (
     if decide (x1.resp=3)=true then (
      if a0.parted=true then (
       Zu x0 x1 x2 a0 true)
      else (
       if decide (x0.holder=x1.who)=true then (
        Zu x0 x1 x2 a0 true)
       else (
        if x1.second=true then (
         Zu x0 x1 x2 a0 x0.addr.live)
        else (
         Zu x0 x1 x2 a0 false))))
     else (
      if x1.second=true then (
       Zu x0 x1 x2 a0 x0.addr.live)
      else (
       Zu x0 x1 x2 a0 false))))
   else (
    if decide (x1.resp=3)=true then (
     if a0.parted=true then (
      Zu x0 x1 x2 a0 true)
     else (
      if decide (x0.holder=x1.who)=true then (
       Zu x0 x1 x2 a0 true)
      else (
       if x1.second=true then (
        Zu x0 x1 x2 a0 x0.addr.live)
       else (
        Zu x0 x1 x2 a0 false))))
    else (
     if x1.second=true then (
      Zu x0 x1 x2 a0 x0.addr.live)
     else (
      Zu x0 x1 x2 a0 false)))))
def J0 (x0:GBus) (x1:GBeat) (x2:Bool):Option Bool:=
 if (!x1.live)=true then (
  some ((x1.live == false)&&(decide (x1.who=0)&&(decide (x1.beat=0)&&((x1.first == false)&&(decide (x1.by_=0)&&(decide (x1.left=0)&&(decide (x1.resp=0)&&((x1.second == false)&&true)))))))))
 else (
  (Zj x1.who 0 (subW (x0.m.length:Int) 1)).bind fun r2=>
  if (!r2)=true then (
   Wg x0 x1 x2 true)
  else (
   (Zj x1.by_ 1 3).bind fun r3=>
   if (!r3)=true then (
    Wg x0 x1 x2 true)
   else (
    (idx x0.splits x1.who).bind fun a1=>
    Wg x0 x1 x2 (decide (a1 > 0)))))
def K5 (x0:GBus)  (v0:Bool):Option Bool:=
 if v0=true then (
  some false)
 else (
  (idx x0.m x0.holder).bind fun a0=>
  if decide ((a0.queue.length:Int) > 0)=true then (
   (idx a0.queue 0).bind fun a1=>
   if a1.lock=true then (
    if (!a0.broken)=true then (
     (idx x0.splits x0.holder).bind fun a2=>
     some (decide (a2=0)))
    else (
     some false))
   else (
    some false))
  else (
   some false))
def Zfo (x0:GBus)  (k:Int→Option Bool) (v1:Int):Option Bool:=
 if decide (v1 < (x0.m.length:Int))=true then (
  (idx x0.m v1).bind fun a3=>
  if decide (a3.beat > 0)=true then (
   (idx a3.queue 0).bind fun a4=>
   if a4.lock=true then (
    if (!a3.broken)=true then (
     if decide (x0.holder≠v1)=true then (
      some false)
     else (
      k (addW v1 1)))
    else (
     k (addW v1 1)))
   else (
    k (addW v1 1)))
  else (
   k (addW v1 1)))
 else (
  if decide (x0.holder=(-1))=true then (
   some (decide (x0.held=0)))
  else (
   (Zj x0.holder 0 (subW (x0.m.length:Int) 1)).bind fun r0=>
   if (!r0)=true then (
    K5 x0 true)
   else (
    (Zj x0.held 0 x0.conf.lockMost).bind fun r1=>
    K5 x0 (!r1))))
def Zne (x0:GBus)  : Nat→Int→Option Bool
 | 0,_=>none
 | m+1,v1=>Zfo x0  (Zne x0  m) v1
def Zkv (x0:GBus):Option Bool:=
 Zne x0 FU 0
def Zhx (x0:GBus)  (k:Int→Option Bool) (v0:Int):Option Bool:=
 if decide (v0 < (x0.log.length:Int))=true then (
  (idx x0.log v0).bind fun a0=>
  (Zj a0.cycle 0 (subW x0.now 1)).bind fun r0=>
  if (!r0)=true then (
   some false)
  else (
   if decide (v0 > 0)=true then (
    (idx x0.log (subW v0 1)).bind fun a1=>
    if decide (a0.cycle≤a1.cycle)=true then (
     some false)
    else (
     (Zj a0.who 0 (subW (x0.m.length:Int) 1)).bind fun r1=>
     if (!r1)=true then (
      some false)
     else (
      (Kr a0.addr a0.size).bind fun r2=>
      if (!r2)=true then (
       some false)
      else (
       (Zj a0.addr 0 511).bind fun r3=>
       if (!r3)=true then (
        some false)
       else (
        (Xh a0.size).bind fun r4=>
        (Zj a0.value 0 (subW r4 1)).bind fun r5=>
        if (!r5)=true then (
         some false)
        else (
         (Zj a0.resp 0 1).bind fun r6=>
         if (!r6)=true then (
          some false)
         else (
          k (addW v0 1))))))))
   else (
    (Zj a0.who 0 (subW (x0.m.length:Int) 1)).bind fun r1=>
    if (!r1)=true then (
     some false)
    else (
     (Kr a0.addr a0.size).bind fun r2=>
     if (!r2)=true then (
      some false)
     else (
      (Zj a0.addr 0 511).bind fun r3=>
      if (!r3)=true then (
       some false)
      else (
       (Xh a0.size).bind fun r4=>
       (Zj a0.value 0 (subW r4 1)).bind fun r5=>
       if (!r5)=true then (
        some false)
       else (
        (Zj a0.resp 0 1).bind fun r6=>
        if (!r6)=true then (
         some false)
        else (
         k (addW v0 1)))))))))
 else (
  some true)
def Zka (x0:GBus)  : Nat→Int→Option Bool
 | 0,_=>none
 | m+1,v0=>Zhx x0  (Zka x0  m) v0
def Znh (x0:GBus):Option Bool:=
 Zka x0 FU 0
def Zjk (x0:GBus)  (k:Int→Option Bool) (v0:Int):Option Bool:=
 if decide (v0 < (x0.conf.masters.length:Int))=true then (
  (idx x0.m v0).bind fun a0=>
  (Z0u a0 x0.conf).bind fun r0=>
  if (!r0)=true then (
   some false)
  else (
   (idx x0.buckets v0).bind fun a1=>
   (idx x0.conf.masters v0).bind fun a2=>
   (Zb1 a1 a2).bind fun r1=>
   if (!r1)=true then (
    some false)
   else (
    (idx x0.splits v0).bind fun a3=>
    (Zj a3 0 x0.conf.maxSplit).bind fun r2=>
    if (!r2)=true then (
     some false)
    else (
     (Zpx x0 v0).bind fun r3=>
     if decide ((subW a0.beat a0.done)≠r3)=true then (
      some false)
     else (
      k (addW v0 1))))))
 else (
  (J0 x0 x0.data_ true).bind fun r4=>
  if r4=true then (
   (J0 x0 x0.addr false).bind fun r5=>
   if r5=true then (
    (Zkv x0).bind fun r6=>
    if r6=true then (
     (Znh x0).bind fun r7=>
     some r7)
    else (
     some false))
   else (
    some false))
  else (
   some false))
def Zlg (x0:GBus)  : Nat→Int→Option Bool
 | 0,_=>none
 | m+1,v0=>Zjk x0  (Zlg x0  m) v0
def Xl (x0:GBus)  (v1:Bool):Option Bool:=
 if v1=true then (
  some false)
 else (
  Zlg x0 FU 0)
def Zio (x0:GBus):Option Bool:=
 (Zaw x0.conf).bind fun r8=>
 if (!r8)=true then (
  Xl x0 true)
 else (
  (Zj x0.now 0 4000).bind fun r9=>
  if (!r9)=true then (
   Xl x0 true)
  else (
   if decide ((x0.m.length:Int)≠(x0.conf.masters.length:Int))=true then (
    Xl x0 true)
   else (
    if decide ((x0.buckets.length:Int)≠(x0.conf.masters.length:Int))=true then (
     Xl x0 true)
    else (
     if decide ((x0.splits.length:Int)≠(x0.conf.masters.length:Int))=true then (
      Xl x0 true)
     else (
      (Zmf x0.arb x0.conf).bind fun r10=>
      if (!r10)=true then (
       Xl x0 true)
      else (
       (Zj x0.last (-1) (subW (x0.conf.masters.length:Int) 1)).bind fun r11=>
       if (!r11)=true then (
        Xl x0 true)
       else (
        (Zk0 x0.model).bind fun r12=>
        if (!r12)=true then (
         Xl x0 true)
        else (
         if decide (x0.picks < 0)=true then (
          Xl x0 true)
         else (
          Xl x0 (decide (x0.picks > x0.now)))))))))))
def Z3j (x0:GBus)  (k:Int→Option Bool) (v0:Int):Option Bool:=
 if decide (v0 < (x0.m.length:Int))=true then (
  (idx x0.m v0).bind fun a0=>
  if decide ((a0.queue.length:Int) > 0)=true then (
   some false)
  else (
   k (addW v0 1)))
 else (
  some true)
def Zhh (x0:GBus)  : Nat→Int→Option Bool
 | 0,_=>none
 | m+1,v0=>Z3j x0  (Zhh x0  m) v0
def Zps (x0:GBus):Option Bool:=
 Zhh x0 FU 0
def Zh1 (x0:GMst) (x1:Int)  (v0:Bool):Option Int:=
 if v0=true then (
  some (-1))
 else (
  (idx x0.queue 0).bind fun a0=>
  (Zeq a0.addr a0.size a0.burst).bind fun r0=>
  (idx r0 x1).bind fun a1=>
  some a1)
def Zdv (x0:GMst) (x1:Int):Option Int:=
 (Kz x0).bind fun r1=>
 if (!r1)=true then (
  Zh1 x0 x1 true)
 else (
  (J9 x0).bind fun r2=>
  (Zj x1 0 (subW r2 1)).bind fun r3=>
  Zh1 x0 x1 (!r3))
def Zdf (x0:GBus)  (vb0:GWave):Option GWave:=
 if x0.data_.live=true then (
  (idx x0.m x0.data_.who).bind fun a0=>
  (Zdv a0 x0.data_.beat).bind fun r0=>
  some {vb0 with data_:=r0,from_:=x0.data_.who})
 else (
  some vb0)
def Zpr (x0:GBus):Option GWave:=
 if x0.addr.live=true then (
  (idx x0.m x0.addr.who).bind fun a1=>
  (Zdv a1 x0.addr.beat).bind fun r1=>
  if x0.addr.first=true then (
   Zdf x0 (GWave.mk x0.now r1 2 x0.addr.who (-1) (-1) true 0 (-1)))
  else (
   Zdf x0 (GWave.mk x0.now r1 3 x0.addr.who (-1) (-1) true 0 (-1))))
 else (
  Zdf x0 (GWave.mk x0.now (-1) 0 (-1) (-1) (-1) true 0 (-1)))
def Zfd (x0:GScript) (x1:Int)  (k:(List GPost)→Int→Option (List GPost)) (v0:List GPost) (v1:Int):Option (List GPost):=
 if decide (v1 < (x0.posts.length:Int))=true then (
  (idx x0.posts v1).bind fun a0=>
  if decide (a0.at_=x1)=true then (
   (Zfm a0.req).bind fun r0=>
   (appI 80 v0 [{a0 with req:=r0}]).bind fun z0=>
   k z0 (addW v1 1))
  else (
   k v0 (addW v1 1)))
 else (
  some v0)
def Zha (x0:GScript) (x1:Int)  : Nat→(List GPost)→Int→Option (List GPost)
 | 0,_,_=>none
 | m+1,v0,v1=>Zfd x0 x1  (Zha x0 x1  m) v0 v1
def Zo7 (x0:GScript) (x1:Int):Option (List GPost):=
 Zha x0 x1 FU [] 0
def Zc2 (x0:GMst) (x1:GReq)  (vb0:GMst) (v0:Bool):Option (GMst×Bool):=
 if v0=true then (
  some (vb0,false))
 else (
  (Zfm x1).bind fun r0=>
  (appI 64 vb0.queue [r0]).bind fun z0=>
  some ({vb0 with queue:=z0},true))
def Zpm (x0:GMst) (x1:GReq):Option (GMst×Bool):=
 (Za9 x0).bind fun r1=>
 (Kz x0).bind fun r2=>
 if (!r2)=true then (
  Zc2 x0 x1 r1 true)
 else (
  (Zma x1).bind fun r3=>
  if (!r3)=true then (
   Zc2 x0 x1 r1 true)
  else (
   Zc2 x0 x1 r1 (decide ((x0.queue.length:Int)=4))))
def Zct (x0:GBucket) (x1:GMConf)  (v0:Bool):Option GBucket:=
 if v0=true then (
  some x0)
 else (
  if decide ((addW x0.count 1)=x1.every)=true then (
   some (GBucket.mk (minI x1.cap (addW x0.tokens 1)) 0))
  else (
   some (GBucket.mk x0.tokens (addW x0.count 1))))
def Zjm (x0:GBucket) (x1:GMConf):Option GBucket:=
 if (!x1.prio)=true then (
  Zct x0 x1 true)
 else (
  (Zb1 x0 x1).bind fun r0=>
  Zct x0 x1 (!r0))
def Zhb (x0:GMst)  (vb0:GMst) (v0:Bool):Option (GMst×Bool):=
 if v0=true then (
  some (vb0,false))
 else (
  some ({vb0 with beat:=(subW vb0.beat 1)},true))
def Zpo (x0:GMst):Option (GMst×Bool):=
 (Za9 x0).bind fun r0=>
 (Kz x0).bind fun r1=>
 if (!r1)=true then (
  Zhb x0 r0 true)
 else (
  Zhb x0 r0 (decide (x0.beat=x0.done)))
def Zdg (x0:GBucket) (x1:GMConf)  (v0:Bool):Option GBucket:=
 if v0=true then (
  some (GBucket.mk (minI x1.cap (addW x0.tokens 1)) x0.count))
 else (
  some x0)
def Zj4 (x0:GBucket) (x1:GMConf):Option GBucket:=
 if x1.prio=true then (
  (Zb1 x0 x1).bind fun r0=>
  Zdg x0 x1 r0)
 else (
  Zdg x0 x1 false)
def Zht (x0:GWrr) (x1:GConf) (x2:Int)  (v0:Bool):Option GWrr:=
 if v0=true then (
  (Zf2 x1 x2).bind fun r0=>
  some (GWrr.mk x0.at_ (minI r0 (addW x0.credit 1))))
 else (
  some x0)
def Zpq (x0:GWrr) (x1:GConf) (x2:Int):Option GWrr:=
 (Zmf x0 x1).bind fun r1=>
 if r1=true then (
  Zht x0 x1 x2 (decide (x0.at_=x2)))
 else (
  Zht x0 x1 x2 false)
def Zgx (x0:GBus) (x1:GBeat):Option GBus:=
 (idx x0.m x1.who).bind fun a0=>
 (Zpo a0).bind fun r0=>
 (setO x0.m x1.who r0.1).bind fun y0=>
 if decide (x1.by_=1)=true then (
  (idx x0.buckets x1.who).bind fun a1=>
  (idx x0.conf.masters x1.who).bind fun a2=>
  (Zj4 a1 a2).bind fun r1=>
  (setO x0.buckets x1.who r1).bind fun y1=>
  some {x0 with m:=y0,buckets:=y1})
 else (
  if decide (x1.by_=2)=true then (
   (Zpq x0.arb x0.conf x1.who).bind fun r2=>
   some {x0 with m:=y0,arb:=r2})
  else (
   some {x0 with m:=y0}))
def Ztf (x0:List Int) (x1:Int)  (v0:Bool):Option Int:=
 if v0=true then (
  some 0)
 else (
  (nzI (x0.length:Int)).bind fun n0=>
  (idx x0 (remW x1 (x0.length:Int))).bind fun a0=>
  some a0)
def Ztj (x0:List Int) (x1:Int):Option Int:=
 if decide ((x0.length:Int)=0)=true then (
  Ztf x0 x1 true)
 else (
  Ztf x0 x1 (decide (x1 < 0)))
def Zo9 (x0:GConf) (x1:GScript) (x2:Int):Option Int:=
 (Ztj x1.waits x2).bind fun r0=>
 some (maxI 1 (minI x0.maxSplit (addW (minI r0 99) 1)))
def Zja (x0:GReq) (x1:Int):Option Int:=
 if (!x0.write)=true then (
  some 0)
 else (
  (idx x0.data_ x1).bind fun a0=>
  some a0)
def Zms (x0:Int)  (v0:Bool):Option Int:=
 if v0=true then (
  some 0)
 else (
  if decide (x0 < 128)=true then (
   some 1)
  else (
   if decide (x0 < 192)=true then (
    some 2)
   else (
    some 3)))
def Zpi (x0:Int):Option Int:=
 if decide (x0 < 0)=true then (
  Zms x0 true)
 else (
  Zms x0 (decide (x0≥224)))
def Zng (x0:List Int) (x1:Int) (x2:Int):Option Bool:=
 (Zkq x0).bind fun r0=>
 if r0=true then (
  (Kr x1 x2).bind fun r1=>
  if r1=true then (
   (W1 x2).bind fun r2=>
   some (decide (x1≤(subW (x0.length:Int) r2))))
  else (
   some false))
 else (
  some false)
def Zdc (x0:List Int) (x1:Int) (x2:Int) (x3:Int)  (k:Int→(List Int)→Int→Option (List Int×Bool)) (v0:Int) (v1:List Int) (v2:Int):Option (List Int×Bool):=
 (W1 x2).bind fun r0=>
 if decide (v2 < r0)=true then (
  (idx v1 (addW x1 v2)).bind fun a0=>
  (setO v1 (addW x1 v2) (remW v0 256)).bind fun y0=>
  k (quoW v0 256) y0 (addW v2 1))
 else (
  some (v1,true))
def Zkh (x0:List Int) (x1:Int) (x2:Int) (x3:Int)  : Nat→Int→(List Int)→Int→Option (List Int×Bool)
 | 0,_,_,_=>none
 | m+1,v0,v1,v2=>Zdc x0 x1 x2 x3  (Zkh x0 x1 x2 x3  m) v0 v1 v2
def Zjw (x0:List Int) (x1:Int) (x2:Int) (x3:Int)  (v1:List Int) (v3:Bool):Option (List Int×Bool):=
 if v3=true then (
  some (v1,false))
 else (
  Zkh x0 x1 x2 x3 FU x3 v1 0)
def Zru (x0:List Int) (x1:Int) (x2:Int) (x3:Int):Option (List Int×Bool):=
 (appI 8 [] x0).bind fun z0=>
 (Zng x0 x1 x2).bind fun r1=>
 if (!r1)=true then (
  Zjw x0 x1 x2 x3 z0 true)
 else (
  (Xh x2).bind fun r2=>
  (Zj x3 0 (subW r2 1)).bind fun r3=>
  Zjw x0 x1 x2 x3 z0 (!r3))
def Zgw (x0:GDev) (x1:Bool) (x2:Int) (x3:Int)  (vb0:GDev) (v0:Bool):Option (GDev×Int×Bool):=
 if v0=true then (
  (idx vb0.fifo 0).bind fun a0=>
  (Q2 vb0.fifo 1 (vb0.fifo.length:Int)).bind fun s0=>
  some ({vb0 with fifo:=s0},a0,true))
 else (
  some (vb0,0,false))
def Zgt (x0:GDev) (x1:Bool) (x2:Int) (x3:Int)  (vb0:GDev) (v1:Bool):Option (GDev×Int×Bool):=
 if v1=true then (
  (appI 8 vb0.fifo [x3]).bind fun z0=>
  some ({vb0 with fifo:=z0},x3,true))
 else (
  if decide (x2=20)=true then (
   if (!x1)=true then (
    Zgw x0 x1 x2 x3 vb0 (decide ((vb0.fifo.length:Int) > 0)))
   else (
    Zgw x0 x1 x2 x3 vb0 false))
  else (
   Zgw x0 x1 x2 x3 vb0 false))
def Zlo (x0:GDev) (x1:Bool) (x2:Int) (x3:Int)  (vb0:GDev) (v2:Bool):Option (GDev×Int×Bool):=
 if v2=true then (
  some ({vb0 with timer:=x3},x3,true))
 else (
  if decide (x2=16)=true then (
   (Xh 2).bind fun r0=>
   (nzI r0).bind fun n0=>
   some ({vb0 with timer:=(remW (addW vb0.timer 1) r0)},vb0.timer,true))
  else (
   if decide (x2=20)=true then (
    if x1=true then (
     Zgt x0 x1 x2 x3 vb0 (decide ((vb0.fifo.length:Int) < 4)))
    else (
     Zgt x0 x1 x2 x3 vb0 false))
   else (
    Zgt x0 x1 x2 x3 vb0 false)))
def Zls (x0:GDev) (x1:Bool) (x2:Int) (x3:Int)  (vb0:GDev) (v3:Bool):Option (GDev×Int×Bool):=
 if v3=true then (
  (idx vb0.regs (quoW x2 4)).bind fun a1=>
  (setO vb0.regs (quoW x2 4) x3).bind fun y0=>
  some ({vb0 with regs:=y0},x3,true))
 else (
  (Zj x2 0 12).bind fun r1=>
  if r1=true then (
   (idx vb0.regs (quoW x2 4)).bind fun a2=>
   some (vb0,a2,true))
  else (
   if decide (x2=16)=true then (
    Zlo x0 x1 x2 x3 vb0 x1)
   else (
    Zlo x0 x1 x2 x3 vb0 false)))
def Q8 (x0:GDev) (x1:Bool) (x2:Int) (x3:Int)  (vb0:GDev) (v4:Bool):Option (GDev×Int×Bool):=
 if v4=true then (
  some (vb0,0,false))
 else (
  (Zj x2 0 12).bind fun r2=>
  if r2=true then (
   Zls x0 x1 x2 x3 vb0 x1)
  else (
   Zls x0 x1 x2 x3 vb0 false))
def Zvh (x0:GDev) (x1:Bool) (x2:Int) (x3:Int):Option (GDev×Int×Bool):=
 (Zn2 x0).bind fun r3=>
 (Zp3 x0).bind fun r4=>
 if (!r4)=true then (
  Q8 x0 x1 x2 x3 r3 true)
 else (
  if decide ((remW x2 4)≠0)=true then (
   Q8 x0 x1 x2 x3 r3 true)
  else (
   if x1=true then (
    (Xh 2).bind fun r5=>
    (Zj x3 0 (subW r5 1)).bind fun r6=>
    Q8 x0 x1 x2 x3 r3 (!r6))
   else (
    Q8 x0 x1 x2 x3 r3 false)))
def Zdd (x0:List Int) (x1:Int) (x2:Int)  (k:Int→Int→Option (Int×Bool)) (v0:Int) (v1:Int):Option (Int×Bool):=
 if decide (v1≥0)=true then (
  (idx x0 (addW x1 v1)).bind fun a0=>
  k (addW (mulW v0 256) a0) (subW v1 1))
 else (
  some (v0,true))
def Zkj (x0:List Int) (x1:Int) (x2:Int)  : Nat→Int→Int→Option (Int×Bool)
 | 0,_,_=>none
 | m+1,v0,v1=>Zdd x0 x1 x2  (Zkj x0 x1 x2  m) v0 v1
def Zrd (x0:List Int) (x1:Int) (x2:Int):Option (Int×Bool):=
 (Zng x0 x1 x2).bind fun r0=>
 if (!r0)=true then (
  some (0,false))
 else (
  (W1 x2).bind fun r1=>
  Zkj x0 x1 x2 FU 0 (subW r1 1))
def Zhr (x0:GModel) (x1:Bool) (x2:Int) (x3:Int) (x4:Int)  (vb0:GModel) (vb1:GDev) (v0:Int) (v1:Bool):Option (GModel×Int×Int):=
 if v1=true then (
  some ((GModel.mk vb0.mem vb1),v0,0))
 else (
  some (vb0,0,1))
def Zhl (x0:GModel) (x1:Bool) (x2:Int) (x3:Int) (x4:Int)  (vb2:GModel) (v2:Int) (v3:Bool):Option (GModel×Int×Int):=
 if v3=true then (
  if x1=true then (
   (Zru x0.mem x2 x3 x4).bind fun r0=>
   some ((GModel.mk r0.1 vb2.dev),x4,0))
  else (
   (Zrd x0.mem x2 x3).bind fun r1=>
   some (vb2,r1.1,0)))
 else (
  if decide (v2=3)=true then (
   (Zvh x0.dev x1 (subW x2 192) x4).bind fun r2=>
   if decide (x3=2)=true then (
    Zhr x0 x1 x2 x3 x4 vb2 r2.1 r2.2.1 r2.2.2)
   else (
    Zhr x0 x1 x2 x3 x4 vb2 r2.1 r2.2.1 false))
  else (
   some (vb2,0,1)))
def W3 (x0:GModel) (x1:Bool) (x2:Int) (x3:Int) (x4:Int)  (vb2:GModel) (v4:Bool):Option (GModel×Int×Int):=
 if v4=true then (
  some (vb2,0,1))
 else (
  (Zpi x2).bind fun r3=>
  if decide (r3=1)=true then (
   Zhl x0 x1 x2 x3 x4 vb2 r3 (decide (r3=1)))
  else (
   Zhl x0 x1 x2 x3 x4 vb2 r3 (decide (r3=2))))
def Zk4 (x0:GModel) (x1:Bool) (x2:Int) (x3:Int) (x4:Int):Option (GModel×Int×Int):=
 (Zm3 x0).bind fun r4=>
 (Zk0 x0).bind fun r5=>
 if (!r5)=true then (
  W3 x0 x1 x2 x3 x4 r4 true)
 else (
  (Kr x2 x3).bind fun r6=>
  if (!r6)=true then (
   W3 x0 x1 x2 x3 x4 r4 true)
  else (
   if x1=true then (
    (Xh x3).bind fun r7=>
    (Zj x4 0 (subW r7 1)).bind fun r8=>
    W3 x0 x1 x2 x3 x4 r4 (!r8))
   else (
    W3 x0 x1 x2 x3 x4 r4 false)))
def Zjt (x0:GMst)  (vb0:GMst) (v0:Bool):Option (GMst×Bool):=
 if v0=true then (
  some (vb0,false))
 else (
  (J9 x0).bind fun r0=>
  if decide ((addW vb0.done 1)=r0)=true then (
   (Q2 vb0.queue 1 (vb0.queue.length:Int)).bind fun s0=>
   some ((GMst.mk s0 0 0 0 false false),true))
  else (
   some ((GMst.mk vb0.queue vb0.beat (addW vb0.done 1) 0 false vb0.broken),true)))
def Zrs (x0:GMst):Option (GMst×Bool):=
 (Za9 x0).bind fun r1=>
 (Kz x0).bind fun r2=>
 if (!r2)=true then (
  Zjt x0 r1 true)
 else (
  Zjt x0 r1 (decide (x0.beat=x0.done)))
def Zap (x0:GBus) (x1:GScript)  (vb0:GBus) (vb1:GMst) (vb2:GDone):Option GBus:=
 (appI 56 vb0.log [vb2]).bind fun z0=>
 (Zrs vb1).bind fun r0=>
 (idx vb0.m x0.data_.who).bind fun a0=>
 (setO vb0.m x0.data_.who r0.1).bind fun y0=>
 if decide (vb0.holder=x0.data_.who)=true then (
  if decide (r0.1.done=0)=true then (
   some {vb0 with m:=y0,holder:=(-1),held:=0,log:=z0})
  else (
   some {vb0 with m:=y0,log:=z0}))
 else (
  some {vb0 with m:=y0,log:=z0})
def Zlr (x0:GBus) (x1:GScript):Option GBus:=
 (idx x0.m x0.data_.who).bind fun a1=>
 if decide (x0.data_.resp=2)=true then (
  (setO x0.m x0.data_.who {a1 with tries:=(addW a1.tries 1)}).bind fun y1=>
  (Zgx {x0 with m:=y1,data_:=GBeat.z0} x0.data_).bind fun r1=>
  some r1)
 else (
  if decide (x0.data_.resp=3)=true then (
   (setO x0.m x0.data_.who {a1 with parted:=true}).bind fun y2=>
   (Zo9 x0.conf x1 x0.picks).bind fun r2=>
   (idx x0.splits x0.data_.who).bind fun a2=>
   (setO x0.splits x0.data_.who r2).bind fun y3=>
   (Zgx {x0 with m:=y2,splits:=y3,data_:=GBeat.z0} x0.data_).bind fun r3=>
   some r3)
  else (
   (idx a1.queue 0).bind fun a3=>
   (Zdv a1 x0.data_.beat).bind fun r4=>
   if decide (x0.data_.resp=0)=true then (
    (Zja a3 x0.data_.beat).bind fun r5=>
    (Zk4 x0.model a3.write r4 a3.size r5).bind fun r6=>
    Zap x0 x1 {x0 with data_:=GBeat.z0,model:=r6.1} a1 (GDone.mk x0.now x0.data_.who a3.write r4 a3.size r6.2.1 x0.data_.resp))
   else (
    Zap x0 x1 {x0 with data_:=GBeat.z0} a1 (GDone.mk x0.now x0.data_.who a3.write r4 a3.size 0 x0.data_.resp))))
def Zrm (x0:GScript) (x1:Int):Option Int:=
 (Ztj x0.says x1).bind fun r0=>
 if decide (r0=2)=true then (
  some r0)
 else (
  if decide (r0=3)=true then (
   some r0)
  else (
   some 0))
def Zre (x0:GConf) (x1:GScript) (x2:Int):Option Int:=
 (Ztj x1.waits x2).bind fun r0=>
 some (maxI 0 (minI x0.maxWait r0))
def Zbs (x0:GBus) (x1:GScript)  (vb0:GBeat):Option GBus:=
 some {x0 with addr:=GBeat.z0,data_:=vb0,picks:=(addW x0.picks 1)}
def Wv (x0:GBus) (x1:GScript)  (vb0:GBeat) (v0:Bool):Option GBus:=
 if v0=true then (
  Zbs x0 x1 {vb0 with resp:=3})
 else (
  Zbs x0 x1 vb0)
def Jo (x0:GBus) (x1:GScript)  (vb0:GBeat) (vb1:GMst) (v1:Int) (v2:Int):Option GBus:=
 if (!vb1.broken)=true then (
  if decide (v2=3)=true then (
   if decide (v1=2)=true then (
    if (!vb1.parted)=true then (
     Wv x0 x1 vb0 (decide (x0.holder≠vb0.who)))
    else (
     Wv x0 x1 vb0 false))
   else (
    Wv x0 x1 vb0 false))
  else (
   Wv x0 x1 vb0 false))
 else (
  Wv x0 x1 vb0 false)
def Ww (x0:GBus) (x1:GScript)  (vb0:GBeat) (vb1:GMst) (v1:Int) (v2:Int) (v3:Bool):Option GBus:=
 if v3=true then (
  Jo x0 x1 {vb0 with resp:=2} vb1 v1 v2)
 else (
  Jo x0 x1 vb0 vb1 v1 v2)
def Jk (x0:GBus) (x1:GScript)  (vb0:GBeat) (vb1:GMst) (v1:Int) (v2:Int):Option GBus:=
 if (!vb1.broken)=true then (
  if decide (v2=2)=true then (
   if decide (v1=1)=true then (
    Ww x0 x1 vb0 vb1 v1 v2 (decide (vb1.tries < x0.conf.maxRetry)))
   else (
    if decide (v1=2)=true then (
     Ww x0 x1 vb0 vb1 v1 v2 (decide (vb1.tries < x0.conf.maxRetry)))
    else (
     Ww x0 x1 vb0 vb1 v1 v2 false)))
  else (
   Ww x0 x1 vb0 vb1 v1 v2 false))
 else (
  Ww x0 x1 vb0 vb1 v1 v2 false)
def Ji (x0:GBus) (x1:GScript)  (vb0:GBeat) (vb1:GMst) (v1:Int) (v2:Int) (v4:Bool):Option GBus:=
 if v4=true then (
  Jk x0 x1 {vb0 with left:=(addW vb0.left 2)} vb1 v1 v2)
 else (
  Jk x0 x1 vb0 vb1 v1 v2)
def Js (x0:GBus) (x1:GScript)  (vb0:GBeat) (vb1:GMst) (v1:Int) (v2:Int):Option GBus:=
 if decide (v1=3)=true then (
  Ji x0 x1 vb0 vb1 v1 v2 (!vb1.broken))
 else (
  Ji x0 x1 vb0 vb1 v1 v2 false)
def Ju (x0:GBus) (x1:GScript)  (vb2:GMst) (vb3:GReq) (v5:Int) (v1:Int) (v2:Int) (v6:Bool):Option GBus:=
 if v6=true then (
  Js x0 x1 {x0.addr with resp:=1} vb2 v1 v2)
 else (
  (Zre x0.conf x1 x0.picks).bind fun r0=>
  (Zja vb3 x0.addr.beat).bind fun r1=>
  (Zk4 x0.model vb3.write v5 vb3.size r1).bind fun r2=>
  Js x0 x1 {x0.addr with left:=r0,resp:=r2.2.2} vb2 v1 v2)
def Zn4 (x0:GBus) (x1:GScript):Option GBus:=
 if (!x0.addr.live)=true then (
  some {x0 with addr:=GBeat.z0})
 else (
  (idx x0.m x0.addr.who).bind fun a0=>
  (idx a0.queue 0).bind fun a1=>
  (Zdv a0 x0.addr.beat).bind fun r3=>
  (Zpi r3).bind fun r4=>
  (Zrm x1 x0.picks).bind fun r5=>
  if a0.broken=true then (
   Ju x0 x1 a0 a1 r3 r4 r5 true)
  else (
   Ju x0 x1 a0 a1 r3 r4 r5 (decide (r4=0))))
def Zim (x0:GMst):Option Bool:=
 (Kz x0).bind fun r0=>
 if r0=true then (
  (J9 x0).bind fun r1=>
  some (decide (x0.beat < r1)))
 else (
  some false)
def Zaa (x0:GBucket) (x1:GMConf)  (v0:Bool):Option (GBucket×Bool):=
 if v0=true then (
  some (x0,false))
 else (
  some ((GBucket.mk (subW x0.tokens 1) x0.count),true))
def Zkf (x0:GBucket) (x1:GMConf):Option (GBucket×Bool):=
 if (!x1.prio)=true then (
  Zaa x0 x1 true)
 else (
  (Zb1 x0 x1).bind fun r0=>
  if (!r0)=true then (
   Zaa x0 x1 true)
  else (
   Zaa x0 x1 (decide (x0.tokens=0))))
def Zfk (x0:GMst)  (vb0:GMst) (v0:Bool):Option (GMst×Bool):=
 if v0=true then (
  some (vb0,false))
 else (
  some ({vb0 with beat:=(addW vb0.beat 1)},true))
def Zm7 (x0:GMst):Option (GMst×Bool):=
 (Za9 x0).bind fun r0=>
 (Zim x0).bind fun r1=>
 if (!r1)=true then (
  Zfk x0 r0 true)
 else (
  Zfk x0 r0 (decide (x0.beat=(addW x0.done 2))))
def Zlv (x0:GWrr) (x1:GConf) (x2:List Bool)  (k:Int→Option (GWrr×Int)) (v0:Int):Option (GWrr×Int):=
 if decide (v0≤(x2.length:Int))=true then (
  (nzI (x2.length:Int)).bind fun n0=>
  (idx x2 (remW (addW x0.at_ v0) (x2.length:Int))).bind fun a0=>
  if a0=true then (
   (Zf2 x1 (remW (addW x0.at_ v0) (x2.length:Int))).bind fun r0=>
   some ((GWrr.mk (remW (addW x0.at_ v0) (x2.length:Int)) (subW r0 1)),(remW (addW x0.at_ v0) (x2.length:Int))))
  else (
   k (addW v0 1)))
 else (
  some ((GWrr.mk x0.at_ 0),(-1)))
def Zh6 (x0:GWrr) (x1:GConf) (x2:List Bool)  : Nat→Int→Option (GWrr×Int)
 | 0,_=>none
 | m+1,v0=>Zlv x0 x1 x2  (Zh6 x0 x1 x2  m) v0
def Zhs (x0:GWrr) (x1:GConf) (x2:List Bool)  (v1:Bool):Option (GWrr×Int):=
 if v1=true then (
  some ((GWrr.mk x0.at_ (subW x0.credit 1)),x0.at_))
 else (
  Zh6 x0 x1 x2 FU 1)
def Zh3 (x0:GWrr) (x1:GConf) (x2:List Bool)  (v2:Bool):Option (GWrr×Int):=
 if v2=true then (
  some (x0,(-1)))
 else (
  if decide (x0.credit > 0)=true then (
   (idx x2 x0.at_).bind fun a1=>
   Zhs x0 x1 x2 a1)
  else (
   Zhs x0 x1 x2 false))
def Zpj (x0:GWrr) (x1:GConf) (x2:List Bool):Option (GWrr×Int):=
 (Zmf x0 x1).bind fun r1=>
 if (!r1)=true then (
  Zh3 x0 x1 x2 true)
 else (
  Zh3 x0 x1 x2 (decide ((x2.length:Int)≠(x1.masters.length:Int))))
def Zga (x0:GBus) (k_L2:GBus→GBeat→(List Bool)→Int→Option GBus) (vb0:GBus) (vb1:GBeat) (v0:List Bool) (v1:Int) (v2:Bool):Option GBus:=
 if v2=true then (
  (idx vb0.buckets v1).bind fun a0=>
  (idx vb0.conf.masters v1).bind fun a1=>
  (Zkf a0 a1).bind fun r0=>
  (setO vb0.buckets v1 r0.1).bind fun y0=>
  k_L2 {vb0 with buckets:=y0} (GBeat.mk false v1 0 false 1 0 0 false) v0 (addW v1 1))
 else (
  k_L2 vb0 vb1 v0 (addW v1 1))
def Zef (x0:GBus)  (vb0:GBus) (vb1:GBeat) (vb2:GMst):Option GBus:=
 (Zm7 vb2).bind fun r1=>
 (idx vb0.m vb1.who).bind fun a2=>
 (setO vb0.m vb1.who r1.1).bind fun y1=>
 some {vb0 with m:=y1,last:=vb1.who,addr:=vb1}
def Zao (x0:GBus)  (vb0:GBus) (vb1:GBeat) (vb2:GMst) (v3:Bool):Option GBus:=
 if v3=true then (
  Zef x0 {vb0 with holder:=vb1.who,held:=0} vb1 vb2)
 else (
  Zef x0 vb0 vb1 vb2)
def Zby (x0:GBus)  (vb0:GBus) (vb1:GBeat) (vb2:GMst):Option GBus:=
 (idx vb2.queue 0).bind fun a3=>
 if a3.lock=true then (
  if (!vb2.broken)=true then (
   Zao x0 vb0 vb1 vb2 (decide (vb0.holder < 0)))
  else (
   Zao x0 vb0 vb1 vb2 false))
 else (
  Zao x0 vb0 vb1 vb2 false)
def Qd (x0:GBus)  (vb0:GBus) (vb1:GBeat):Option GBus:=
 if decide (vb1.who < 0)=true then (
  some vb0)
 else (
  (idx vb0.m vb1.who).bind fun a4=>
  if decide (a4.beat=0)=true then (
   Zby x0 vb0 {vb1 with live:=true,beat:=a4.beat,first:=true} a4)
  else (
   Zby x0 vb0 {vb1 with live:=true,beat:=a4.beat,first:=(decide (vb0.last≠vb1.who))} a4))
def Zb2 (x0:GBus)  (vb0:GBus) (vb1:GBeat) (v0:List Bool) (v4:Bool):Option GBus:=
 if v4=true then (
  (Zpj vb0.arb vb0.conf v0).bind fun r2=>
  Qd x0 {vb0 with arb:=r2.1} {vb1 with who:=r2.2,by_:=2})
 else (
  Qd x0 vb0 vb1)
def Jv (x0:GBus) (k_L2:GBus→GBeat→(List Bool)→Int→Option GBus) (vb0:GBus) (vb1:GBeat) (v0:List Bool) (v1:Int) (v5:Bool):Option GBus:=
 if v5=true then (
  (idx v0 v1).bind fun a5=>
  if a5=true then (
   (idx vb0.buckets v1).bind fun a6=>
   Zga x0 k_L2 vb0 vb1 v0 v1 (decide (a6.tokens > 0)))
  else (
   Zga x0 k_L2 vb0 vb1 v0 v1 false))
 else (
  if decide (vb1.who < 0)=true then (
   Zb2 x0 vb0 vb1 v0 (decide (vb0.holder < 0)))
  else (
   Zb2 x0 vb0 vb1 v0 false))
def Qs (x0:GBus)  (k:GBus→GBeat→(List Bool)→Int→Option GBus) (vb0:GBus) (vb1:GBeat) (v0:List Bool) (v1:Int):Option GBus:=
 if decide (v1 < (vb0.m.length:Int))=true then (
  Jv x0 k vb0 vb1 v0 v1 (decide (vb1.who < 0)))
 else (
  Jv x0 k vb0 vb1 v0 v1 false)
def Kg (x0:GBus)  : Nat→GBus→GBeat→(List Bool)→Int→Option GBus
 | 0,_,_,_,_=>none
 | m+1,vb0,vb1,v0,v1=>Qs x0  (Kg x0  m) vb0 vb1 v0 v1
def Zfp (x0:GBus)  (vb1:GBeat) (v0:List Bool):Option GBus:=
 Kg x0 FU x0 vb1 v0 0
def Zff (x0:GBus)  (v0:List Bool) (v6:Bool):Option GBus:=
 if v6=true then (
  Zfp x0 (GBeat.mk false x0.holder 0 false 3 0 0 false) v0)
 else (
  Zfp x0 (GBeat.mk false (-1) 0 false 0 0 0 false) v0)
def Zed (x0:GBus)  (k:(List Bool)→Int→Option GBus) (v0:List Bool) (v7:Int):Option GBus:=
 if decide (v7 < (x0.m.length:Int))=true then (
  (idx x0.m v7).bind fun a7=>
  (Zim a7).bind fun r3=>
  if r3=true then (
   (idx x0.splits v7).bind fun a8=>
   if decide (a8=0)=true then (
    if decide (x0.holder < 0)=true then (
     (appI 1 v0 [true]).bind fun z0=>
     k z0 (addW v7 1))
    else (
     (appI 1 v0 [decide (x0.holder=v7)]).bind fun z0=>
     k z0 (addW v7 1)))
   else (
    (appI 1 v0 [false]).bind fun z0=>
    k z0 (addW v7 1)))
  else (
   (appI 1 v0 [false]).bind fun z0=>
   k z0 (addW v7 1)))
 else (
  if decide (x0.holder≥0)=true then (
   (idx v0 x0.holder).bind fun a9=>
   Zff x0 v0 a9)
  else (
   Zff x0 v0 false))
def Zf8 (x0:GBus)  : Nat→(List Bool)→Int→Option GBus
 | 0,_,_=>none
 | m+1,v0,v7=>Zed x0  (Zf8 x0  m) v0 v7
def Zn3 (x0:GBus):Option GBus:=
 Zf8 x0 FU [] 0
def Zae (x0:GBus) (x1:GScript)  (vb0:GBus) (vb1:GWave):Option (GBus×GWave):=
 some ({vb0 with now:=(addW vb0.now 1)},vb1)
def Zaj (x0:GBus) (x1:GScript)  (vb0:GBus) (vb2:GWave):Option (GBus×GWave):=
 (Zn4 vb0 x1).bind fun r0=>
 (Zn3 r0).bind fun r1=>
 if r1.addr.live=true then (
  Zae x0 x1 r1 {vb2 with got:=r1.addr.who})
 else (
  Zae x0 x1 r1 vb2)
def Qt (x0:GBus) (x1:GScript)  (vb0:GBus) (vb2:GWave) (v0:Bool):Option (GBus×GWave):=
 if v0=true then (
  (idx vb0.m vb0.holder).bind fun a0=>
  (setO vb0.m vb0.holder {a0 with broken:=true}).bind fun y0=>
  Zaj x0 x1 {vb0 with m:=y0,holder:=(-1),held:=0} vb2)
 else (
  Zaj x0 x1 vb0 vb2)
def Wh (x0:GBus) (x1:GScript)  (vb0:GBus) (vb2:GWave):Option (GBus×GWave):=
 if vb2.ready=true then (
  if decide (vb0.holder≥0)=true then (
   Qt x0 x1 vb0 vb2 (decide (vb0.held≥vb0.conf.lockMost)))
  else (
   Qt x0 x1 vb0 vb2 false))
 else (
  Zae x0 x1 vb0 vb2)
def Qw (x0:GBus) (x1:GScript)  (vb0:GBus) (vb2:GWave) (v1:Bool):Option (GBus×GWave):=
 if v1=true then (
  if vb0.addr.live=true then (
   (Zgx {vb0 with addr:=GBeat.z0,data_:={vb0.data_ with second:=true}} vb0.addr).bind fun r2=>
   Wh x0 x1 r2 {vb2 with ready:=false,resp:=vb0.data_.resp})
  else (
   Wh x0 x1 {vb0 with data_:={vb0.data_ with second:=true}} {vb2 with ready:=false,resp:=vb0.data_.resp}))
 else (
  if vb0.data_.live=true then (
   (Zlr vb0 x1).bind fun r3=>
   Wh x0 x1 r3 {vb2 with resp:=vb0.data_.resp})
  else (
   Wh x0 x1 vb0 vb2))
def Zhi (x0:GBus) (x1:GScript)  (vb0:GBus) (vb2:GWave) (v2:Bool):Option (GBus×GWave):=
 if v2=true then (
  Wh x0 x1 {vb0 with data_:={vb0.data_ with left:=(subW vb0.data_.left 1)}} {vb2 with ready:=false})
 else (
  if vb0.data_.live=true then (
   if decide (vb0.data_.resp≠0)=true then (
    Qw x0 x1 vb0 vb2 (!vb0.data_.second))
   else (
    Qw x0 x1 vb0 vb2 false))
  else (
   Qw x0 x1 vb0 vb2 false))
def Qu (x0:GBus) (x1:GScript)  (vb0:GBus) (vb2:GWave):Option (GBus×GWave):=
 if vb0.data_.live=true then (
  Zhi x0 x1 vb0 vb2 (decide (vb0.data_.left > 0)))
 else (
  Zhi x0 x1 vb0 vb2 false)
def Zfi (x0:GBus) (x1:GScript)  (k:GBus→GWave→Int→Option (GBus×GWave)) (vb0:GBus) (vb2:GWave) (v3:Int):Option (GBus×GWave):=
 if decide (v3 < (vb0.m.length:Int))=true then (
  (idx vb0.splits v3).bind fun a1=>
  (setO vb0.splits v3 (maxI 0 (subW a1 1))).bind fun y1=>
  (idx vb0.buckets v3).bind fun a2=>
  (idx vb0.conf.masters v3).bind fun a3=>
  (Zjm a2 a3).bind fun r4=>
  (setO vb0.buckets v3 r4).bind fun y2=>
  k {vb0 with buckets:=y2,splits:=y1} vb2 (addW v3 1))
 else (
  if decide (vb0.holder≥0)=true then (
   Qu x0 x1 {vb0 with held:=(minI vb0.conf.lockMost (addW vb0.held 1))} vb2)
  else (
   Qu x0 x1 vb0 vb2))
def K1 (x0:GBus) (x1:GScript)  : Nat→GBus→GWave→Int→Option (GBus×GWave)
 | 0,_,_,_=>none
 | m+1,vb0,vb2,v3=>Zfi x0 x1  (K1 x0 x1  m) vb0 vb2 v3
def Zfe (x0:GBus) (x1:GScript)  (k:GBus→GWave→(List GPost)→Int→Option (GBus×GWave)) (vb0:GBus) (vb2:GWave) (v4:List GPost) (v5:Int):Option (GBus×GWave):=
 if decide (v5 < (v4.length:Int))=true then (
  (idx v4 v5).bind fun a4=>
  (Zj a4.who 0 (subW (vb0.m.length:Int) 1)).bind fun r5=>
  if r5=true then (
   (idx vb0.m a4.who).bind fun a5=>
   (Zpm a5 a4.req).bind fun r6=>
   (setO vb0.m a4.who r6.1).bind fun y3=>
   k {vb0 with m:=y3} vb2 v4 (addW v5 1))
  else (
   k vb0 vb2 v4 (addW v5 1)))
 else (
  K1 x0 x1 FU vb0 vb2 0)
def Zdb (x0:GBus) (x1:GScript)  : Nat→GBus→GWave→(List GPost)→Int→Option (GBus×GWave)
 | 0,_,_,_,_=>none
 | m+1,vb0,vb2,v4,v5=>Zfe x0 x1  (Zdb x0 x1  m) vb0 vb2 v4 v5
def Zph (x0:GBus) (x1:GScript):Option (GBus×GWave):=
 (Zk6 x0).bind fun r7=>
 (Zpr r7).bind fun r8=>
 (Zo7 x1 r7.now).bind fun r9=>
 Zdb x0 x1 FU r7 r8 r9 0
def Z1x (x0:GScript)  (k:Int→Int→Option Int) (v0:Int) (v1:Int):Option Int:=
 if decide (v1 < (x0.posts.length:Int))=true then (
  (idx x0.posts v1).bind fun a0=>
  k (maxI v0 a0.at_) (addW v1 1))
 else (
  some v0)
def Zge (x0:GScript)  : Nat→Int→Int→Option Int
 | 0,_,_=>none
 | m+1,v0,v1=>Z1x x0  (Zge x0  m) v0 v1
def Zoh (x0:GScript):Option Int:=
 Zge x0 FU (-1) 0
def Zbe (x0:GBus) (x1:GScript) (k_L1:GBus→Int→Option (GBus×Int)) (vb0:GBus) (v0:Int) (v1:Bool):Option (GBus×Int):=
 if v1=true then (
  (Zph vb0 x1).bind fun r0=>
  k_L1 r0.1 (addW v0 1))
 else (
  some (vb0,v0))
def Zcu (x0:GBus) (x1:GScript)  (k:GBus→Int→Option (GBus×Int)) (vb0:GBus) (v0:Int):Option (GBus×Int):=
 if decide (vb0.now < 4000)=true then (
  (Zps vb0).bind fun r1=>
  if (!r1)=true then (
   Zbe x0 x1 k vb0 v0 true)
  else (
   (Zoh x1).bind fun r2=>
   Zbe x0 x1 k vb0 v0 (decide (vb0.now≤r2))))
 else (
  Zbe x0 x1 k vb0 v0 false)
def Jr (x0:GBus) (x1:GScript)  : Nat→GBus→Int→Option (GBus×Int)
 | 0,_,_=>none
 | m+1,vb0,v0=>Zcu x0 x1  (Jr x0 x1  m) vb0 v0
def Zrz (x0:GBus) (x1:GScript):Option (GBus×Int):=
 (Zk6 x0).bind fun r3=>
 (Zio x0).bind fun r4=>
 if (!r4)=true then (
  some (r3,0))
 else (
  Jr x0 x1 FU r3 0)
def Zqy (x0:GConf) (x1:List GReq)  (k:GScript→Int→Option (List GDone×Bool)) (vb0:GScript) (v0:Int):Option (List GDone×Bool):=
 if decide (v0 < (x1.length:Int))=true then (
  (idx x1 v0).bind fun a0=>
  (Zma a0).bind fun r0=>
  if (!r0)=true then (
   some ([],false))
  else (
   (appI 80 vb0.posts [(GPost.mk 0 0 a0)]).bind fun z0=>
   k {vb0 with posts:=z0} (addW v0 1)))
 else (
  (Znw x0).bind fun r1=>
  (Zrz r1.1 vb0).bind fun r2=>
  some (r2.1.log,true))
def Zix (x0:GConf) (x1:List GReq)  : Nat→GScript→Int→Option (List GDone×Bool)
 | 0,_,_=>none
 | m+1,vb0,v0=>Zqy x0 x1  (Zix x0 x1  m) vb0 v0
def Zik (x0:GConf) (x1:List GReq)  (v1:Bool):Option (List GDone×Bool):=
 if v1=true then (
  some ([],false))
 else (
  Zix x0 x1 FU GScript.z0 0)
def Zxe (x0:GConf) (x1:List GReq):Option (List GDone×Bool):=
 (Zaw x0).bind fun r3=>
 if (!r3)=true then (
  Zik x0 x1 true)
 else (
  Zik x0 x1 (decide ((x1.length:Int) > 4)))
def Zml (x0:GL1Cur) (x1:Int)  (k:GL1Cur→(List Int)→Int→Option (List Int×GL1Cur)) (vb0:GL1Cur) (v0:List Int) (v1:Int):Option (List Int×GL1Cur):=
 if decide (v1 > 0)=true then (
  (Zo vb0 x1).bind fun r0=>
  (appI 8 v0 [r0.1]).bind fun z0=>
  k r0.2 z0 (subW v1 1))
 else (
  some (v0,vb0))
def Zbg (x0:GL1Cur) (x1:Int)  : Nat→GL1Cur→(List Int)→Int→Option (List Int×GL1Cur)
 | 0,_,_,_=>none
 | m+1,vb0,v0,v1=>Zml x0 x1  (Zbg x0 x1  m) vb0 v0 v1
def Zfx (x0:GL1Cur) (x1:Int):Option (List Int×GL1Cur):=
 (Zo x0 6).bind fun r1=>
 Zbg x0 x1 FU r1.2 [] r1.1
def Zbp (x0:GL1Cur) (x1:GConf) (k_L1:GL1Cur→GScript→Int→Int→Option (GScript×GL1Cur×GConf)) (vb0:GL1Cur) (vb1:GScript) (v0:Int) (v1:Int) (v2:Bool):Option (GScript×GL1Cur×GConf):=
 if v2=true then (
  (Yh vb0 [0,0,1,2,9]).bind fun r0=>
  (Zo r0.2 (x1.masters.length:Int)).bind fun r1=>
  (Zir r1.2).bind fun r2=>
  (appI 80 vb1.posts [(GPost.mk (addW v0 r0.1) r1.1 r2.1)]).bind fun z0=>
  k_L1 r2.2 {vb1 with posts:=z0} (addW v0 r0.1) (subW v1 1))
 else (
  some (vb1,vb0,x1))
def Zeh (x0:GL1Cur) (x1:GConf)  (k:GL1Cur→GScript→Int→Int→Option (GScript×GL1Cur×GConf)) (vb0:GL1Cur) (vb1:GScript) (v0:Int) (v1:Int):Option (GScript×GL1Cur×GConf):=
 if decide (v1 > 0)=true then (
  Zbp x0 x1 k vb0 vb1 v0 v1 (decide ((x1.masters.length:Int) > 0)))
 else (
  Zbp x0 x1 k vb0 vb1 v0 v1 false)
def Ws (x0:GL1Cur) (x1:GConf)  : Nat→GL1Cur→GScript→Int→Int→Option (GScript×GL1Cur×GConf)
 | 0,_,_,_,_=>none
 | m+1,vb0,vb1,v0,v1=>Zeh x0 x1  (Ws x0 x1  m) vb0 vb1 v0 v1
def Zbo (x0:GL1Cur) (x1:GConf):Option (GScript×GL1Cur×GConf):=
 (Zfx x0 5).bind fun r3=>
 (Zfx r3.2 5).bind fun r4=>
 (Zo r4.2 6).bind fun r5=>
 Ws x0 x1 FU r5.2 (GScript.mk [] r3.1 r4.1) 0 r5.1
def Zmb (x0:GL1Cur) (x1:GConf):Option (GScript×GL1Cur×GConf):=
 (Zbo x0 x1).bind fun r0=>
 if decide ((r0.1.posts.length:Int)=0)=true then (
  some (r0.1,r0.2.1,x1))
 else (
  (Zo r0.2.1 (r0.1.posts.length:Int)).bind fun r1=>
  (Zo r1.2 14).bind fun r2=>
  if decide (r2.1=0)=true then (
   (Yh r2.2 [(-1),0,99,4001]).bind fun r3=>
   (idx r0.1.posts r1.1).bind fun a0=>
   (setO r0.1.posts r1.1 {a0 with at_:=r3.1}).bind fun y0=>
   some ({r0.1 with posts:=y0},r3.2,x1))
  else (
   if decide (r2.1=1)=true then (
    (Zo r2.2 6).bind fun r4=>
    (idx r0.1.posts r1.1).bind fun a1=>
    (setO r0.1.posts r1.1 {a1 with who:=(subW r4.1 1)}).bind fun y1=>
    some ({r0.1 with posts:=y1},r4.2,x1))
   else (
    if decide (r2.1=2)=true then (
     (Zi9 r2.2).bind fun r5=>
     (idx r0.1.posts r1.1).bind fun a2=>
     (setO r0.1.posts r1.1 {a2 with req:=r5.1}).bind fun y2=>
     some ({r0.1 with posts:=y2},r5.2,x1))
    else (
     some (r0.1,r2.2,x1)))))
def Zkn (x0:GL1Cur) (x1:GConf) (k_L1:GL1Cur→GScript→Int→Int→Option (GScript×GL1Cur×GConf)) (vb0:GL1Cur) (vb1:GScript) (v0:Int) (v1:Int) (v2:Bool):Option (GScript×GL1Cur×GConf):=
 if v2=true then (
  (Yh vb0 [0,0,1,2,9]).bind fun r0=>
  (Zo r0.2 (x1.masters.length:Int)).bind fun r1=>
  (Zir r1.2).bind fun r2=>
  (appI 80 vb1.posts [(GPost.mk (addW v0 r0.1) r1.1 r2.1)]).bind fun z0=>
  k_L1 r2.2 {vb1 with posts:=z0} (addW v0 r0.1) (subW v1 1))
 else (
  some (vb1,vb0,x1))
def Zp7 (x0:GL1Cur) (x1:GConf)  (k:GL1Cur→GScript→Int→Int→Option (GScript×GL1Cur×GConf)) (vb0:GL1Cur) (vb1:GScript) (v0:Int) (v1:Int):Option (GScript×GL1Cur×GConf):=
 if decide (v1 > 0)=true then (
  Zkn x0 x1 k vb0 vb1 v0 v1 (decide ((x1.masters.length:Int) > 0)))
 else (
  Zkn x0 x1 k vb0 vb1 v0 v1 false)
def K9 (x0:GL1Cur) (x1:GConf)  : Nat→GL1Cur→GScript→Int→Int→Option (GScript×GL1Cur×GConf)
 | 0,_,_,_,_=>none
 | m+1,vb0,vb1,v0,v1=>Zp7 x0 x1  (K9 x0 x1  m) vb0 vb1 v0 v1
def Zlq (x0:GL1Cur) (x1:GConf):Option (GScript×GL1Cur×GConf):=
 (Zfx x0 5).bind fun r3=>
 (Zfx r3.2 5).bind fun r4=>
 (Zo r4.2 6).bind fun r5=>
 K9 x0 x1 FU r5.2 (GScript.mk [] r3.1 r4.1) 0 r5.1
def Zej (x0:GL1Cur) (x1:GConf)  (vb0:GL1Cur) (vpers_0_64:List GMConf) (vb1:GScript):Option (GScript×GL1Cur×GConf):=
 if decide ((vb1.posts.length:Int)=0)=true then (
  (lenE x1.masters vpers_0_64).bind fun e0=>
  some (vb1,vb0,{x1 with masters:=vpers_0_64}))
 else (
  (Zo vb0 (vb1.posts.length:Int)).bind fun r0=>
  (Zo r0.2 14).bind fun r1=>
  if decide (r1.1=0)=true then (
   (Yh r1.2 [(-1),0,99,4001]).bind fun r2=>
   (idx vb1.posts r0.1).bind fun a0=>
   (setO vb1.posts r0.1 {a0 with at_:=r2.1}).bind fun y0=>
   (lenE x1.masters vpers_0_64).bind fun e0=>
   some ({vb1 with posts:=y0},r2.2,{x1 with masters:=vpers_0_64}))
  else (
   if decide (r1.1=1)=true then (
    (Zo r1.2 6).bind fun r3=>
    (idx vb1.posts r0.1).bind fun a1=>
    (setO vb1.posts r0.1 {a1 with who:=(subW r3.1 1)}).bind fun y1=>
    (lenE x1.masters vpers_0_64).bind fun e0=>
    some ({vb1 with posts:=y1},r3.2,{x1 with masters:=vpers_0_64}))
   else (
    if decide (r1.1=2)=true then (
     (Zi9 r1.2).bind fun r4=>
     (idx vb1.posts r0.1).bind fun a2=>
     (setO vb1.posts r0.1 {a2 with req:=r4.1}).bind fun y2=>
     (lenE x1.masters vpers_0_64).bind fun e0=>
     some ({vb1 with posts:=y2},r4.2,{x1 with masters:=vpers_0_64}))
    else (
     (lenE x1.masters vpers_0_64).bind fun e0=>
     some (vb1,r1.2,{x1 with masters:=vpers_0_64})))))
def Zki (x0:GL1Cur) (x1:GConf):Option (GScript×GL1Cur×GConf):=
 if decide (x1.masters.length=0)=true then (
  (Zbo x0 {x1 with masters:=[]}).bind fun r5=>
  Zej x0 x1 r5.2.1 x1.masters r5.1)
 else (
  (Zlq x0 x1).bind fun r5=>
  (lenE x1.masters r5.2.2.masters).bind fun q0=>
  Zej x0 x1 r5.2.1 r5.2.2.masters r5.1)
def Zro (x0:GL1Cur):Option (GConf×GScript×GL1Cur):=
 (Zm8 x0).bind fun r0=>
 (Zax r0.2 16).bind fun r1=>
 if r1.1=true then (
  (Zqe r1.2).bind fun r2=>
  if decide (r2.1.masters.length=0)=true then (
   (Zmb r2.2 {r2.1 with masters:=[]}).bind fun r3=>
   some (r2.1,r3.1,r3.2.1))
  else (
   (Zki r2.2 r2.1).bind fun r3=>
   (lenE r2.1.masters r3.2.2.masters).bind fun q0=>
   some ({r2.1 with masters:=r3.2.2.masters},r3.1,r3.2.1)))
 else (
  if decide (r0.1.masters.length=0)=true then (
   (Zmb r1.2 {r0.1 with masters:=[]}).bind fun r3=>
   some (r0.1,r3.1,r3.2.1))
  else (
   (Zki r1.2 r0.1).bind fun r3=>
   (lenE r0.1.masters r3.2.2.masters).bind fun q1=>
   some ({r0.1 with masters:=r3.2.2.masters},r3.1,r3.2.1)))
def Zmj (x0:List Int):Option (GConf×GScript×Int):=
 (Zl9 x0).bind fun r0=>
 (Zro r0).bind fun r1=>
 (Zo r1.2.2 62).bind fun r2=>
 some (r1.1,r1.2.1,(subW r2.1 1))
def Zei (x0:List GDone)  (k:(List Int)→Int→Option (List Int)) (v0:List Int) (v1:Int):Option (List Int):=
 if decide (v1 < (x0.length:Int))=true then (
  (idx x0 v1).bind fun a0=>
  (appI 8 v0 [a0.value]).bind fun z0=>
  k z0 (addW v1 1))
 else (
  some v0)
def Zfh (x0:List GDone)  : Nat→(List Int)→Int→Option (List Int)
 | 0,_,_=>none
 | m+1,v0,v1=>Zei x0  (Zfh x0  m) v0 v1
def Zi6 (x0:List GDone):Option (List Int):=
 Zfh x0 FU [] 0
def Zd6 (x0:List Int) (x1:List Int)  (k:Int→Option Bool) (v0:Int):Option Bool:=
 if decide (v0 < (x0.length:Int))=true then (
  (idx x0 v0).bind fun a0=>
  (idx x1 v0).bind fun a1=>
  if decide (a0≠a1)=true then (
   some false)
  else (
   k (addW v0 1)))
 else (
  some true)
def Zf7 (x0:List Int) (x1:List Int)  : Nat→Int→Option Bool
 | 0,_=>none
 | m+1,v0=>Zd6 x0 x1  (Zf7 x0 x1  m) v0
def Zmk (x0:List Int) (x1:List Int):Option Bool:=
 if decide ((x0.length:Int)≠(x1.length:Int))=true then (
  some false)
 else (
  Zf7 x0 x1 FU 0)
def Zaz (x0:List Int)  (k:GBus→(List GDone)→Int→Option Bool) (vb0:GBus) (v0:List GDone) (v1:Int):Option Bool:=
 if decide (v1 < (v0.length:Int))=true then (
  (idx vb0.log v1).bind fun a0=>
  (idx v0 v1).bind fun a1=>
  if decide (a0.resp≠a1.resp)=true then (
   some false)
  else (
   if decide (a0.addr≠a1.addr)=true then (
    some false)
   else (
    if decide (a0.cycle < a1.cycle)=true then (
     some false)
    else (
     k vb0 v0 (addW v1 1)))))
 else (
  some true)
def Zcc (x0:List Int)  : Nat→GBus→(List GDone)→Int→Option Bool
 | 0,_,_,_=>none
 | m+1,vb0,v0,v1=>Zaz x0  (Zcc x0  m) vb0 v0 v1
def Zce (x0:List Int)  (vb0:GBus) (v0:List GDone) (v2:Bool):Option Bool:=
 if v2=true then (
  some false)
 else (
  Zcc x0 FU vb0 v0 0)
def Zar (x0:List Int)  (k:GConf→GScript→(List GReq)→Int→Option Bool) (vb0:GConf) (vb1:GScript) (v3:List GReq) (v4:Int):Option Bool:=
 if decide (v4 < (v3.length:Int))=true then (
  (idx v3 v4).bind fun a2=>
  (setO v3 v4 {a2 with lock:=false}).bind fun y0=>
  (idx y0 v4).bind fun a3=>
  (appI 80 vb1.posts [(GPost.mk 0 0 a3)]).bind fun z0=>
  k vb0 {vb1 with posts:=z0} y0 (addW v4 1))
 else (
  (Zsm vb0 v3).bind fun r0=>
  (Znw vb0).bind fun r1=>
  (Zmv r1.1 vb1).bind fun r2=>
  if decide ((r2.1.log.length:Int)≠(r0.1.length:Int))=true then (
   Zce x0 r2.1 r0.1 true)
  else (
   (Zi6 r2.1.log).bind fun r3=>
   (Zi6 r0.1).bind fun r4=>
   (Zmk r3 r4).bind fun r5=>
   Zce x0 r2.1 r0.1 (!r5)))
def Zb8 (x0:List Int)  : Nat→GConf→GScript→(List GReq)→Int→Option Bool
 | 0,_,_,_,_=>none
 | m+1,vb0,vb1,v3,v4=>Zar x0  (Zb8 x0  m) vb0 vb1 v3 v4
def Zca (x0:List Int)  (vb0:GConf) (v3:List GReq) (v0:List GDone) (v5:Bool) (v6:Bool) (v7:Bool):Option Bool:=
 if v7=true then (
  if (v5 == v6)=true then (
   some (decide ((v0.length:Int)=0)))
  else (
   some false))
 else (
  (Zmj x0).bind fun r6=>
  Zb8 x0 FU vb0 {r6.2.1 with posts:=[]} v3 0)
def Zno (x0:List Int):Option Bool:=
 (Z65 x0).bind fun r7=>
 if r7=true then (
  some true)
 else (
  (Znl x0).bind fun r8=>
  (Zsm r8.1 r8.2).bind fun r9=>
  (Zxe r8.1 r8.2).bind fun r10=>
  if (r9.2 != r10.2)=true then (
   Zca x0 r8.1 r8.2 r9.1 r9.2 r10.2 true)
  else (
   Zca x0 r8.1 r8.2 r9.1 r9.2 r10.2 (!r9.2)))
end Go.Proofs.YtciimjnpdmmfnaaGreat.Ev
namespace Go.Proofs.YtciimjnpdmmfnaaGreat.Ev
open Go Go.Proofs Go.RowKit
set_option linter.unusedVariables false
set_option linter.unusedSimpArgs false
def GL1Cur.enc (x:GL1Cur):List V:=[.tr (x.b.map encU),.lit (.int .i64 x.i),.lit (.int .i64 x.h)]
def GMConf.enc (x:GMConf):List V:=[.lit (.int .i64 x.weight),.lit (.bool x.prio),.lit (.int .i64 x.every),.lit (.int .i64 x.cap)]
theorem GMConf.enc_len (x:GMConf):(GMConf.enc x).length=4:=rfl
theorem GMConf.enc_lit (x:GMConf):(GMConf.enc x).all Zry=true:=rfl
def GConf.enc (x:GConf):List V:=[.tr (x.masters.map GMConf.enc),.lit (.int .i64 x.quantum),.lit (.int .i64 x.maxWait),.lit (.int .i64 x.maxRetry),.lit (.int .i64 x.maxSplit),.lit (.int .i64 x.lockMost)]
def GReq.enc (x:GReq):List V:=[.lit (.bool x.write),.lit (.int .i64 x.addr),.lit (.int .i64 x.size),.lit (.int .i64 x.burst),.lit (.bool x.lock),.tr (x.data_.map encI)]
theorem GReq.enc_len (x:GReq):(GReq.enc x).length=6:=rfl
def GMst.enc (x:GMst):List V:=[.tr (x.queue.map GReq.enc),.lit (.int .i64 x.beat),.lit (.int .i64 x.done),.lit (.int .i64 x.tries),.lit (.bool x.parted),.lit (.bool x.broken)]
theorem GMst.enc_len (x:GMst):(GMst.enc x).length=6:=rfl
def GWrr.enc (x:GWrr):List V:=[.lit (.int .i64 x.at_),.lit (.int .i64 x.credit)]
def GBucket.enc (x:GBucket):List V:=[.lit (.int .i64 x.tokens),.lit (.int .i64 x.count)]
theorem GBucket.enc_len (x:GBucket):(GBucket.enc x).length=2:=rfl
theorem GBucket.enc_lit (x:GBucket):(GBucket.enc x).all Zry=true:=rfl
def GBeat.enc (x:GBeat):List V:=[.lit (.bool x.live),.lit (.int .i64 x.who),.lit (.int .i64 x.beat),.lit (.bool x.first),.lit (.int .i64 x.by_),.lit (.int .i64 x.left),.lit (.int .i64 x.resp),.lit (.bool x.second)]
theorem GBeat.enc_len (x:GBeat):(GBeat.enc x).length=8:=rfl
def GDev.enc (x:GDev):List V:=[.tr (x.regs.map encI),.lit (.int .i64 x.timer),.tr (x.fifo.map encI)]
def GModel.enc (x:GModel):List V:=[.tr (x.mem.map encI),.tr (x.dev.regs.map encI),.lit (.int .i64 x.dev.timer),.tr (x.dev.fifo.map encI)]
def GDone.enc (x:GDone):List V:=[.lit (.int .i64 x.cycle),.lit (.int .i64 x.who),.lit (.bool x.write),.lit (.int .i64 x.addr),.lit (.int .i64 x.size),.lit (.int .i64 x.value),.lit (.int .i64 x.resp)]
theorem GDone.enc_len (x:GDone):(GDone.enc x).length=7:=rfl
theorem GDone.enc_lit (x:GDone):(GDone.enc x).all Zry=true:=rfl
def GBus.enc (x:GBus):List V:=[.tr (x.conf.masters.map GMConf.enc),.lit (.int .i64 x.conf.quantum),.lit (.int .i64 x.conf.maxWait),.lit (.int .i64 x.conf.maxRetry),.lit (.int .i64 x.conf.maxSplit),.lit (.int .i64 x.conf.lockMost),.lit (.int .i64 x.now),.tr (x.m.map GMst.enc),.lit (.int .i64 x.arb.at_),.lit (.int .i64 x.arb.credit),.tr (x.buckets.map GBucket.enc),.tr (x.splits.map encI),.lit (.int .i64 x.holder),.lit (.int .i64 x.held),.lit (.int .i64 x.last),.lit (.bool x.addr.live),.lit (.int .i64 x.addr.who),.lit (.int .i64 x.addr.beat),.lit (.bool x.addr.first),.lit (.int .i64 x.addr.by_),.lit (.int .i64 x.addr.left),.lit (.int .i64 x.addr.resp),.lit (.bool x.addr.second),.lit (.bool x.data_.live),.lit (.int .i64 x.data_.who),.lit (.int .i64 x.data_.beat),.lit (.bool x.data_.first),.lit (.int .i64 x.data_.by_),.lit (.int .i64 x.data_.left),.lit (.int .i64 x.data_.resp),.lit (.bool x.data_.second),.tr (x.model.mem.map encI),.tr (x.model.dev.regs.map encI),.lit (.int .i64 x.model.dev.timer),.tr (x.model.dev.fifo.map encI),.lit (.int .i64 x.picks),.tr (x.log.map GDone.enc)]
def GPost.enc (x:GPost):List V:=[.lit (.int .i64 x.at_),.lit (.int .i64 x.who),.lit (.bool x.req.write),.lit (.int .i64 x.req.addr),.lit (.int .i64 x.req.size),.lit (.int .i64 x.req.burst),.lit (.bool x.req.lock),.tr (x.req.data_.map encI)]
theorem GPost.enc_len (x:GPost):(GPost.enc x).length=8:=rfl
def GScript.enc (x:GScript):List V:=[.tr (x.posts.map GPost.enc),.tr (x.waits.map encI),.tr (x.says.map encI)]
def GWave.enc (x:GWave):List V:=[.lit (.int .i64 x.cycle),.lit (.int .i64 x.addr),.lit (.int .i64 x.kind),.lit (.int .i64 x.who),.lit (.int .i64 x.data_),.lit (.int .i64 x.from_),.lit (.bool x.ready),.lit (.int .i64 x.resp),.lit (.int .i64 x.got)]
def GBus.ow (x:GBus):List V:=[.own 81 (x.conf.masters.map GMConf.enc),il x.conf.quantum,il x.conf.maxWait,il x.conf.maxRetry,il x.conf.maxSplit,il x.conf.lockMost,il x.now,.own 107 (x.m.map GMst.enc),il x.arb.at_,il x.arb.credit,.own 110 (x.buckets.map GBucket.enc),.own 3 (x.splits.map encI),il x.holder,il x.held,il x.last,bl x.addr.live,il x.addr.who,il x.addr.beat,bl x.addr.first,il x.addr.by_,il x.addr.left,il x.addr.resp,bl x.addr.second,bl x.data_.live,il x.data_.who,il x.data_.beat,bl x.data_.first,il x.data_.by_,il x.data_.left,il x.data_.resp,bl x.data_.second,.own 3 (x.model.mem.map encI),.own 3 (x.model.dev.regs.map encI),il x.model.dev.timer,.own 3 (x.model.dev.fifo.map encI),il x.picks,.own 52 (x.log.map GDone.enc)]
def GBus.rl (x:GBus) (n:Nat):List V:=[.sl (1,n) 0 (x.conf.masters.map GMConf.enc).length,il x.conf.quantum,il x.conf.maxWait,il x.conf.maxRetry,il x.conf.maxSplit,il x.conf.lockMost,il x.now,.sl (1,n+1) 0 (x.m.map GMst.enc).length,il x.arb.at_,il x.arb.credit,.sl (1,n+2) 0 (x.buckets.map GBucket.enc).length,.sl (1,n+3) 0 (x.splits.map encI).length,il x.holder,il x.held,il x.last,bl x.addr.live,il x.addr.who,il x.addr.beat,bl x.addr.first,il x.addr.by_,il x.addr.left,il x.addr.resp,bl x.addr.second,bl x.data_.live,il x.data_.who,il x.data_.beat,bl x.data_.first,il x.data_.by_,il x.data_.left,il x.data_.resp,bl x.data_.second,.sl (1,n+4) 0 (x.model.mem.map encI).length,.sl (1,n+5) 0 (x.model.dev.regs.map encI).length,il x.model.dev.timer,.sl (1,n+6) 0 (x.model.dev.fifo.map encI).length,il x.picks,.sl (1,n+7) 0 (x.log.map GDone.enc).length]
def GBus.bk (x:GBus) (n:Nat):List (Id×Blk):=[((1,n),⟨false,true,true,81,(x.conf.masters.map GMConf.enc)⟩),((1,n+1),⟨false,true,true,107,(x.m.map GMst.enc)⟩),((1,n+2),⟨false,true,true,110,(x.buckets.map GBucket.enc)⟩),((1,n+3),⟨false,true,true,3,(x.splits.map encI)⟩),((1,n+4),⟨false,true,true,3,(x.model.mem.map encI)⟩),((1,n+5),⟨false,true,true,3,(x.model.dev.regs.map encI)⟩),((1,n+6),⟨false,true,true,3,(x.model.dev.fifo.map encI)⟩),((1,n+7),⟨false,true,true,52,(x.log.map GDone.enc)⟩)]
def GBus.ff (n e b:Nat):List (Id×Id):=[((1,n),(e,b)),((1,n+1),(e,b+7)),((1,n+2),(e,b+10)),((1,n+3),(e,b+11)),((1,n+4),(e,b+31)),((1,n+5),(e,b+32)),((1,n+6),(e,b+34)),((1,n+7),(e,b+36))]
def GBus.nm (x:GBus):List O:=[.num (x.conf.masters.map GMConf.enc).length 0 0 [],.num (x.m.map GMst.enc).length 0 0 [],.num (x.buckets.map GBucket.enc).length 0 0 [],.num (x.splits.map encI).length 0 0 [],.num (x.model.mem.map encI).length 0 0 [],.num (x.model.dev.regs.map encI).length 0 0 [],.num (x.model.dev.fifo.map encI).length 0 0 [],.num (x.log.map GDone.enc).length 0 0 []]
theorem GBus.so (x:GBus) {q:List O} {p:Prop} (h:Scr q p):Scr q ((x.conf.masters.map GMConf.enc).length=(x.conf.masters.map GMConf.enc).length∧(x.m.map GMst.enc).length=(x.m.map GMst.enc).length∧(x.buckets.map GBucket.enc).length=(x.buckets.map GBucket.enc).length∧(x.splits.map encI).length=(x.splits.map encI).length∧(x.model.mem.map encI).length=(x.model.mem.map encI).length∧(x.model.dev.regs.map encI).length=(x.model.dev.regs.map encI).length∧(x.model.dev.fifo.map encI).length=(x.model.dev.fifo.map encI).length∧(x.log.map GDone.enc).length=(x.log.map GDone.enc).length∧p):=⟨rfl,rfl,rfl,rfl,rfl,rfl,rfl,rfl,h⟩
theorem GBus.sc (x:GBus) {q:List O} {p:Prop} (h:Scr q p):Scr (GBus.nm x++q) ((x.conf.masters.map GMConf.enc).length=(x.conf.masters.map GMConf.enc).length∧(x.m.map GMst.enc).length=(x.m.map GMst.enc).length∧(x.buckets.map GBucket.enc).length=(x.buckets.map GBucket.enc).length∧(x.splits.map encI).length=(x.splits.map encI).length∧(x.model.mem.map encI).length=(x.model.mem.map encI).length∧(x.model.dev.regs.map encI).length=(x.model.dev.regs.map encI).length∧(x.model.dev.fifo.map encI).length=(x.model.dev.fifo.map encI).length∧(x.log.map GDone.enc).length=(x.log.map GDone.enc).length∧p):=⟨rfl,rfl,rfl,rfl,rfl,rfl,rfl,rfl,h⟩
def GDev.ow (x:GDev):List V:=[.own 3 (x.regs.map encI),il x.timer,.own 3 (x.fifo.map encI)]
def GDev.rl (x:GDev) (n:Nat):List V:=[.sl (1,n) 0 (x.regs.map encI).length,il x.timer,.sl (1,n+1) 0 (x.fifo.map encI).length]
def GDev.bk (x:GDev) (n:Nat):List (Id×Blk):=[((1,n),⟨false,true,true,3,(x.regs.map encI)⟩),((1,n+1),⟨false,true,true,3,(x.fifo.map encI)⟩)]
def GDev.ff (n e b:Nat):List (Id×Id):=[((1,n),(e,b)),((1,n+1),(e,b+2))]
def GDev.nm (x:GDev):List O:=[.num (x.regs.map encI).length 0 0 [],.num (x.fifo.map encI).length 0 0 []]
theorem GDev.so (x:GDev) {q:List O} {p:Prop} (h:Scr q p):Scr q ((x.regs.map encI).length=(x.regs.map encI).length∧(x.fifo.map encI).length=(x.fifo.map encI).length∧p):=⟨rfl,rfl,h⟩
theorem GDev.sc (x:GDev) {q:List O} {p:Prop} (h:Scr q p):Scr (GDev.nm x++q) ((x.regs.map encI).length=(x.regs.map encI).length∧(x.fifo.map encI).length=(x.fifo.map encI).length∧p):=⟨rfl,rfl,h⟩
def GModel.ow (x:GModel):List V:=[.own 3 (x.mem.map encI),.own 3 (x.dev.regs.map encI),il x.dev.timer,.own 3 (x.dev.fifo.map encI)]
def GModel.rl (x:GModel) (n:Nat):List V:=[.sl (1,n) 0 (x.mem.map encI).length,.sl (1,n+1) 0 (x.dev.regs.map encI).length,il x.dev.timer,.sl (1,n+2) 0 (x.dev.fifo.map encI).length]
def GModel.bk (x:GModel) (n:Nat):List (Id×Blk):=[((1,n),⟨false,true,true,3,(x.mem.map encI)⟩),((1,n+1),⟨false,true,true,3,(x.dev.regs.map encI)⟩),((1,n+2),⟨false,true,true,3,(x.dev.fifo.map encI)⟩)]
def GModel.ff (n e b:Nat):List (Id×Id):=[((1,n),(e,b)),((1,n+1),(e,b+1)),((1,n+2),(e,b+3))]
def GModel.nm (x:GModel):List O:=[.num (x.mem.map encI).length 0 0 [],.num (x.dev.regs.map encI).length 0 0 [],.num (x.dev.fifo.map encI).length 0 0 []]
theorem GModel.so (x:GModel) {q:List O} {p:Prop} (h:Scr q p):Scr q ((x.mem.map encI).length=(x.mem.map encI).length∧(x.dev.regs.map encI).length=(x.dev.regs.map encI).length∧(x.dev.fifo.map encI).length=(x.dev.fifo.map encI).length∧p):=⟨rfl,rfl,rfl,h⟩
theorem GModel.sc (x:GModel) {q:List O} {p:Prop} (h:Scr q p):Scr (GModel.nm x++q) ((x.mem.map encI).length=(x.mem.map encI).length∧(x.dev.regs.map encI).length=(x.dev.regs.map encI).length∧(x.dev.fifo.map encI).length=(x.dev.fifo.map encI).length∧p):=⟨rfl,rfl,rfl,h⟩
def GScript.ow (x:GScript):List V:=[.own 74 (x.posts.map GPost.enc),.own 3 (x.waits.map encI),.own 3 (x.says.map encI)]
def GScript.rl (x:GScript) (n:Nat):List V:=[.sl (1,n) 0 (x.posts.map GPost.enc).length,.sl (1,n+1) 0 (x.waits.map encI).length,.sl (1,n+2) 0 (x.says.map encI).length]
def GScript.bk (x:GScript) (n:Nat):List (Id×Blk):=[((1,n),⟨false,true,true,74,(x.posts.map GPost.enc)⟩),((1,n+1),⟨false,true,true,3,(x.waits.map encI)⟩),((1,n+2),⟨false,true,true,3,(x.says.map encI)⟩)]
def GScript.ff (n e b:Nat):List (Id×Id):=[((1,n),(e,b)),((1,n+1),(e,b+1)),((1,n+2),(e,b+2))]
def GScript.nm (x:GScript):List O:=[.num (x.posts.map GPost.enc).length 0 0 [],.num (x.waits.map encI).length 0 0 [],.num (x.says.map encI).length 0 0 []]
theorem GScript.so (x:GScript) {q:List O} {p:Prop} (h:Scr q p):Scr q ((x.posts.map GPost.enc).length=(x.posts.map GPost.enc).length∧(x.waits.map encI).length=(x.waits.map encI).length∧(x.says.map encI).length=(x.says.map encI).length∧p):=⟨rfl,rfl,rfl,h⟩
theorem GScript.sc (x:GScript) {q:List O} {p:Prop} (h:Scr q p):Scr (GScript.nm x++q) ((x.posts.map GPost.enc).length=(x.posts.map GPost.enc).length∧(x.waits.map encI).length=(x.waits.map encI).length∧(x.says.map encI).length=(x.says.map encI).length∧p):=⟨rfl,rfl,rfl,h⟩
def ffi (n:Nat):Nat→List (Id×Id)
 | 0=>[]
 | m+1=>((1,n),(1,n))::ffi (n+1) m
abbrev bx (n:Nat) (r:List V):Id×Blk:=((1,n),⟨true,true,true,0,[r]⟩)
abbrev rx (n t:Nat) (R:List (List V)):Id×Blk:=((1,n),⟨false,true,true,t,R⟩)
end Go.Proofs.YtciimjnpdmmfnaaGreat.Ev
