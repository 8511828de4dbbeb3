/- A part of the proof of FnOneMaster: see the text YtciimjnpdmmfnaaGreatLawFnOneMaster for what is proved and its conditions. Conditions here: those in each line. -/
import Derived.Test.YtciimjnpdmmfnaaGreatA2
import Derived.KernelRfl
import GoSem.ClaimData
namespace Go.Proofs.YtciimjnpdmmfnaaGreat.Ev
open Go Go.RowKit KM
set_option linter.unusedVariables false
set_option linter.unusedSimpArgs false
section
variable {P:Program} {M:Hints}
def OpOk (P:Program) (M:Hints) (f:Operand→V) (s:St) (k:Nat) (o:Oper) (y:V×St):Prop:=∃C,Zcn P M C∧Yj P M C f s k o=some y
theorem Zgy (hP:FuncsOk P) {f:Operand→V} {s:St} {k:Nat} {o:Oper}:KP (opt (Yj P M Yx f s k o)) (OpOk P M f s k o):=J5.mono fun y h=>⟨Yx,Y6 hP,h⟩
theorem Yjp (hP:FuncsOk P) {f:Operand→V} {s:St} {k:Nat} {d:Option Tmp} {ty t yt:TypeId} {pos:String} {af:Array Edge} {g:Option (Nat×Bool)} {op:BinOp} {x y:Operand}:KP (opK P M f s k ⟨d,.binOp op t x y yt,ty,pos,af,g⟩) (OpOk P M f s k ⟨d,.binOp op t x y yt,ty,pos,af,g⟩):=by
 have base:∀{v:V},binX P op t x y (f x) (f y)=some v→(∃a b,f x=.lit a∧f y=.lit b)→Yj P M Yx f s k ⟨d,.binOp op t x y yt,ty,pos,af,g⟩=some (v,s):=fun {v} h ⟨a,b,h1,h2⟩=>by
  have e:W2 P f ⟨d,.binOp op t x y yt,ty,pos,af,g⟩=some v:=by rw[Ykx];exact h
  simp only[Yj,h1,h2,e,Option.map_some]
 have base2:∀{v:V},binX P op t x y (f x) (f y)=some v→(∃a b,f x=.agg a∧f y=.agg b)→Yj P M Yx f s k ⟨d,.binOp op t x y yt,ty,pos,af,g⟩=some (v,s):=fun {v} h ⟨a,b,h1,h2⟩=>by
  have e:W2 P f ⟨d,.binOp op t x y yt,ty,pos,af,g⟩=some v:=by rw[Ykx];exact h
  simp only[Yj,h1,h2,e,Option.map_some]
 simp only[opK]
 split
 ·rename_i k1 a k2 b h1 h2
  refine Zd Ynl (fun v hv=>Zq ⟨Yx,Y6 hP,base ?_ ⟨_,_,h1,h2⟩⟩)
  rw[h1,h2,Yn4];exact hv
 ·rename_i a b h1 h2
  refine Zd Ym6 (fun v hv=>Zq ⟨Yx,Y6 hP,base ?_ ⟨_,_,h1,h2⟩⟩)
  rw[h1,h2,Yn7];exact hv
 ·rename_i a b h1 h2
  split
  ·rename_i h3
   refine Zq ⟨Yx,Y6 hP,base ?_ ⟨_,_,h1,h2⟩⟩
   rw[h1,h2,Yno h3]
  ·rename_i h3
   refine Zq ⟨Yx,Y6 hP,base ?_ ⟨_,_,h1,h2⟩⟩
   rw[h1,h2,Ym4 h3]
  ·exact Zg
 ·rename_i xs ys h1 h2
  refine Xn (fun hc=>Zd J5 (fun b hb=>?_)) (fun _=>Zg)
  split
  ·exact Zq ⟨Yx,Y6 hP,base2 (by rw[h1,h2,Yj3 hc.1 hc.2.1 hc.2.2 hb]) ⟨_,_,h1,h2⟩⟩
  ·exact Zq ⟨Yx,Y6 hP,base2 (by rw[h1,h2,Ykl hc.1 hc.2.1 hc.2.2 hb]) ⟨_,_,h1,h2⟩⟩
  ·exact Zg
 ·rename_i hy
  split
  all_goals first
   | exact Zgy hP
   | (
     rename_i hx
     refine Xn (fun he=>Zd Zgb (fun rows hr=>Zd Zy (fun _ hn=>?_))) (fun _=>Zg)
     obtain⟨r,l,rfl⟩:=List.exists_cons_of_ne_nil hn
     have hf:¬(Xp P t).isSome=false:=by rw[he];decide
     split
     ·exact Zq ⟨Yx,Y6 hP,by simp only[Yj,hx,hy];rw[if_neg hf];rw[hx] at hr;rw[hr]⟩
     ·exact Zq ⟨Yx,Y6 hP,by simp only[Yj,hx,hy];rw[if_neg hf];rw[hx] at hr;rw[hr]⟩
     ·exact Zg)
 ·exact Zgy hP
theorem Z7d (hP:FuncsOk P) {f:Operand→V} {s:St} {k:Nat} {d:Option Tmp} {ty t:TypeId} {pos:String} {af:Array Edge} {g:Option (Nat×Bool)} {n:Nat} {parts:Array (Nat×Operand)}:KP (opK P M f s k ⟨d,.buildSlice t n parts,ty,pos,af,g⟩) (OpOk P M f s k ⟨d,.buildSlice t n parts,ty,pos,af,g⟩):=by
 simp only[opK]
 refine Zd J5 (fun e he=>Zd J5 (fun z hz=>Xn (fun _=>Zg) (fun hc=>Zd J5 (fun cs hcs=>Zd Ycw (fun y hy=>Zq ⟨Yx,Y6 hP,?_⟩)))))
 simp only[Yj,he,Option.bind_some,hz]
 rw[if_neg hc,hcs,Option.bind_some,hy]
 rfl
theorem Ynk (hP:FuncsOk P) {f:Operand→V} {s:St} {k:Nat} {d:Option Tmp} {ty:TypeId} {pos:String} {af:Array Edge} {g:Option (Nat×Bool)} {c a b:Operand}:KP (opK P M f s k ⟨d,.pick c a b,ty,pos,af,g⟩) (OpOk P M f s k ⟨d,.pick c a b,ty,pos,af,g⟩):=by
 simp only[opK]
 split
 ·rename_i t hc
  refine Zd Yce (fun e he=>?_)
  subst he
  cases t with
  | true=>exact Zq ⟨Yx,Y6 hP,by simp only[Yj,hc,if_true]⟩
  | false=>exact Zq ⟨Yx,Y6 hP,by simp only[Yj,hc,Bool.false_eq_true,if_false]⟩
 ·exact Zg
theorem Yaa (hP:FuncsOk P) {f:Operand→V} {s:St} {k:Nat} {d:Option Tmp} {ty t:TypeId} {pos:String} {af:Array Edge} {g:Option (Nat×Bool)} {x ix:Operand}:KP (opK P M f s k ⟨d,.indexAddr t x ix,ty,pos,af,g⟩) (OpOk P M f s k ⟨d,.indexAddr t x ix,ty,pos,af,g⟩):=by
 simp only[opK]
 refine Zd J5 (fun e he=>Xn (fun _=>Zg) (fun hz=>Zd W8 (fun o _=>?_)))
 split
 ·rename_i n r
  refine Xn (fun hr=>Zd Zy (fun _ hn=>?_)) (fun _=>Zg)
  split
  ·rename_i i off len hx
   refine Zd Zy (fun _ hlt=>?_)
   split
   ·rename_i b hb
    refine Zd Zy (fun _ hrow=>Zq ⟨Yx,Y6 hP,?_⟩)
    rw[Ygb] at hrow ⊢
    simp only[Yj,he,Option.bind_some,hz,if_false,hn,hx,hlt,if_true,hb,hrow,hr]
   ·exact Zg
  ·rename_i rows hx
   refine Zd Zy (fun _ hrow=>Zq ⟨Yx,Y6 hP,?_⟩)
   simp only[Yj,he,Option.bind_some,hz,if_false,hn,hx,if_true,hrow,hr]
  ·rename_i rows hx
   refine Zd Zy (fun _ hrow=>Zq ⟨Yx,Y6 hP,?_⟩)
   simp only[Yj,he,Option.bind_some,hz,if_false,hn,hx,if_true,hrow,hr]
  ·exact Zg
 ·exact Zg
theorem Yl6 (hP:FuncsOk P) {f:Operand→V} {s:St} {k:Nat} {d:Option Tmp} {ty t:TypeId} {pos:String} {af:Array Edge} {g:Option (Nat×Bool)} {a:Operand}:KP (opK P M f s k ⟨d,.load t a,ty,pos,af,g⟩) (OpOk P M f s k ⟨d,.load t a,ty,pos,af,g⟩):=by
 simp only[opK]
 split
 ·rename_i i j n ha
  split
  ·rename_i b hb
   split
   ·exact Zgy hP
   ·refine Zd W8 (fun o _=>?_)
    split
    ·rename_i row
     refine Zd Zy (fun _ hrow=>Xn (fun hl=>Zd J5 (fun v hv=>Zq ⟨Yx,Y6 hP,?_⟩)) (fun _=>Zg))
     simp only[Yj,ha,hb,Option.bind_some,hrow,hl,if_true,hv,Option.map_some]
    ·exact Zg
  ·exact Zg
 ·exact Zgy hP
theorem Ykb (hP:FuncsOk P) {f:Operand→V} {s:St} {k:Nat} {d:Option Tmp} {ty t:TypeId} {pos:String} {af:Array Edge} {g:Option (Nat×Bool)} {a x:Operand}:KP (opK P M f s k ⟨d,.store t a x,ty,pos,af,g⟩) (OpOk P M f s k ⟨d,.store t a x,ty,pos,af,g⟩):=by
 simp only[opK]
 split
 ·rename_i i j n ha
  split
  ·rename_i b hb
   split
   ·exact Zgy hP
   ·rename_i hbx
    refine Zd W8 (fun o _=>?_)
    split
    ·rename_i row R
     refine Zd Zy (fun _ hrow=>Zd J5 (fun cs hcs=>Xn (fun hc=>Zd Yb1 (fun y hy=>?_)) (fun _=>Zg)))
     split
     ·rename_i b2 hb2
      refine Zd Zy (fun _ hR=>Zq ⟨Yx,Y6 hP,?_⟩)
      have hc':b.own=true∧cs.length=Zj P t∧n+Zj P t≤row.length∧Zj P t≠0:=hc
      simp only[Yj,ha,hb,Option.bind_some,hrow,hcs]
      rw[if_pos hc',hbx]
      simp only[Bool.false_eq_true,if_false,hy,Option.bind_some,hb2,hR]
     ·exact Zg
    ·exact Zg
  ·exact Zg
 ·exact Zg
def Yb3 (x:V) (l h:Nat):Option V:=match x with
 | .sl id off _=>some (.sl id (off+l) (h - l))
 | .tr rows=>some (.tr ((rows.drop l).take (h - l)))
 | .vw rows=>some (.vw ((rows.drop l).take (h - l)))
 | _=>none
theorem Zxh {s:St} {t e:TypeId} {x:V} {rows:List (List V)} {lo hi:Option Operand} {f:Operand→V} {l h:Nat} (he:Xp P t=some e) (hr:s.rowsOf x=some rows) (hl:match lo with|some z=>Wx (f z)=some l|none=>l=0) (hh:match hi with|some z=>Wx (f z)=some h|none=>rows.length=h)
  (h1:l≤h∧h≤rows.length) (h2:Zgw (Zj P e) rows=true) (h3:Zj P e≠0):Zl8 P s t x (lo.map f) (hi.map f)=Yb3 x l h:=by
 have key:∀(a b:Option Nat),a=some l→b=some h→(a.bind fun l=>b.bind fun h=>if l≤h∧h≤rows.length∧Zgw (Zj P e) rows=true∧Zj P e≠0 then Yb3 x l h else none)=Yb3 x l h:=by
  rintro _ _ rfl rfl
  simp only[Option.bind_some]
  rw[if_pos ⟨h1.1,h1.2,h2,h3⟩]
 unfold Zl8
 rw[he,Option.bind_some,hr,Option.bind_some]
 refine key _ _ ?_ ?_
 ·cases lo with
  | none=>simp only at hl;rw[hl];rfl
  | some z=>exact hl
 ·cases hi with
  | none=>simp only at hh;rw[←hh];rfl
  | some z=>exact hh
theorem Ykg (hP:FuncsOk P) {f:Operand→V} {s:St} {k:Nat} {d:Option Tmp} {ty t:TypeId} {pos:String} {af:Array Edge} {g:Option (Nat×Bool)} {x:Operand} {lo hi mx:Option Operand}:KP (opK P M f s k ⟨d,.slice t x lo hi mx,ty,pos,af,g⟩) (OpOk P M f s k ⟨d,.slice t x lo hi mx,ty,pos,af,g⟩):=by
 cases mx with
 | some m=>exact Zgy hP
 | none=>
  simp only[opK]
  split
  ·rename_i id off len hx
   refine Zd W8 (fun o _=>?_)
   split
   ·rename_i l h n R
    refine Zd J5 (fun e he=>Zd Zgb (fun rows hr=>Zd Zy (fun _ hl=>Zd Zy (fun _ hh=>Zd Zy (fun _ h1=>Zd Zy (fun _ h2=>Zd Zy (fun _ h4=>Xn (fun h3=>Zq ⟨Yx,Y6 hP,?_⟩) (fun _=>Zg))))))))
    simp only[Yj,Zxh he hr hl hh h1 h2 h3]
    rw[hx,h4,Ygb]
    rfl
   ·exact Zg
  ·rename_i rws hx
   refine Zd W8 (fun o _=>?_)
   split
   ·rename_i l h n R
    refine Zd J5 (fun e he=>Zd Zgb (fun rows hr=>Zd Zy (fun _ hl=>Zd Zy (fun _ hh=>Zd Zy (fun _ h1=>Zd Zy (fun _ h2=>Zd Zy (fun _ h4=>Xn (fun h3=>Zq ⟨Yx,Y6 hP,?_⟩) (fun _=>Zg))))))))
    simp only[Yj,Zxh he hr hl hh h1 h2 h3]
    rw[hx] at hr ⊢
    have:rws=rows:=by simpa [St.rowsOf] using hr
    rw[←h4,←this]
    rfl
   ·exact Zg
  ·rename_i rws hx
   refine Zd W8 (fun o _=>?_)
   split
   ·rename_i l h n R
    refine Zd J5 (fun e he=>Zd Zgb (fun rows hr=>Zd Zy (fun _ hl=>Zd Zy (fun _ hh=>Zd Zy (fun _ h1=>Zd Zy (fun _ h2=>Zd Zy (fun _ h4=>Xn (fun h3=>Zq ⟨Yx,Y6 hP,?_⟩) (fun _=>Zg))))))))
    simp only[Yj,Zxh he hr hl hh h1 h2 h3]
    rw[hx] at hr ⊢
    have:rws=rows:=by simpa [St.rowsOf] using hr
    rw[←h4,←this]
    rfl
   ·exact Zg
  ·exact Zgy hP
theorem Z98 (hP:FuncsOk P) {f:Operand→V} {s:St} {k:Nat} {d:Option Tmp} {ty t:TypeId} {pos:String} {af:Array Edge} {g:Option (Nat×Bool)} {l c:Operand}:KP (opK P M f s k ⟨d,.makeSlice t l c,ty,pos,af,g⟩) (OpOk P M f s k ⟨d,.makeSlice t l c,ty,pos,af,g⟩):=by
 simp only[opK]
 refine Zd W8 (fun o _=>?_)
 split
 ·rename_i n R
  refine Zd J5 (fun e he=>Zd J5 (fun z hz=>Zd Zy (fun _ hl=>Zd Zy (fun _ hc=>Zd Zy (fun _ h1=>Zd Zy (fun _ hR=>Xn (fun h2=>Zq ⟨Yx,Y6 hP,?_⟩) (fun _=>Zg)))))))
  simp only[Yj,he,hz,Option.bind_some,hl,hc]
  rw[if_pos ⟨by trivial,h1.1,h1.2,h2.1,h2.2⟩,hR,←hR,List.length_replicate]
 ·exact Zg
theorem Ymm (hP:FuncsOk P) {f:Operand→V} {s:St} {k:Nat} {d:Option Tmp} {ty:TypeId} {pos:String} {af:Array Edge} {g:Option (Nat×Bool)} {c:Call}:KP (opK P M f s k ⟨d,.call c,ty,pos,af,g⟩) (OpOk P M f s k ⟨d,.call c,ty,pos,af,g⟩):=by
 simp only[opK]
 split
 ·rename_i x hc
  split
  ·rename_i h caps hx
   refine (Ymb hP).mono fun y ⟨C,h1,h2⟩=>⟨C,h1,?_⟩
   simp only[Yj,hc,hx,h2]
  ·exact Zg
 ·rename_i hc
  split
  ·rename_i b x t t' ha ht
   refine Xn (fun he=>Yn9.kp.mono fun y hy=>⟨Yx,Y6 hP,?_⟩) (fun _=>Zg)
   simp only[Yj,hc,ha,ht,he,if_true]
   rw[←he];exact hy
  ·exact Zg
 ·rename_i hc
  split
  ·rename_i x t ha ht
   split
   ·rename_i i off n hx
    refine Zd W8 (fun o _=>?_)
    split
    ·refine Zd Zy (fun _ hn=>Xn (fun he=>Zq ⟨Yx,Y6 hP,?_⟩) (fun _=>Zg))
     simp only[Yj,hc,ha,ht,hx,he,if_true,hn]
    ·exact Zg
   ·rename_i rows hx
    refine Zd W8 (fun o _=>?_)
    split
    ·refine Zd Zy (fun _ hn=>Xn (fun he=>Zq ⟨Yx,Y6 hP,?_⟩) (fun _=>Zg))
     simp only[Yj,hc,ha,ht,hx,he,if_true,hn]
    ·exact Zg
   ·rename_i rows hx
    refine Zd W8 (fun o _=>?_)
    split
    ·refine Zd Zy (fun _ hn=>Xn (fun he=>Zq ⟨Yx,Y6 hP,?_⟩) (fun _=>Zg))
     simp only[Yj,hc,ha,ht,hx,he,if_true,hn]
    ·exact Zg
   ·exact Zgy hP
  ·exact Zg
 ·rename_i hc
  split
  ·rename_i x t ha ht
   refine Zd J5 (fun e he=>Zd J5 (fun z hz=>?_))
   split
   ·rename_i i off n hx
    split
    ·rename_i b hb
     refine Zd W8 (fun o _=>?_)
     split
     ·refine Xn (fun h=>Zd Zy (fun _ h1=>Zd Zy (fun _ h2=>Zq ⟨Yx,Y6 hP,?_⟩))) (fun _=>Zg)
      simp only[Yj,hc,ha,ht,hx,he,hz,hb,Option.bind_some]
      rw[if_pos ⟨h.1,h.2.1,h1,h.2.2.1,h.2.2.2.1,h.2.2.2.2⟩,h2]
     ·exact Zg
    ·exact Zg
   ·exact Zg
  ·exact Zg
 ·exact Zgy hP
theorem Yk2 (hP:FuncsOk P) {f:Operand→V} {s:St} {k:Nat} {o:Oper}:KP (opK P M f s k o) (OpOk P M f s k o):=by
 obtain⟨d,op,ty,pos,af,g⟩:=o
 cases op with
 | binOp op t x y yt=>exact Yjp hP
 | pick c a b=>exact Ynk hP
 | buildSlice t n parts=>exact Z7d hP
 | indexAddr t x ix=>exact Yaa hP
 | load t a=>exact Yl6 hP
 | store t a x=>exact Ykb hP
 | slice t x lo hi mx=>exact Ykg hP
 | makeSlice t l c=>exact Z98 hP
 | call c=>exact Ymm hP
 | _=>simp only[opK];exact Zgy hP
def Z5p (s:St) (ops:Array Oper) (o:Oper):KM (Bool×St):=
 match o.guard with
 | none=>ret (true,s)
 | some (j,b)=>match (ops[j]?).bind (·.dst) with
  | some d=>match s.env d with
   | .lit (.bool c)=>bnd hear fun o=>match o with
    | .t e=>bnd (obl (c=e)) fun _=>ret (e == b,⟨upd s.env d (.lit (.bool e)),s.heap,s.ep⟩)
    | .k=>ret (c == b,s)
    | _=>fail
   | .tup []=>ret (false,s)
   | _=>fail
  | none=>fail
theorem Z88 {s:St} {ops:Array Oper} {o:Oper}:KP (Z5p s ops o) (fun y=>wanted s ops o=some y.1∧y.2=s):=by
 unfold Z5p wanted
 cases o.guard with
 | none=>exact Zq ⟨rfl,rfl⟩
 | some p=>
  obtain⟨j,b⟩:=p
  simp only
  cases hd:(ops[j]?).bind (·.dst) with
  | none=>exact Zg
  | some d=>
   simp only[Option.map_some]
   cases he:s.env d with
   | lit v=>cases v with
    | bool c=>
     refine Zd W8 (fun q _=>?_)
     cases q with
     | t e=>
      refine Zd Zy (fun _ hc=>Zq ⟨by subst hc;rfl,?_⟩)
      have:upd s.env d (.lit (.bool e))=s.env:=by
       funext t
       unfold upd
       split
       ·rename_i h;rw[h,he,hc]
       ·rfl
      rw[this]
     | k=>exact Zq ⟨rfl,rfl⟩
     | _=>exact Zg
    | _=>exact Zg
   | tup l=>cases l with
    | nil=>exact Zq ⟨rfl,rfl⟩
    | cons x l=>exact Zg
   | _=>exact Zg
def opsK (P:Program) (M:Hints) (ops:Array Oper):(k:Nat)→List Oper→(s:St)→KM St
 | _,[],s=>ret s
 | k,o::rest,s=>bnd (Z5p s ops o) fun g=>if g.1 then bnd (opK P M g.2.opV g.2 k o) fun y=>opsK P M ops (k+1) rest (y.2.put o.dst y.1) else opsK P M ops (k+1) rest (g.2.put o.dst (.tup []))
theorem Yfv {C C':Nat→X9} {ops:Array Oper}:∀(l:List Oper) {k:Nat} {s:St},(∀j,k≤j→C j=C' j)→Zeg P M C ops s k l=Zeg P M C' ops s k l:=by
 intro l
 induction l with
 | nil=>intros;rfl
 | cons o l ih=>
  intro k s h
  simp only[Zeg,h k (Nat.le_refl _)]
  simp only[fun s=>ih (k:=k+1) (s:=s) (fun j hj=>h j (by omega))]
theorem Ybm {C C':Nat→X9} {ops:Array Oper}:∀(l:List Oper) {k:Nat} {s:St} {recs:List Rec},(∀j,k≤j→C j=C' j)→J8 P M C ops s recs k l=J8 P M C' ops s recs k l:=by
 intro l
 induction l with
 | nil=>intros;rfl
 | cons o l ih=>
  intro k s recs h
  simp only[J8,h k (Nat.le_refl _)]
  simp only[fun s recs=>ih (k:=k+1) (s:=s) (recs:=recs) (fun j hj=>h j (by omega))]
def setC (C:Nat→X9) (k:Nat) (D:X9):Nat→X9:=fun j=>if j=k then D else C j
theorem Yob (hP:FuncsOk P) {ops:Array Oper}:∀(l:List Oper) {k:Nat} {s:St},KP (opsK P M ops k l s) (fun s'=>∃C:Nat→X9,(∀j,Zcn P M (C j))∧Zeg P M C ops s k l=some s'):=by
 intro l
 induction l with
 | nil=>intro k s;exact Zq ⟨fun _=>Yx,fun _=>Y6 hP,rfl⟩
 | cons o l ih=>
  intro k s
  simp only[opsK,Zeg]
  refine Zd Z88 (fun g hg=>?_)
  obtain⟨g,s0⟩:=g
  obtain⟨hg,hs0⟩:=hg
  simp only at hg hs0
  subst hs0
  cases g with
  | true=>
   simp only[if_true]
   refine Zd (Yk2 hP) (fun y hy=>ih.mono fun s' ⟨C,h1,h2⟩=>?_)
   obtain⟨D,d1,d2⟩:=hy
   refine⟨setC C k D,fun j=>?_,?_⟩
   ·unfold setC;split
    ·exact d1
    ·exact h1 j
   ·rw[hg]
    simp only[Option.bind_some,if_true,setC]
    unfold evOp
    rw[d2,Option.bind_some,←h2]
    exact Yfv l (fun j hj=>by simp only[setC];rw[if_neg (by omega)])
  | false=>
   simp only[Bool.false_eq_true,if_false]
   refine ih.mono fun s' ⟨C,h1,h2⟩=>⟨C,h1,?_⟩
   rw[hg]
   exact h2
def Z5n (P:Program) (M:Hints) (ops:Array Oper):(recs:List Rec)→(k:Nat)→List Oper→(s:St)→KM St
 | _,_,[],s=>ret s
 | recs,k,o::rest,s=>bnd (Z5p s ops o) fun g=>if g.1 then (if Zjl ops g.2.ep recs (Zo7 recs o) k o (touch g.2 o) (Zij M g.2.opV o)=true then
   bnd (opK P M g.2.opV (g.2.only (touch g.2 o)) k o) fun y=>Z5n P M ops (recs++[⟨Zo7 recs o,touch g.2 o,Zij M g.2.opV o⟩]) (k+1) rest ((g.2.merge k (touch g.2 o) (Zij M g.2.opV o) y.2).put o.dst y.1) else fail)
  else if Zjl ops g.2.ep recs (Zo7 recs o) k o [] false=true then Z5n P M ops (recs++[⟨Zo7 recs o,[],false⟩]) (k+1) rest (g.2.put o.dst (.tup [])) else fail
theorem Yn0 (hP:FuncsOk P) {ops:Array Oper}:∀(l:List Oper) {k:Nat} {s:St} {recs:List Rec},KP (Z5n P M ops recs k l s) (fun s'=>∃C:Nat→X9,(∀j,Zcn P M (C j))∧J8 P M C ops s recs k l=some s'):=by
 intro l
 induction l with
 | nil=>intro k s recs;exact Zq ⟨fun _=>Yx,fun _=>Y6 hP,rfl⟩
 | cons o l ih=>
  intro k s recs
  simp only[Z5n,J8]
  refine Zd Z88 (fun g hg=>?_)
  obtain⟨g,s0⟩:=g
  obtain⟨hg,hs0⟩:=hg
  simp only at hg hs0
  subst hs0
  cases g with
  | true=>
   simp only[if_true]
   refine Xn (fun ha=>Zd (Yk2 hP) (fun y hy=>ih.mono fun s' ⟨C,h1,h2⟩=>?_)) (fun _=>Zg)
   obtain⟨D,d1,d2⟩:=hy
   refine⟨setC C k D,fun j=>?_,?_⟩
   ·unfold setC;split
    ·exact d1
    ·exact h1 j
   ·rw[hg]
    simp only[Option.bind_some,if_true,setC,ha]
    rw[d2,Option.bind_some,←h2]
    exact Ybm l (fun j hj=>by simp only[setC];rw[if_neg (by omega)])
  | false=>
   simp only[Bool.false_eq_true,if_false]
   refine Xn (fun ha=>ih.mono fun s' ⟨C,h1,h2⟩=>⟨C,h1,?_⟩) (fun _=>Zg)
   rw[hg]
   simp only[Option.bind_some,Bool.false_eq_true,if_false,ha,if_true]
   exact h2
end
inductive It where
 | c (x:Code)
 | blk (i:Nat)
def SX (P:Program) (R:Ex→St→Prop):List It→Ex→St→Prop
 | [],e,s=>R e s
 | .c x::k,.normal,s=>Cx P x s (fun e s=>SX P R k e s)
 | .c x::k,.ret,s=>SX P R k .ret s
 | .c x::k,.exit j,s=>SX P R k (.exit j) s
 | .blk i::k,.exit j,s=>if j=i then SX P R k .normal s else SX P R k (.exit j) s
 | .blk i::k,.normal,s=>SX P R k .normal s
 | .blk i::k,.ret,s=>SX P R k .ret s
structure Res where
 stk:List It
 ex:Ex
 st:St
def mach (P:Program) (M:Hints):(n:Nat)→List It→Ex→(s:St)→KM Res
 | 0,stk,ex,s=>ret ⟨stk,ex,s⟩
 | n+1,stk,ex,s=>match stk with
  | []=>ret ⟨[],ex,s⟩
  | .blk i::k=>match ex with
   | .exit j=>if j=i then mach P M n k .normal s else mach P M n k (.exit j) s
   | .normal=>mach P M n k .normal s
   | .ret=>mach P M n k .ret s
  | .c x::k=>match ex with
   | .ret=>mach P M n k .ret s
   | .exit j=>mach P M n k (.exit j) s
   | .normal=>match x with
    | .skip=>mach P M n k .normal s
    | .ret=>mach P M n k .ret s
    | .exit i=>mach P M n k (.exit i) s
    | .seq a b=>mach P M n (.c a::.c b::k) .normal s
    | .cond c a b=>match s.opV c with
     | .lit (.bool t)=>bnd (Yad t) fun e=>if e then mach P M n (.c a::k) .normal s else mach P M n (.c b::k) .normal s
     | _=>fail
    | .block i c=>mach P M n (.c c::.blk i::k) .normal s
    | .loop c=>mach P M n (.c c::.c (.loop c)::k) .normal s
    | .region _ ops d=>match d with
     | false=>bnd (opsK P M ops 0 ops.toList ⟨s.env,s.heap,s.ep+1⟩) fun s'=>mach P M n k .normal s'
     | true=>if Region.noSelect ops=true then bnd (Z5n P M ops [] 0 ops.toList ⟨s.env,s.heap,s.ep+1⟩) fun s'=>mach P M n k .normal s' else fail
    | _=>fail
section
variable {P:Program} {M:Hints} {R:Ex→St→Prop}
theorem Yof (M:Hints) (hP:FuncsOk P) {k:List It} {S:St} {i:Nat} {d0 d1:Tmp} {x0 y:Operand} {t yt e ty0 ty1:TypeId} {p0 p1:String} {af0 af1:Array Edge} (hte:Xp P t=some e) (hx:S.opV x0=.tr []) (hy:(({S with ep:=S.ep+1}:St).put (some d0) (.tr [])).opV y=.lit (.slice none 0 0))
  (h:∀b,SX P R k .normal ((({S with ep:=S.ep+1}:St).put (some d0) (.tr [])).put (some d1) (.lit (.bool b)))):
  SX P R (.c (.region i #[⟨some d0,.move x0,ty0,p0,af0,none⟩,⟨some d1,.binOp .eql t (.tmp d0) y yt,ty1,p1,af1,none⟩] false)::k) .normal S:=
 Yot M hP (R:=fun e s=>SX P R k e s) hte hx hy h
def Yk5:List It→Option (Operand×Tmp×Tmp×TypeId×Operand×List It)
 | .c (.region _ ops false)::k=>match ops.toList with
  | [⟨some d0,.move x0,_,_,_,none⟩,⟨some d1,.binOp .eql t (.tmp d) y _,_,_,_,none⟩]=>if d=d0 then some (x0,d0,d1,t,y,k) else none
  | _=>none
 | _=>none
theorem Zyu (M:Hints) (hP:FuncsOk P) {stk k:List It} {S:St} {d0 d1:Tmp} {x0 y:Operand} {t e:TypeId} (hs:Yk5 stk=some (x0,d0,d1,t,y,k)) (hte:Xp P t=some e) (hx:S.opV x0=.tr []) (hy:(({S with ep:=S.ep+1}:St).put (some d0) (.tr [])).opV y=.lit (.slice none 0 0))
  (h:∀b,SX P R k .normal ((({S with ep:=S.ep+1}:St).put (some d0) (.tr [])).put (some d1) (.lit (.bool b)))):SX P R stk .normal S:=by
 unfold Yk5 at hs
 split at hs
 ·rename_i i ops k'
  split at hs
  ·rename_i c0 z0 ty0 p0 af0 c1 u d z yt ty1 p1 af1 hl
   split at hs
   ·rename_i hd
    simp only[Option.some.injEq,Prod.mk.injEq] at hs
    obtain⟨rfl,rfl,rfl,rfl,rfl,rfl⟩:=hs
    subst hd
    obtain rfl:ops=#[⟨some d,.move z0,ty0,p0,af0,none⟩,⟨some c1,.binOp .eql u (.tmp d) z yt,ty1,p1,af1,none⟩]:=by
     apply Array.toList_inj.1;rw[hl]
    exact Yof M hP hte hx hy h
   ·cases hs
  ·cases hs
 ·cases hs
theorem Ype (hP:FuncsOk P):∀(n:Nat) {stk:List It} {ex:Ex} {s:St},KP (mach P M n stk ex s) (fun r=>SX P R r.stk r.ex r.st→SX P R stk ex s):=by
 intro n
 induction n with
 | zero=>intro stk ex s;exact Zq id
 | succ n ih=>
  intro stk ex s
  simp only[mach]
  split
  ·exact Zq id
  ·rename_i i k
   split
   ·rename_i j
    refine Xn (fun hj=>ih.mono fun r hr h=>?_) (fun hj=>ih.mono fun r hr h=>?_)
    ·simp only[SX];rw[if_pos hj];exact hr h
    ·simp only[SX];rw[if_neg hj];exact hr h
   ·exact ih.mono fun r hr h=>hr h
   ·exact ih.mono fun r hr h=>hr h
  ·rename_i x k
   split
   ·exact ih.mono fun r hr h=>hr h
   ·exact ih.mono fun r hr h=>hr h
   ·split
    ·exact ih.mono fun r hr h=>Yoj (hr h)
    ·exact ih.mono fun r hr h=>Cx_ret (hr h)
    ·exact ih.mono fun r hr h=>Yoe (hr h)
    ·refine ih.mono fun r hr h=>Cx_seq (Z7m (hr h) fun e s h=>?_)
     cases e<;>exact h
    ·rename_i c a b
     split
     ·rename_i t hc
      refine Zd Yce (fun e he=>?_)
      subst he
      cases t with
      | true=>exact ih.mono fun r hr h=>Ygd hc (hr h)
      | false=>exact ih.mono fun r hr h=>Ygd hc (hr h)
     ·exact Zg
    ·rename_i i c
     refine ih.mono fun r hr h=>Ym1 (Z7m (hr h) fun e s h=>?_)
     cases e<;>exact h
    ·rename_i c
     refine ih.mono fun r hr h=>Yoa (Z7m (hr h) fun e s h=>?_)
     cases e<;>exact h
    ·rename_i i ops d
     split
     ·refine Zd (Yob hP _) (fun s' hs=>ih.mono fun r hr h=>?_)
      obtain⟨C,h1,h2⟩:=hs
      exact Cx_ops hP C h1 h2 (hr h)
     ·refine Xn (fun hn=>Zd (Yn0 hP _) (fun s' hs=>ih.mono fun r hr h=>?_)) (fun _=>Zg)
      obtain⟨C,h1,h2⟩:=hs
      exact Yoq hP C h1 hn h2 (hr h)
    ·exact Zg
theorem Yc2 (hP:FuncsOk P) (n:Nat) {stk:List It} {ex:Ex} {s:St}:KP (mach P M n stk ex s) (fun r=>∀R,SX P R r.stk r.ex r.st→SX P R stk ex s):=fun q a obs q' e ho R=>Ype hP n q a obs q' e ho
def endK (P:Program) (M:Hints) (f:FuncId) (fn:Func) (xs:List V) (r:Res):KM (V×List V):=match r.stk with
 | []=>match r.ex with
  | .exit _=>fail
  | .normal=>retK P M f fn xs r.st
  | .ret=>retK P M f fn xs r.st
 | _=>fail
def runK (P:Program) (M:Hints) (f:FuncId) (fn:Func) (xs:List V) (n:Nat) (stk:List It) (s:St):KM (V×List V):=
 bnd (mach P M n stk .normal s) (endK P M f fn xs)
theorem Ypl (hP:FuncsOk P) {f:FuncId} {fn:Func} {xs:List V} {n:Nat} {stk:List It} {s:St}:KP (runK P M f fn xs n stk s) (fun y=>SX P (RetC P M f fn xs y) stk .normal s):=by
 refine Zd (Yc2 hP n) (fun r hr=>?_)
 obtain⟨st,ex,s1⟩:=r
 unfold endK
 cases st with
 | cons x l=>exact Zg
 | nil=>cases ex with
  | exit i=>exact Zg
  | normal=>exact Ygg.kp.mono fun y hy=>hr _ ⟨trivial,hy⟩
  | ret=>exact Ygg.kp.mono fun y hy=>hr _ ⟨trivial,hy⟩
def told {α:Type} (x:Option (α×List Prop×List O)):Option (Prop×α):=match x with|some (a,obs,[])=>some (All obs,a)|_=>none
theorem Ygf {α:Type} {x:KM α} {q:List O} {Q:α→Prop} {p:Prop} {a:α} (h:KP x Q) (e:told (x q)=some (p,a)) (hp:p):Q a:=by
 unfold told at e
 split at e
 ·rename_i b obs hx
  injection e with e
  injection e with e1 e2
  subst e2
  exact h q _ _ _ hx (by rw[e1];exact hp)
 ·cases e
theorem Ygj (hP:FuncsOk P) {f:FuncId} {fn:Func} {xs:List V} {y:V×List V} {stk:List It} {s:St} {p:Prop} (n:Nat) (q:List O) (hp:p) (e:told (runK P M f fn xs n stk s q)=some (p,y)):SX P (RetC P M f fn xs y) stk .normal s:=
 Ygf (x:=runK P M f fn xs n stk s) (Q:=fun y=>SX P (RetC P M f fn xs y) stk .normal s) (Ypl hP) e hp
def ren1 (f:List (Id×Id)):V→V
 | .ptr id i off=>match renI f id with|some id'=>.ptr id' i off|none=>.undef
 | .sl id off len=>match renI f id with|some id'=>.sl id' off len|none=>(match off,len with|0,0=>.lit (.slice none 0 0)|_,_=>.undef)
 | .lit v=>.lit v
 | .tr rows=>.tr rows
 | .vw rows=>.vw rows
 | .rp sh row off=>.rp sh row off
 | _=>.undef
def renV (f:List (Id×Id)):V→V
 | .agg xs=>.agg (xs.map (ren1 f))
 | .tup xs=>.tup (xs.map (ren1 f))
 | .fn g xs=>.fn g (xs.map (ren1 f))
 | x=>ren1 f x
theorem Z7b {f:List (Id×Id)} {x:V} (h:ren1 f x≠.undef∨x=.undef):VR1 f x (ren1 f x):=by
 cases x with
 | undef=>trivial
 | ptr id i off=>
  simp only[ren1] at h ⊢
  split
  ·rename_i id' hr;exact⟨hr,rfl,rfl⟩
  ·rename_i hr;rw[hr] at h;simp at h
 | sl id off len=>
  simp only[ren1] at h ⊢
  split
  ·rename_i id' hr;exact⟨hr,rfl,rfl⟩
  ·rename_i hr
   rw[hr] at h
   simp only at h
   split
   ·exact⟨hr,rfl,rfl⟩
   ·rename_i hne
    exfalso
    split at h
    ·rename_i h1 h2;exact hne rfl rfl
    ·simp at h
 | lit v=>rfl
 | tr rows=>rfl
 | vw rows=>rfl
 | rp sh row off=>rfl
 | agg _=>simp[ren1] at h
 | tup _=>simp[ren1] at h
 | fn _ _=>simp[ren1] at h
 | own _ _=>simp[ren1] at h
 | obx _=>simp[ren1] at h
def okV:V→Bool|.undef=>false|_=>true
theorem okV_ne {x:V} (h:okV x=true):x≠.undef:=by rintro rfl;cases h
theorem Z1k {f:List (Id×Id)}:∀{xs:List V},(xs.map (ren1 f)).all okV=true→VRs f xs (xs.map (ren1 f)):=by
 intro xs
 induction xs with
 | nil=>intro _;trivial
 | cons x xs ih=>
  intro h
  simp only[List.map_cons,List.all_cons,Bool.and_eq_true] at h
  exact⟨Z7b (.inl (okV_ne h.1)),ih h.2⟩
def okVs:V→Bool
 | .agg xs|.tup xs|.fn _ xs=>xs.all okV
 | x=>okV x
theorem Ypr {f:List (Id×Id)} {x:V} (h:okVs (renV f x)=true):VR f x (renV f x):=by
 cases x with
 | agg xs=>exact Z1k h
 | tup xs=>exact Z1k h
 | fn g xs=>exact⟨rfl,Z1k h⟩
 | undef=>trivial
 | lit v=>rfl
 | tr rows=>rfl
 | vw rows=>rfl
 | rp sh row off=>rfl
 | own e rows=>cases h
 | obx cs=>cases h
 | ptr id i off=>exact Z7b (x:=.ptr id i off) (.inl fun e=>by have h2:okVs (ren1 f (.ptr id i off))=true:=h;rw[e] at h2;cases h2)
 | sl id off len=>exact Z7b (x:=.sl id off len) (.inl fun e=>by have h2:okVs (ren1 f (.sl id off len))=true:=h;rw[e] at h2;cases h2)
def renB (f:List (Id×Id)) (p:Id×Blk):Option Blk:=match renI f p.1 with
 | none=>none
 | some _=>some ⟨p.2.box,p.2.own,p.2.cl,(if p.2.box then 0 else p.2.el),if p.2.box then p.2.rows.map (fun r=>r.map (ren1 f)) else p.2.rows⟩
def wasB (f:List (Id×Id)) (S:St) (p:Id×Blk):Option Blk:=match renI f p.1 with
 | none=>none
 | some id'=>(S.heap id').map fun c=>⟨c.box,c.own,c.cl,(if c.box then 0 else c.el),c.rows⟩
def newB (f:List (Id×Id)) (p:Id×Blk):Bool:=match renI f p.1 with
 | none=>!p.2.box&&p.2.own&&(match p.2.rows with|[]=>true|_=>false)
 | some _=>if p.2.box then (match p.2.rows with|[r]=>(r.map (ren1 f)).all okV|_=>false) else true
theorem Yo0 {f:List (Id×Id)} {S:St} {p:Id×Blk} (h:wasB f S p=renB f p) (hn:newB f p=true):BR f S p.1 p.2:=by
 obtain⟨id,b⟩:=p
 unfold BR
 unfold wasB renB at h
 unfold newB at hn
 simp only at h hn ⊢
 split
 ·rename_i hr
  rw[hr] at hn
  simp only[Bool.and_eq_true,Bool.not_eq_true'] at hn
  refine⟨hn.1.1,hn.1.2,?_⟩
  cases hb:b.rows with
  | nil=>rfl
  | cons x l=>rw[hb] at hn;simp at hn
 ·rename_i id' hr
  rw[hr] at h hn
  simp only at h hn
  obtain⟨c,h1,h2⟩:=Option.map_eq_some_iff.1 h
  injection h2 with e1 e2 e3 e4 e5
  refine⟨c,h1,e1,e2,e3,?_⟩
  cases hbx:b.box with
  | true=>
   rw[hbx] at hn e1 e5
   simp only[if_true] at hn e5 ⊢
   cases hb:b.rows with
   | nil=>rw[hb] at hn;cases hn
   | cons r l=>cases l with
    | cons r2 l=>rw[hb] at hn;cases hn
    | nil=>
     rw[hb] at hn e5
     exact⟨r,_,rfl,e5,Z1k hn⟩
  | false=>
   rw[hbx] at e1 e4 e5
   rw[e1] at e4
   simp only[Bool.false_eq_true,if_false] at e4 e5 ⊢
   exact⟨e4,e5⟩
def wasL (f:List (Id×Id)) (l:List (Nat×V)) (h:List (Id×Blk)) (S:St):List V×List (Option Blk):=(l.map fun p=>S.env p.1,h.map fun p=>wasB f S p)
def renL (f:List (Id×Id)) (l:List (Nat×V)) (h:List (Id×Blk)):List V×List (Option Blk):=(l.map fun p=>renV f p.2,h.map fun p=>renB f p)
def cutB (f:List (Id×Id)) (l:List (Nat×V)) (h:List (Id×Blk)) (ep:Nat):Bool:=wkB f l h ep&&(l.all fun p=>okVs (renV f p.2))&&h.all fun p=>newB f p
theorem Z4r {α β:Type} {g1 g2:α→β} {l:List α} (h:l.map g1=l.map g2):∀x∈l,g1 x=g2 x:=by
 induction l with
 | nil=>intro x hx;simp at hx
 | cons y l ih=>
  simp only[List.map_cons,List.cons.injEq] at h
  intro x hx
  rcases List.mem_cons.1 hx with rfl|hx
  ·exact h.1
  ·exact ih h.2 x hx
theorem Yph {f:List (Id×Id)} {l:List (Nat×V)} {h:List (Id×Blk)} {ep:Nat} {S:St} (e:wasL f l h S=renL f l h) (hb:cutB f l h ep=true):Weak f S l h ep:=by
 simp only[wasL,renL,Prod.mk.injEq] at e
 simp only[cutB,Bool.and_eq_true,List.all_eq_true] at hb
 refine⟨fun p hp=>?_,fun p hp=>Yo0 (Z4r e.2 p hp) (hb.2 p hp),hb.1.1⟩
 rw[Z4r e.1 p hp]
 exact Ypr (hb.1.2 p hp)
def len1:V→KM V
 | .sl id off len=>bnd hear fun o=>match o with
  | .num n _ _ _=>bnd (obl (len=n)) fun _=>ret (.sl id off n)
  | _=>fail
 | x=>ret x
theorem Ygk {x:V}:KP (len1 x) (fun y=>y=x):=by
 unfold len1
 split
 ·refine Zd W8 (fun o _=>?_)
  split
  ·exact Zd Zy (fun _ h=>Zq (by rw[h]))
  ·exact Zg
 ·exact Zq rfl
def lens:List V→KM (List V)
 | []=>ret []
 | x::xs=>bnd (len1 x) fun y=>bnd (lens xs) fun ys=>ret (y::ys)
theorem Z7v:∀{xs:List V},KP (lens xs) (fun ys=>ys=xs):=by
 intro xs
 induction xs with
 | nil=>exact Zq rfl
 | cons x xs ih=>exact Zd Ygk (fun y hy=>Zd ih (fun ys hys=>Zq (by rw[hy,hys])))
def lenV:V→KM V
 | .agg xs=>bnd (lens xs) fun ys=>ret (.agg ys)
 | .fn g xs=>bnd (lens xs) fun ys=>ret (.fn g ys)
 | x=>len1 x
theorem Ypp {x:V}:KP (lenV x) (fun y=>y=x):=by
 unfold lenV
 split
 ·exact Zd Z7v (fun y hy=>Zq (by rw[hy]))
 ·exact Zd Z7v (fun y hy=>Zq (by rw[hy]))
 ·exact Ygk
def Yh0 (S:St):List (Nat×V)→KM (List V)
 | []=>ret []
 | p::l=>bnd (lenV (S.env p.1)) fun y=>bnd (Yh0 S l) fun ys=>ret (y::ys)
theorem Yo2 {S:St}:∀{l:List (Nat×V)},KP (Yh0 S l) (fun ys=>ys=l.map fun p=>S.env p.1):=by
 intro l
 induction l with
 | nil=>exact Zq rfl
 | cons p l ih=>exact Zd Ypp (fun y hy=>Zd ih (fun ys hys=>Zq (by rw[hy,hys];rfl)))
def lenB:Option Blk→KM (Option Blk)
 | some ⟨true,own,cl,el,[row]⟩=>bnd (lens row) fun r=>ret (some ⟨true,own,cl,el,[r]⟩)
 | x=>ret x
theorem Ypc {x:Option Blk}:KP (lenB x) (fun y=>y=x):=by
 unfold lenB
 split
 ·exact Zd Z7v (fun r hr=>Zq (by rw[hr]))
 ·exact Zq rfl
def lenH (f:List (Id×Id)) (S:St):List (Id×Blk)→KM (List (Option Blk))
 | []=>ret []
 | p::l=>bnd (lenB (wasB f S p)) fun y=>bnd (lenH f S l) fun ys=>ret (y::ys)
theorem Yow {f:List (Id×Id)} {S:St}:∀{l:List (Id×Blk)},KP (lenH f S l) (fun ys=>ys=l.map fun p=>wasB f S p):=by
 intro l
 induction l with
 | nil=>exact Zq rfl
 | cons p l ih=>exact Zd Ypc (fun y hy=>Zd ih (fun ys hys=>Zq (by rw[hy,hys];rfl)))
def Yjs (f:List (Id×Id)) (l:List (Nat×V)) (h:List (Id×Blk)) (r:Res):KM (List It×List V×List (Option Blk)):=match r.ex with
 | .normal=>bnd (Yh0 r.st l) fun vs=>bnd (lenH f r.st h) fun bs=>ret (r.stk,vs,bs)
 | _=>fail
def cutK (P:Program) (M:Hints) (f:List (Id×Id)) (l:List (Nat×V)) (h:List (Id×Blk)) (n:Nat) (stk:List It) (s:St):KM (List It×List V×List (Option Blk)):=
 bnd (mach P M n stk .normal s) (Yjs f l h)
def isC:List It→Bool
 | .c _::_=>true
 | _=>false
theorem Yf6 (hP:FuncsOk P) {stk k2:List It} {s:St} {p:Prop} {l:List (Nat×V)} {h:List (Id×Blk)} {ep:Nat} (f:List (Id×Id)) (n:Nat) (q:List O) (hp:p) (hn:SX P R k2 .normal (mkS l h ep))
  (e:told (cutK P M f l h n stk s q)=some (p,(k2,renL f l h))) (hb:(isC k2&&cutB f l h ep)=true):SX P R stk .normal s:=by
 simp only[Bool.and_eq_true] at hb
 refine Ygf (x:=cutK P M f l h n stk s) (Q:=fun y=>y=(k2,renL f l h)→SX P R stk .normal s) ?_ e hp rfl
 refine Zd (Yc2 hP n) (fun r hr=>?_)
 obtain⟨st,ex,s1⟩:=r
 unfold Yjs
 cases ex with
 | normal=>
  refine Zd Yo2 (fun vs hvs=>Zd Yow (fun bs hbs=>Zq fun hy=>hr _ ?_))
  simp only[Prod.mk.injEq] at hy
  simp only
  rw[hy.1]
  have hy2:wasL f l h s1=renL f l h:=by
   rw[←hy.2,hvs,hbs];rfl
  cases k2 with
  | nil=>cases hb.1
  | cons x k=>cases x with
   | blk i=>cases hb.1
   | c x=>exact Yo5 f (Yph hy2 hb.2) hn
 | ret=>exact Zg
 | exit i=>exact Zg
end
end Go.Proofs.YtciimjnpdmmfnaaGreat.Ev
namespace Go.Proofs.YtciimjnpdmmfnaaGreat.Ev
open Go
set_option linter.unusedVariables false
section
variable {α:Type}
def idx (xs:List α) (i:Int):Option α:=if 0≤i then xs[i.toNat]? else none
def appI (sz:Nat) (xs ys:List α):Option (List α):=if (xs.length+ys.length)*sz≤140737488355328∧xs.length+ys.length≤9223372036854775807 then some (xs++ys) else none
def mkI (sz:Nat) (n:Int) (z:α):Option (List α):=if 0≤n∧n.toNat*sz≤70368744177664∧n.toNat≤9223372036854775807 then some (List.replicate n.toNat z) else none
def Q3 (xs:List α) (l h:Int):Option (List α):=if 0≤l∧l≤h∧h.toNat≤xs.length then some ((xs.drop l.toNat).take (h.toNat - l.toNat)) else none
def clrI (z:α) (xs:List α) (l h:Int):Option (List α):=if l.toNat+(h.toNat - l.toNat)≤xs.length then some (xs.take l.toNat++List.replicate (h.toNat - l.toNat) z++xs.drop (l.toNat+(h.toNat - l.toNat))) else none
def setO (xs:List α) (i:Int) (a:α):Option (List α):=some (xs.set i.toNat a)
def lenE {β:Type} (xs:List α) (ys:List β):Option Unit:=if xs.length=ys.length then some () else none
end
def strL (l:List UInt8):ByteArray:=⟨l.toArray⟩
def FU:Nat:=18446744073709551616
def w64 (n:Int):Int:=IntKind.i64.wrap n
def addW (a b:Int):Int:=IntKind.i64.wrap (a+b)
def subW (a b:Int):Int:=IntKind.i64.wrap (a - b)
def mulW (a b:Int):Int:=IntKind.i64.wrap (a*b)
def quoW (a b:Int):Int:=IntKind.i64.wrap (a.tdiv b)
def remW (a b:Int):Int:=a.tmod b
def andW (a b:Int):Int:=IntKind.i64.wrap ((BitVec.ofInt IntKind.i64.bits a &&& BitVec.ofInt IntKind.i64.bits b).toNat)
def orW (a b:Int):Int:=IntKind.i64.wrap ((BitVec.ofInt IntKind.i64.bits a ||| BitVec.ofInt IntKind.i64.bits b).toNat)
def xorW (a b:Int):Int:=IntKind.i64.wrap ((BitVec.ofInt IntKind.i64.bits a ^^^ BitVec.ofInt IntKind.i64.bits b).toNat)
def shlW (a b:Int):Int:=IntKind.i64.wrap (a*2^min b.toNat IntKind.i64.bits)
def shrW (a b:Int):Int:=a.fdiv (2^min b.toNat IntKind.i64.bits)
def minI (x y:Int):Int:=if y < x then y else x
def maxI (x y:Int):Int:=if y > x then y else x
def nzI (b:Int):Option Unit:=if b=0 then none else some ()
def nnI (b:Int):Option Unit:=if 0≤b then some () else none
theorem w64_of {n:Int} (h1:-9223372036854775808≤n) (h2:n < 9223372036854775808):w64 n=n:=by
 simp[w64,IntKind.wrap,IntKind.bits,IntKind.signed];omega
end Go.Proofs.YtciimjnpdmmfnaaGreat.Ev
namespace Go.Proofs.YtciimjnpdmmfnaaGreat.Ev
open Go Go.RowKit KM
set_option linter.unusedVariables false
set_option linter.unusedSimpArgs false
abbrev il (n:Int):V:=.lit (.int .i64 n)
abbrev bl (b:Bool):V:=.lit (.bool b)
section
variable {P:Program} {M:Hints}
def entS (M:Hints) (f:FuncId) (xs:List V):St:=(St.enters ⟨fun _=>.undef,fun _=>none,0⟩ 0 (M.modes f) xs).getD ⟨fun _=>.undef,fun _=>none,0⟩
theorem Yl8 (hP:FuncsOk P) {f:FuncId} {fn:Func} {c:Code} {xs:List V} {r:V} {os:List V} (hfn:P.funcs[f]?=some fn) (hc:fn.body=some c) (hs:(St.enters ⟨fun _=>.undef,fun _=>none,0⟩ 0 (M.modes f) xs).isSome=true)
  (h:SX P (RetC P M f fn xs (r,os)) [.c c] .normal (entS M f xs)):Fine P M (f,xs,r,os):=by
 obtain⟨s1,h1⟩:=Option.isSome_iff_exists.1 hs
 refine Yov hP hfn hc h1 ?_
 have:entS M f xs=s1:=by unfold entS;rw[h1];rfl
 rw[←this]
 exact h
end
theorem aa {p q:Prop} (h:p) (k:q):p∧q:=⟨h,k⟩
theorem tt:True:=trivial
theorem Ymq {α β:Type} {x:Option α} {f:α→Option β} {b:β} (h:x.bind f=some b):∃a,x=some a∧f a=some b:=Option.bind_eq_some_iff.1 h
theorem Ynv {β:Type} {t:Bool} {x y:Option β} {b:β} (h:(if t=true then x else y)=some b):(t=true∧x=some b)∨(t=false∧y=some b):=by
 cases t with
 | true=>exact .inl ⟨rfl,h⟩
 | false=>exact .inr ⟨rfl,h⟩
section
variable {α:Type}
theorem ixn {xs:List α} {i:Int} {a:α} (h:idx xs i=some a):Wx (il i)=some i.toNat:=by
 unfold idx at h
 split at h
 ·rename_i h0;simp[Wx,h0]
 ·cases h
theorem ixr (e:α→List V) {xs:List α} {i:Int} {a:α} (h:idx xs i=some a):(xs.map e)[i.toNat]?=some (e a):=by
 unfold idx at h
 split at h
 ·rw[List.getElem?_map,h];rfl
 ·cases h
theorem ixl (e:α→List V) {xs:List α} {i:Int} {a:α} (h:idx xs i=some a):i.toNat < (xs.map e).length:=(List.getElem?_eq_some_iff.1 (ixr e h)).1
theorem lenr (e:α→List V) (xs:List α):(xs.map e).length=xs.length:=List.length_map ..
theorem lene (e:α→List V) (xs:List α):(xs.map e).length=(xs.map e).length:=rfl
theorem alr (n:Nat) {e:α→List V} (he:∀a,(e a).length=n) (xs:List α):Zgw n (xs.map e)=true:=by
 unfold Zgw
 rw[List.all_eq_true]
 intro r hr
 obtain⟨a,_,rfl⟩:=List.mem_map.1 hr
 simp[he]
theorem ltr {e:α→List V} (he:∀a,(e a).all Zr5=true) (xs:List α):Kj (xs.map e)=true:=by
 unfold Kj
 rw[List.all_eq_true]
 intro r hr
 obtain⟨a,_,rfl⟩:=List.mem_map.1 hr
 exact he a
theorem apm (e:α→List V) {sz:Nat} {xs ys zs:List α} (h:appI sz xs ys=some zs):xs.map e++ys.map e=zs.map e:=by
 unfold appI at h
 split at h
 ·injection h with h;rw[←h,List.map_append]
 ·cases h
theorem apl (e:α→List V) {sz:Nat} {xs ys zs:List α} (h:appI sz xs ys=some zs):((xs.map e).length+(ys.map e).length)*sz≤140737488355328∧(xs.map e).length+(ys.map e).length≤9223372036854775807:=by
 unfold appI at h
 split at h
 ·rename_i hh;simpa using hh
 ·cases h
theorem apm0 (e:α→List V) {sz:Nat} {ys zs:List α} (h:appI sz [] ys=some zs):ys.map e=zs.map e:=apm e h
theorem mkn {sz:Nat} {n:Int} {z:α} {xs:List α} (h:mkI sz n z=some xs):Wx (il n)=some n.toNat:=by
 unfold mkI at h
 split at h
 ·rename_i h0;simp[Wx,h0.1]
 ·cases h
theorem mkl {sz:Nat} {n:Int} {z:α} {xs:List α} (h:mkI sz n z=some xs):n.toNat*sz≤70368744177664∧n.toNat≤9223372036854775807:=by
 unfold mkI at h
 split at h
 ·rename_i h0;exact h0.2
 ·cases h
theorem mkr (e:α→List V) {sz:Nat} {n:Int} {z:α} {xs:List α} (h:mkI sz n z=some xs):List.replicate n.toNat (e z)=xs.map e:=by
 unfold mkI at h
 split at h
 ·injection h with h;rw[←h,List.map_replicate]
 ·cases h
theorem sln {xs ys:List α} {l h:Int} (e:Q3 xs l h=some ys):Wx (il l)=some l.toNat∧Wx (il h)=some h.toNat:=by
 unfold Q3 at e
 split at e
 ·rename_i h0
  refine⟨by simp[Wx,h0.1],?_⟩
  have:0≤h:=by omega
  simp[Wx,this]
 ·cases e
theorem sll (en:α→List V) {xs ys:List α} {l h:Int} (e:Q3 xs l h=some ys):l.toNat≤h.toNat∧h.toNat≤(xs.map en).length:=by
 unfold Q3 at e
 split at e
 ·rename_i h0
  rw[List.length_map]
  omega
 ·cases e
theorem slr (en:α→List V) {xs ys:List α} {l h:Int} (e:Q3 xs l h=some ys):((xs.map en).drop l.toNat).take (h.toNat - l.toNat)=ys.map en:=by
 unfold Q3 at e
 split at e
 ·injection e with e;rw[←e,List.map_take,List.map_drop]
 ·cases e
end
def encI (n:Int):List V:=[.lit (.int .i64 n)]
def encU (n:Int):List V:=[.lit (.int .u8 n)]
def encB (b:Bool):List V:=[.lit (.bool b)]
def encS (b:ByteArray):List V:=[.lit (.string b)]
theorem Wp (n:Int):(encI n).length=1:=rfl
theorem Zjb (n:Bool):(encB n).length=1:=rfl
theorem Zlw (n:Int):(encI n).all Zr5=true:=rfl
abbrev ss (b:ByteArray):V:=.lit (.string b)
section
variable {α:Type}
theorem seto (e:α→List V) {xs ys:List α} {i:Int} {a:α} (h:setO xs i a=some ys):(xs.map e).set i.toNat (e a)=ys.map e:=by
 unfold setO at h
 injection h with h
 rw[←h,List.map_set]
theorem setl (e:α→List V) {xs ys:List α} {i:Int} {a:α} (h:setO xs i a=some ys):(xs.map e).length=(ys.map e).length:=by
 rw[←seto e h,List.length_set]
theorem lz (e:α→List V) {xs:List α} (h:decide (xs.length=0)=true):(xs.map e).length=0:=by
 rw[List.length_map];exact of_decide_eq_true h
theorem lnz (e:α→List V) {xs:List α} (h:decide (xs.length=0)=false):(xs.map e).length≠0:=by
 rw[List.length_map];exact of_decide_eq_false h
theorem ixc (e:α→List V) {xs ys:List α} {i:Int} {a:α} (h:idx ys i=some a) (hl:(xs.map e).length=(ys.map e).length):i.toNat < (xs.map e).length:=hl▸ixl e h
theorem lenq (e:α→List V) {xs ys:List α} {u:Unit} (h:lenE xs ys=some u):(xs.map e).length=(ys.map e).length:=by
 unfold lenE at h
 split at h
 ·rename_i hh;simpa using hh
 ·cases h
theorem sla (en:α→List V) {xs ys:List α} {l h:Int} (e:Q3 xs l h=some ys):l.toNat+(h.toNat - l.toNat)≤(xs.map en).length:=by
 have:=sll en e
 omega
end
section
variable {α:Type}
theorem Zyf {sz:Nat} {r:List α} (h:appI sz [] []=some r):[]=r:=by
 unfold appI at h
 split at h
 ·injection h
 ·cases h
theorem apz (n:Nat):(0+0)*n≤140737488355328∧0+0≤9223372036854775807:=by simp
theorem clrl (e:α→List V) {z:α} {xs ys:List α} {l h:Int} (q:clrI z xs l h=some ys):l.toNat+(h.toNat - l.toNat)≤(xs.map e).length:=by
 unfold clrI at q
 split at q
 ·rwa [List.length_map]
 ·cases q
theorem clrr (e:α→List V) {z:α} {xs ys:List α} {l h:Int} (q:clrI z xs l h=some ys):(xs.map e).take l.toNat++List.replicate (h.toNat - l.toNat) (e z)++(xs.map e).drop (l.toNat+(h.toNat - l.toNat))=ys.map e:=by
 unfold clrI at q
 split at q
 ·injection q with q;rw[←q];simp
 ·cases q
theorem clrs (e:α→List V) {z:α} {xs ys:List α} {l h:Int} (q:clrI z xs l h=some ys):(xs.map e).length=(ys.map e).length:=by
 unfold clrI at q
 split at q
 ·injection q with q;rw[←q];simp;omega
 ·cases q
end
def ks:Nat→List O→List O
 | 0,l=>l
 | n+1,l=>.k::ks n l
def Scr (q:List O) (p:Prop):Prop:=p
theorem ee:Scr [] True:=trivial
section
variable {q:List O} {p:Prop} {α:Type}
theorem kk (n:Nat) (k:Scr q p):Scr (ks n q) p:=k
theorem gg {c b:Bool} (h:c=b) (k:Scr q p):Scr (.t b::q) (c=b∧p):=⟨h,k⟩
theorem rr {P:Program} {M:Hints} {y:FuncId×List V×V×List V} (h:Fine P M y) (k:Scr q p):Scr (.res y.2.2.1 y.2.2.2::q) (Fine P M y∧p):=⟨h,k⟩
theorem xb (e:α→List V) {xs:List α} {i:Int} {a:α} (h:idx xs i=some a) (k:Scr q p):Scr (.row i.toNat (e a)::q) (Wx (il i)=some i.toNat∧(xs.map e)[i.toNat]?=some (e a)∧p):=⟨ixn h,ixr e h,k⟩
theorem xd (e:α→List V) {xs:List α} {i:Int} {a:α} (h:idx xs i=some a) (k:Scr q p):Scr (.row i.toNat (e a)::.cell (e a)::q) (Wx (il i)=some i.toNat∧i.toNat < (xs.map e).length∧(xs.map e)[i.toNat]?=some (e a)∧(xs.map e)[i.toNat]?=some (e a)∧p):=⟨ixn h,ixl e h,ixr e h,ixr e h,k⟩
theorem xp (e:α→List V) {xs ys:List α} {i:Int} {a b:α} (h:idx xs i=some a) (h2:setO xs i b=some ys) (k:Scr q p):Scr (.row i.toNat (e a)::.put (e a) (ys.map e)::q) (Wx (il i)=some i.toNat∧i.toNat < (xs.map e).length∧(xs.map e)[i.toNat]?=some (e a)∧(xs.map e)[i.toNat]?=some (e a)∧(xs.map e).set i.toNat (e b)=ys.map e∧p):=⟨ixn h,ixl e h,ixr e h,ixr e h,seto e h2,k⟩
theorem xq (e:α→List V) {xs:List α} {i:Int} {a:α} (h:idx xs i=some a) (ys:List α) (k:Scr q p):Scr (.row i.toNat (e a)::.put (e a) (ys.map e)::q) (Wx (il i)=some i.toNat∧i.toNat < (xs.map e).length∧(xs.map e)[i.toNat]?=some (e a)∧(xs.map e)[i.toNat]?=some (e a)∧p):=⟨ixn h,ixl e h,ixr e h,ixr e h,k⟩
theorem ln (e:α→List V) (xs:List α) (k:Scr q p):Scr (.num (xs.map e).length 0 0 []::q) ((xs.map e).length=(xs.map e).length∧p):=⟨rfl,k⟩
theorem lr (e:α→List V) (xs:List α) (k:Scr q p):Scr (.num xs.length 0 0 []::q) ((xs.map e).length=xs.length∧p):=⟨lenr e xs,k⟩
theorem tp (x:O) (k:Scr q p):Scr (x::q) p:=k
theorem tq (l:List O) (k:Scr q p):Scr (l++q) p:=k
theorem ta (e:α→List V) (ys zs:List α) (k:Scr q p):Scr (.app (ys.map e) true (zs.map e) (zs.map e).length::q) p:=k
theorem oa (n:Nat) {e:α→List V} (he:∀a,(e a).length=n) (x:α) (k:Scr q p):Scr q (1=([x].map e).length∧[x].map e=[x].map e∧Zgw n ([x].map e)=true∧p):=⟨rfl,rfl,alr n he [x],k⟩
theorem ol (n:Nat) {e:α→List V} (he:∀a,(e a).length=n) (hl:∀a,(e a).all Zr5=true) (ys:List α) (k:Scr q p):Scr q (ys.map e=ys.map e∧Kj (ys.map e)=true∧Zgw n (ys.map e)=true∧0=(([]:List α).map e).length∧p):=⟨rfl,ltr hl ys,alr n he ys,rfl,k⟩
theorem ox (e:α→List V) {sz:Nat} {xs ys zs:List α} (h:appI sz xs ys=some zs) (k:Scr q p):Scr q ((xs.map e).length=(xs.map e).length∧(((xs.map e).length+(ys.map e).length)*sz≤140737488355328∧(xs.map e).length+(ys.map e).length≤9223372036854775807)∧xs.map e++ys.map e=zs.map e∧p):=⟨rfl,apl e h,apm e h,k⟩
theorem oe (e:α→List V) (xs:List α) (k:Scr q p):Scr q ((xs.map e).length=(xs.map e).length∧p):=⟨rfl,k⟩
theorem ob {a:Prop} (h:a) (k:Scr q p):Scr q (a∧p):=⟨h,k⟩
end
theorem nz0 {b:Int} {u:Unit} (h:nzI b=some u):b≠0:=by
 unfold nzI at h;split at h
 ·cases h
 ·assumption
theorem nn0 {b:Int} {u:Unit} (h:nnI b=some u):0≤b:=by
 unfold nnI at h;split at h
 ·assumption
 ·cases h
def Zta (f:Func):Code:=f.body.getD .skip
def at_:List Nat→Code→List It→List It
 | 0::p,.seq a b,k=>at_ p a (.c b::k)
 | _::p,.seq _ b,k=>at_ p b k
 | 0::p,.cond _ a _,k=>at_ p a k
 | _::p,.cond _ _ b,k=>at_ p b k
 | _::p,.block i c,k=>at_ p c (.blk i::k)
 | _::p,.loop c,k=>at_ p c (.c (.loop c)::k)
 | _,c,k=>.c c::k
end Go.Proofs.YtciimjnpdmmfnaaGreat.Ev
namespace Go.Proofs.YtciimjnpdmmfnaaGreat.Ev
open Go Go.Proofs
set_option linter.unusedVariables false
structure GL1Cur where
 b:List Int
 i:Int
 h:Int
 deriving DecidableEq
structure GMConf where
 weight:Int
 prio:Bool
 every:Int
 cap:Int
 deriving DecidableEq
structure GConf where
 masters:List GMConf
 quantum:Int
 maxWait:Int
 maxRetry:Int
 maxSplit:Int
 lockMost:Int
 deriving DecidableEq
structure GReq where
 write:Bool
 addr:Int
 size:Int
 burst:Int
 lock:Bool
 data_:List Int
 deriving DecidableEq
structure GMst where
 queue:List GReq
 beat:Int
 done:Int
 tries:Int
 parted:Bool
 broken:Bool
 deriving DecidableEq
structure GWrr where
 at_:Int
 credit:Int
 deriving DecidableEq
structure GBucket where
 tokens:Int
 count:Int
 deriving DecidableEq
structure GBeat where
 live:Bool
 who:Int
 beat:Int
 first:Bool
 by_:Int
 left:Int
 resp:Int
 second:Bool
 deriving DecidableEq
structure GDev where
 regs:List Int
 timer:Int
 fifo:List Int
 deriving DecidableEq
structure GModel where
 mem:List Int
 dev:GDev
 deriving DecidableEq
structure GDone where
 cycle:Int
 who:Int
 write:Bool
 addr:Int
 size:Int
 value:Int
 resp:Int
 deriving DecidableEq
structure GBus where
 conf:GConf
 now:Int
 m:List GMst
 arb:GWrr
 buckets:List GBucket
 splits:List Int
 holder:Int
 held:Int
 last:Int
 addr:GBeat
 data_:GBeat
 model:GModel
 picks:Int
 log:List GDone
 deriving DecidableEq
structure GPost where
 at_:Int
 who:Int
 req:GReq
 deriving DecidableEq
structure GScript where
 posts:List GPost
 waits:List Int
 says:List Int
 deriving DecidableEq
structure GWave where
 cycle:Int
 addr:Int
 kind:Int
 who:Int
 data_:Int
 from_:Int
 ready:Bool
 resp:Int
 got:Int
 deriving DecidableEq
abbrev GMConf.z0:GMConf:=⟨0,false,0,0⟩
abbrev GConf.z0:GConf:=⟨[],0,0,0,0,0⟩
abbrev GReq.z0:GReq:=⟨false,0,0,0,false,[]⟩
abbrev GMst.z0:GMst:=⟨[],0,0,0,false,false⟩
abbrev GWrr.z0:GWrr:=⟨0,0⟩
abbrev GBucket.z0:GBucket:=⟨0,0⟩
abbrev GBeat.z0:GBeat:=⟨false,0,0,false,0,0,0,false⟩
abbrev GDev.z0:GDev:=⟨[],0,[]⟩
abbrev GModel.z0:GModel:=⟨[],GDev.z0⟩
abbrev GDone.z0:GDone:=⟨0,0,false,0,0,0,0⟩
abbrev GBus.z0:GBus:=⟨GConf.z0,0,[],GWrr.z0,[],[],0,0,0,GBeat.z0,GBeat.z0,GModel.z0,0,[]⟩
abbrev GScript.z0:GScript:=⟨[],[],[]⟩
abbrev GWave.z0:GWave:=⟨0,0,0,0,0,0,false,0,0⟩
def Z7e (x0:List Int):Option Bool:=
 some (decide ((x0.length:Int) > 1048576))
def Zlj (x0:List Int) (k_L1:Int→Int→Option GL1Cur) (v0:Int) (v1:Int) (v2:Bool):Option GL1Cur:=
 if v2=true then (
  (idx x0 v1).bind fun a0=>
  k_L1 (andW (addW (addW (mulW v0 131) (w64 a0)) 7) 1073741823) (addW v1 1))
 else (
  some (GL1Cur.mk x0 0 v0))
def Zon (x0:List Int)  (k:Int→Int→Option GL1Cur) (v0:Int) (v1:Int):Option GL1Cur:=
 if decide (v1 < (x0.length:Int))=true then (
  Zlj x0 k v0 v1 (decide (v1 < 4000)))
 else (
  Zlj x0 k v0 v1 false)
def Zco (x0:List Int)  : Nat→Int→Int→Option GL1Cur
 | 0,_,_=>none
 | m+1,v0,v1=>Zon x0  (Zco x0  m) v0 v1
def Zmh (x0:List Int):Option GL1Cur:=
 Zco x0 FU (addW 10101 (x0.length:Int)) 0
def Zc0 (x0:GL1Cur):Option (Int×GL1Cur):=
 if decide (x0.i < (x0.b.length:Int))=true then (
  (idx x0.b x0.i).bind fun a0=>
  some ((andW (addW (andW (xorW (shrW (addW (mulW x0.h 6364136223846793005) 1442695040888963407) 33) (shrW (addW (mulW x0.h 6364136223846793005) 1442695040888963407) 45)) 255) (w64 a0)) 255),(GL1Cur.mk x0.b (addW x0.i 1) (addW (mulW x0.h 6364136223846793005) 1442695040888963407))))
 else (
  some ((andW (xorW (shrW (addW (mulW x0.h 6364136223846793005) 1442695040888963407) 33) (shrW (addW (mulW x0.h 6364136223846793005) 1442695040888963407) 45)) 255),{x0 with h:=(addW (mulW x0.h 6364136223846793005) 1442695040888963407)}))
def Zo (x0:GL1Cur) (x1:Int):Option (Int×GL1Cur):=
 if decide (x1≤0)=true then (
  some (0,x0))
 else (
  if decide (x1≤256)=true then (
   (Zc0 x0).bind fun r0=>
   (nzI x1).bind fun n0=>
   some ((remW r0.1 x1),r0.2))
  else (
   (Zc0 x0).bind fun r1=>
   (Zc0 r1.2).bind fun r2=>
   (Zc0 r2.2).bind fun r3=>
   (Zc0 r3.2).bind fun r4=>
   (nzI x1).bind fun n1=>
   some ((remW (addW (addW (addW (mulW r1.1 16777216) (mulW r2.1 65536)) (mulW r3.1 256)) r4.1) x1),r4.2)))
def Zar (x0:GL1Cur) (x1:Int):Option (Bool×GL1Cur):=
 (Zo x0 x1).bind fun r0=>
 some (decide (r0.1=0),r0.2)
def Zk (x0:Int) (x1:Int) (x2:Int):Option Bool:=
 if decide (x0≥x1)=true then (
  some (decide (x0≤x2)))
 else (
  some false)
def Zjw (x0:GConf)  (v0:Bool):Option Int:=
 if v0=true then (
  some 0)
 else (
  some (mulW (addW x0.maxRetry 2) (addW x0.maxWait 6)))
def Zfz (x0:GConf):Option Int:=
 (Zk x0.maxRetry 0 3).bind fun r0=>
 if (!r0)=true then (
  Zjw x0 true)
 else (
  (Zk x0.maxWait 0 3).bind fun r1=>
  Zjw x0 (!r1))
def Zav (x0:GConf):Option Int:=
 (Zfz x0).bind fun r0=>
 if decide (r0=0)=true then (
  some 0)
 else (
  (Zk x0.lockMost 1 40).bind fun r1=>
  if (!r1)=true then (
   some 0)
  else (
   (Zfz x0).bind fun r2=>
   some (addW (mulW 2 r2) x0.lockMost)))
def Zmr (x0:GL1Cur)  (k:GL1Cur→GConf→Int→Option (GConf×GL1Cur)) (vb0:GL1Cur) (vb1:GConf) (v0:Int):Option (GConf×GL1Cur):=
 if decide (v0 > 0)=true then (
  (Zo vb0 3).bind fun r0=>
  (appI 32 vb1.masters [(GMConf.mk (addW 1 r0.1) false 0 0)]).bind fun z0=>
  k r0.2 {vb1 with masters:=z0} (subW v0 1))
 else (
  (Zar vb0 2).bind fun r1=>
  if r1.1=true then (
   (Zo r1.2 (vb1.masters.length:Int)).bind fun r2=>
   (idx vb1.masters r2.1).bind fun a0=>
   (setO vb1.masters r2.1 {a0 with prio:=true}).bind fun y0=>
   (Zav {vb1 with masters:=y0}).bind fun r3=>
   (Zo r2.2 30).bind fun r4=>
   (idx y0 r2.1).bind fun a1=>
   (setO y0 r2.1 {a1 with every:=(addW (mulW 2 r3) r4.1)}).bind fun y1=>
   (Zo r4.2 4).bind fun r5=>
   (idx y1 r2.1).bind fun a2=>
   (setO y1 r2.1 {a2 with cap:=(addW 1 r5.1)}).bind fun y2=>
   some ({vb1 with masters:=y2},r5.2))
  else (
   some (vb1,r1.2)))
def Zbh (x0:GL1Cur)  : Nat→GL1Cur→GConf→Int→Option (GConf×GL1Cur)
 | 0,_,_,_=>none
 | m+1,vb0,vb1,v0=>Zmr x0  (Zbh x0  m) vb0 vb1 v0
def Zm3 (x0:GL1Cur):Option (GConf×GL1Cur):=
 (Zo x0 3).bind fun r6=>
 (Zo r6.2 3).bind fun r7=>
 (Zo r7.2 3).bind fun r8=>
 (Zo r8.2 6).bind fun r9=>
 (Zo r9.2 12).bind fun r10=>
 (Zo r10.2 4).bind fun r11=>
 Zbh x0 FU r11.2 (GConf.mk [] (addW 1 r6.1) r7.1 r8.1 (addW 1 r9.1) (addW 1 r10.1)) (addW 1 r11.1)
def Yh (x0:GL1Cur) (x1:List Int):Option (Int×GL1Cur):=
 (Zo x0 (x1.length:Int)).bind fun r0=>
 (idx x1 r0.1).bind fun a0=>
 some (a0,r0.2)
def Zp3 (x0:GL1Cur):Option (GConf×GL1Cur):=
 (Zm3 x0).bind fun r0=>
 (Zo r0.2 14).bind fun r1=>
 if decide (r1.1=0)=true then (
  (Yh r1.2 [0,5]).bind fun r2=>
  (idx r0.1.masters 0).bind fun a0=>
  (setO r0.1.masters 0 {a0 with weight:=r2.1}).bind fun y0=>
  some ({r0.1 with masters:=y0},r2.2))
 else (
  if decide (r1.1=1)=true then (
   (idx r0.1.masters 0).bind fun a1=>
   (setO r0.1.masters 0 {a1 with prio:=(!a1.prio)}).bind fun y1=>
   some ({r0.1 with masters:=y1},r1.2))
  else (
   if decide (r1.1=2)=true then (
    (Yh r1.2 [0,5,4]).bind fun r3=>
    some ({r0.1 with quantum:=r3.1},r3.2))
   else (
    if decide (r1.1=3)=true then (
     (Yh r1.2 [(-1),4,3]).bind fun r4=>
     some ({r0.1 with maxWait:=r4.1},r4.2))
    else (
     if decide (r1.1=4)=true then (
      (Yh r1.2 [0,13]).bind fun r5=>
      some ({r0.1 with maxSplit:=r5.1},r5.2))
     else (
      if decide (r1.1=5)=true then (
       some ({r0.1 with masters:=[]},r1.2))
      else (
       if decide (r1.1=6)=true then (
        (Yh r1.2 [(-1),4,3]).bind fun r6=>
        some ({r0.1 with maxRetry:=r6.1},r6.2))
       else (
        some (r0.1,r1.2))))))))
def W0 (x0:Int):Option Int:=
 (Zk x0 0 2).bind fun r0=>
 if (!r0)=true then (
  some 0)
 else (
  (nnI x0).bind fun n0=>
  some (shlW 1 x0))
def Q0 (x0:Int):Option Int:=
 (Zk x0 0 3).bind fun r0=>
 if (!r0)=true then (
  some 0)
 else (
  (idx [1,4,4,8] x0).bind fun a0=>
  some a0)
def Ks (x0:Int) (x1:Int):Option Bool:=
 (W0 x1).bind fun r0=>
 if decide (r0 > 0)=true then (
  if decide (x0≥0)=true then (
   (W0 x1).bind fun r1=>
   (nzI r1).bind fun n0=>
   some (decide ((remW x0 r1)=0)))
  else (
   some false))
 else (
  some false)
def Zgh (x0:Int) (x1:Int) (x2:Int)  (v0:Int) (v1:Bool):Option Int:=
 if v1=true then (
  some (subW (addW x0 v0) (mulW 4 v0)))
 else (
  some (addW x0 v0))
def Zbt (x0:Int) (x1:Int) (x2:Int)  (v0:Int) (v2:Bool):Option Int:=
 if v2=true then (
  some (-1))
 else (
  if decide (x2=2)=true then (
   (nzI (mulW 4 v0)).bind fun n0=>
   Zgh x0 x1 x2 v0 (decide ((remW (addW x0 v0) (mulW 4 v0))=0)))
  else (
   Zgh x0 x1 x2 v0 false))
def Zit (x0:Int) (x1:Int) (x2:Int):Option Int:=
 (W0 x1).bind fun r0=>
 (Ks x0 x1).bind fun r1=>
 if (!r1)=true then (
  Zbt x0 x1 x2 r0 true)
 else (
  (Zk x0 0 511).bind fun r2=>
  if (!r2)=true then (
   Zbt x0 x1 x2 r0 true)
  else (
   (Q0 x2).bind fun r3=>
   Zbt x0 x1 x2 r0 (decide (r3=0))))
def J7 (x0:Int) (x1:Int) (x2:Int) (k_L1:Int→(List Int)→Option (List Int)) (v0:Int) (v1:List Int) (v2:Bool):Option (List Int):=
 if v2=true then (
  (appI 8 v1 [v0]).bind fun z0=>
  (Zit v0 x1 x2).bind fun r0=>
  k_L1 r0 z0)
 else (
  (Q0 x2).bind fun r1=>
  if decide ((v1.length:Int) < r1)=true then (
   some [])
  else (
   some v1))
def Jg (x0:Int) (x1:Int) (x2:Int)  (k:Int→(List Int)→Option (List Int)) (v0:Int) (v1:List Int):Option (List Int):=
 (Q0 x2).bind fun r2=>
 if decide ((v1.length:Int) < r2)=true then (
  (Zit v0 x1 x2).bind fun r3=>
  J7 x0 x1 x2 k v0 v1 (decide (r3≥0)))
 else (
  J7 x0 x1 x2 k v0 v1 false)
def Zcs (x0:Int) (x1:Int) (x2:Int)  : Nat→Int→(List Int)→Option (List Int)
 | 0,_,_=>none
 | m+1,v0,v1=>Jg x0 x1 x2  (Zcs x0 x1 x2  m) v0 v1
def Zev (x0:Int) (x1:Int) (x2:Int):Option (List Int):=
 Zcs x0 x1 x2 FU x0 []
def Zl1 (x0:Int) (x1:Int) (x2:Int)  (k:(List Int)→Int→Option Bool) (v0:List Int) (v1:Int):Option Bool:=
 if decide (v1 < (v0.length:Int))=true then (
  (idx v0 v1).bind fun a0=>
  (idx v0 0).bind fun a1=>
  if decide ((quoW a0 64)≠(quoW a1 64))=true then (
   some false)
  else (
   k v0 (addW v1 1)))
 else (
  some (decide ((v0.length:Int) > 0)))
def Zho (x0:Int) (x1:Int) (x2:Int)  : Nat→(List Int)→Int→Option Bool
 | 0,_,_=>none
 | m+1,v0,v1=>Zl1 x0 x1 x2  (Zho x0 x1 x2  m) v0 v1
def Zk2 (x0:Int) (x1:Int) (x2:Int):Option Bool:=
 (Zev x0 x1 x2).bind fun r0=>
 Zho x0 x1 x2 FU r0 0
def Xi (x0:Int):Option Int:=
 (W0 x0).bind fun r0=>
 if decide (r0=0)=true then (
  some 0)
 else (
  (W0 x0).bind fun r1=>
  (nnI (mulW 8 r1)).bind fun n0=>
  some (shlW 1 (mulW 8 r1)))
def Zlh (x0:GL1Cur) (k_L1:GL1Cur→GReq→Int→Option (GReq×GL1Cur)) (vb0:GL1Cur) (vb1:GReq) (v0:Int) (v1:Bool):Option (GReq×GL1Cur):=
 if v1=true then (
  (Xi vb1.size).bind fun r0=>
  (Xi vb1.size).bind fun r1=>
  (Yh vb0 [(minI r0 1000),r1]).bind fun r2=>
  (Zo r2.2 r2.1).bind fun r3=>
  (appI 8 vb1.data_ [r3.1]).bind fun z0=>
  k_L1 r3.2 {vb1 with data_:=z0} (addW v0 1))
 else (
  some (vb1,vb0))
def Zom (x0:GL1Cur)  (k:GL1Cur→GReq→Int→Option (GReq×GL1Cur)) (vb0:GL1Cur) (vb1:GReq) (v0:Int):Option (GReq×GL1Cur):=
 (Q0 vb1.burst).bind fun r4=>
 if decide (v0 < r4)=true then (
  Zlh x0 k vb0 vb1 v0 vb1.write)
 else (
  Zlh x0 k vb0 vb1 v0 false)
def Zcp (x0:GL1Cur)  : Nat→GL1Cur→GReq→Int→Option (GReq×GL1Cur)
 | 0,_,_,_=>none
 | m+1,vb0,vb1,v0=>Zom x0  (Zcp x0  m) vb0 vb1 v0
def Zgj (x0:GL1Cur)  (vb0:GL1Cur) (vb1:GReq):Option (GReq×GL1Cur):=
 Zcp x0 FU vb0 vb1 0
def Zi0 (x0:GL1Cur):Option (GReq×GL1Cur):=
 (Zar x0 2).bind fun r5=>
 (Yh r5.2 [2,2,2,0,1]).bind fun r6=>
 (Yh r6.2 [0,0,1,2,3]).bind fun r7=>
 (Zar r7.2 6).bind fun r8=>
 (W0 r6.1).bind fun r9=>
 (Zo r8.2 128).bind fun r10=>
 (Zo r10.2 128).bind fun r11=>
 (Zo r11.2 64).bind fun r12=>
 (Zo r12.2 40).bind fun r13=>
 (Zo r13.2 512).bind fun r14=>
 (Yh r14.2 [r10.1,r11.1,(addW 128 r12.1),(addW 192 r13.1),r14.1]).bind fun r15=>
 (nzI r9).bind fun n0=>
 (Zk2 (mulW (quoW r15.1 r9) r9) r6.1 r7.1).bind fun r16=>
 if (!r16)=true then (
  Zgj x0 r15.2 (GReq.mk r5.1 (mulW (quoW r15.1 r9) r9) r6.1 0 r8.1 []))
 else (
  Zgj x0 r15.2 (GReq.mk r5.1 (mulW (quoW r15.1 r9) r9) r6.1 r7.1 r8.1 []))
def Zkt (x0:GL1Cur):Option (Int×GL1Cur):=
 (Zo x0 6).bind fun r0=>
 some ((subW r0.1 1),r0.2)
def Zix (x0:GL1Cur):Option (GReq×GL1Cur):=
 (Zi0 x0).bind fun r0=>
 (Zo r0.2 12).bind fun r1=>
 if decide (r1.1=0)=true then (
  (Yh r1.2 [(-4),510,512,61]).bind fun r2=>
  some ({r0.1 with addr:=r2.1},r2.2))
 else (
  if decide (r1.1=1)=true then (
   some ({r0.1 with write:=(!r0.1.write)},r1.2))
  else (
   if decide (r1.1=2)=true then (
    (Zkt r1.2).bind fun r3=>
    some ({r0.1 with size:=r3.1},r3.2))
   else (
    if decide (r1.1=3)=true then (
     (Zkt r1.2).bind fun r4=>
     some ({r0.1 with burst:=r4.1},r4.2))
    else (
     if decide (r1.1=4)=true then (
      (appI 8 r0.1.data_ [1]).bind fun z0=>
      some ({r0.1 with data_:=z0},r1.2))
     else (
      some (r0.1,r1.2))))))
def Zbp (x0:List Int)  (vb0:GL1Cur) (vb1:GConf) (v0:List GReq) (v1:Bool):Option (GConf×List GReq):=
 if v1=true then (
  (Zix vb0).bind fun r0=>
  (idx v0 0).bind fun a0=>
  (setO v0 0 r0.1).bind fun y0=>
  some (vb1,y0))
 else (
  some (vb1,v0))
def Zkp (x0:List Int)  (k:GL1Cur→GConf→(List GReq)→Int→Option (GConf×List GReq)) (vb0:GL1Cur) (vb1:GConf) (v0:List GReq) (v2:Int):Option (GConf×List GReq):=
 if decide (v2 > 0)=true then (
  (Zi0 vb0).bind fun r1=>
  (appI 64 v0 [r1.1]).bind fun z0=>
  k r1.2 vb1 z0 (subW v2 1))
 else (
  if decide ((v0.length:Int) > 0)=true then (
   (Zar vb0 8).bind fun r2=>
   Zbp x0 r2.2 vb1 v0 r2.1)
  else (
   Zbp x0 vb0 vb1 v0 false))
def Jj (x0:List Int)  : Nat→GL1Cur→GConf→(List GReq)→Int→Option (GConf×List GReq)
 | 0,_,_,_,_=>none
 | m+1,vb0,vb1,v0,v2=>Zkp x0  (Jj x0  m) vb0 vb1 v0 v2
def Zn3 (x0:List Int):Option (GConf×List GReq):=
 (Zmh x0).bind fun r3=>
 (Zp3 r3).bind fun r4=>
 (Zo r4.2 5).bind fun r5=>
 Jj x0 FU r5.2 r4.1 [] r5.1
def Z1 (x0:Int) (x1:Int) (x2:Int):Option Bool:=
 if decide (x1≤x0)=true then (
  some (decide (x0≤x2)))
 else (
  some false)
def Zot (x0:GConf)  (v0:Bool):Option Int:=
 if v0=true then (
  some 0)
 else (
  some (mulW (addW x0.maxRetry 2) (addW x0.maxWait 6)))
def Zm4 (x0:GConf):Option Int:=
 (Z1 x0.maxRetry 0 3).bind fun r0=>
 if (!r0)=true then (
  Zot x0 true)
 else (
  (Z1 x0.maxWait 0 3).bind fun r1=>
  Zot x0 (!r1))
def Znf (x0:GConf):Option Int:=
 (Zm4 x0).bind fun r0=>
 if decide (r0=0)=true then (
  some 0)
 else (
  (Z1 x0.lockMost 1 40).bind fun r1=>
  if (!r1)=true then (
   some 0)
  else (
   (Zm4 x0).bind fun r2=>
   some (addW (mulW 2 r2) x0.lockMost)))
def Zop (x0:GConf)  (k:Int→Int→Option Int) (v0:Int) (v1:Int):Option Int:=
 if decide (v1 < (x0.masters.length:Int))=true then (
  (idx x0.masters v1).bind fun a0=>
  if a0.prio=true then (
   k (addW v0 1) (addW v1 1))
  else (
   k v0 (addW v1 1)))
 else (
  some v0)
def Zlc (x0:GConf)  : Nat→Int→Int→Option Int
 | 0,_,_=>none
 | m+1,v0,v1=>Zop x0  (Zlc x0  m) v0 v1
def Zvk (x0:GConf):Option Int:=
 Zlc x0 FU 0 0
def Zkh (x0:GConf):Option Int:=
 (Znf x0).bind fun r0=>
 (Zvk x0).bind fun r1=>
 some (mulW (mulW 2 r0) r1)
def Zns (x0:GMConf) (x1:GConf):Option Bool:=
 (Z1 x0.weight 1 4).bind fun r0=>
 if (!r0)=true then (
  some true)
 else (
  if x0.prio=true then (
   (Zkh x1).bind fun r1=>
   (Z1 x0.every r1 1000).bind fun r2=>
   if (!r2)=true then (
    some true)
   else (
    (Z1 x0.cap 1 8).bind fun r3=>
    some (!r3)))
  else (
   if decide (x0.every≠0)=true then (
    some true)
   else (
    some (decide (x0.cap≠0)))))
def Xt (x0:List GMConf) (x1c0:GConf)  (k:Int→Option Int) (v0:Int):Option Int:=
 if decide (v0 < (x0.length:Int))=true then (
  (idx x0 v0).bind fun a0=>
  (Zns a0 x1c0).bind fun r0=>
  if r0=true then (
   some v0)
  else (
   k (addW v0 1)))
 else (
  some (-1))
def Z3 (x0:List GMConf) (x1c0:GConf)  : Nat→Int→Option Int
 | 0,_=>none
 | m+1,v0=>Xt x0 x1c0  (Z3 x0 x1c0  m) v0
def Wd (x0:List GMConf) (x1c0:GConf):Option Int:=
 Z3 x0 x1c0 FU 0
def Yz (x0:List GMConf) (x1c0:GConf):Option Bool:=
 (Wd x0 x1c0).bind fun r0=>
 some (decide (r0≥0))
def Zgg (x0:GConf):Option Bool:=
 (Z1 (x0.masters.length:Int) 1 4).bind fun r0=>
 if (!r0)=true then (
  some false)
 else (
  (Z1 x0.quantum 1 4).bind fun r1=>
  if (!r1)=true then (
   some false)
  else (
   (Z1 x0.maxSplit 1 12).bind fun r2=>
   if (!r2)=true then (
    some false)
   else (
    (Znf x0).bind fun r3=>
    if decide (r3=0)=true then (
     some false)
    else (
     (Yz x0.masters x0).bind fun r4=>
     some (!r4)))))
def Q8 (x0:List GMConf):Option (List GMConf):=appI 32 [] x0
def Zk5 (x0:GConf):Option GConf:=
 (Q8 x0.masters).bind fun r0=>
 some {x0 with masters:=r0}
def Z4w  : Option GDev:=
 (mkI 8 4 0).bind fun m0=>
 some (GDev.mk m0 0 [])
def Zmy  : Option GModel:=
 (mkI 8 192 0).bind fun m0=>
 (Z4w).bind fun r0=>
 some (GModel.mk m0 r0)
def Zlk (x0:GMConf):Option GBucket:=
 if (!x0.prio)=true then (
  some GBucket.z0)
 else (
  some (GBucket.mk (maxI x0.cap 0) 0))
def Zhx (x0:GConf)  (k:GBus→Int→Option (GBus×Bool)) (vb0:GBus) (v0:Int):Option (GBus×Bool):=
 if decide (v0 < (x0.masters.length:Int))=true then (
  (idx x0.masters v0).bind fun a0=>
  (appI 56 vb0.m [GMst.z0]).bind fun z0=>
  (Zlk a0).bind fun r0=>
  (appI 16 vb0.buckets [r0]).bind fun z1=>
  (appI 8 vb0.splits [0]).bind fun z2=>
  k {vb0 with m:=z0,buckets:=z1,splits:=z2} (addW v0 1))
 else (
  some (vb0,true))
def Zjh (x0:GConf)  : Nat→GBus→Int→Option (GBus×Bool)
 | 0,_,_=>none
 | m+1,vb0,v0=>Zhx x0  (Zjh x0  m) vb0 v0
def Zru (x0:GConf):Option (GBus×Bool):=
 (Zgg x0).bind fun r1=>
 if (!r1)=true then (
  some (GBus.z0,false))
 else (
  (Zk5 x0).bind fun r2=>
  (Zmy).bind fun r3=>
  Zjh x0 FU (GBus.mk r2 0 [] GWrr.z0 [] [] (-1) 0 (-1) GBeat.z0 GBeat.z0 r3 0 []) 0)
def Zd5 (x0:Int):Option Int:=
 (Z1 x0 0 3).bind fun r0=>
 if (!r0)=true then (
  some 0)
 else (
  (idx [1,4,4,8] x0).bind fun a0=>
  some a0)
def Q5 (x0:Int):Option Int:=
 (Z1 x0 0 2).bind fun r0=>
 if (!r0)=true then (
  some 0)
 else (
  (nnI x0).bind fun n0=>
  some (shlW 1 x0))
def Zdy (x0:Int) (x1:Int):Option Bool:=
 (Z1 x1 0 2).bind fun r0=>
 if r0=true then (
  if decide (x0≥0)=true then (
   (Q5 x1).bind fun r1=>
   (nzI r1).bind fun n0=>
   some (decide ((remW x0 r1)=0)))
  else (
   some false))
 else (
  some false)
def Zby (x0:Int) (x1:Int) (x2:Int)  (v0:Bool):Option Int:=
 if v0=true then (
  some (-1))
 else (
  (Q5 x1).bind fun r0=>
  (Q5 x1).bind fun r1=>
  if decide (x2=2)=true then (
   (nzI (mulW 4 r1)).bind fun n0=>
   if decide ((remW (addW x0 r0) (mulW 4 r1))=0)=true then (
    some (subW (addW x0 r0) (mulW 4 r1)))
   else (
    some (addW x0 r0)))
  else (
   some (addW x0 r0)))
def Zog (x0:Int) (x1:Int) (x2:Int):Option Int:=
 (Zdy x0 x1).bind fun r2=>
 if (!r2)=true then (
  Zby x0 x1 x2 true)
 else (
  if decide (x0≥512)=true then (
   Zby x0 x1 x2 true)
  else (
   (Zd5 x2).bind fun r3=>
   Zby x0 x1 x2 (decide (r3=0))))
def Jf (x0:Int) (x1:Int) (x2:Int)  (k:Int→(List Int)→Int→Int→Option (List Int)) (v0:Int) (v1:List Int) (v2:Int) (v3:Int):Option (List Int):=
 if decide (v3 < v2)=true then (
  (Zog v0 x1 x2).bind fun r0=>
  if decide (r0 < 0)=true then (
   some [])
  else (
   (appI 8 v1 [v0]).bind fun z0=>
   k r0 z0 v2 (addW v3 1)))
 else (
  some v1)
def Zdg (x0:Int) (x1:Int) (x2:Int)  : Nat→Int→(List Int)→Int→Int→Option (List Int)
 | 0,_,_,_,_=>none
 | m+1,v0,v1,v2,v3=>Jf x0 x1 x2  (Zdg x0 x1 x2  m) v0 v1 v2 v3
def Zeq (x0:Int) (x1:Int) (x2:Int):Option (List Int):=
 (Zd5 x2).bind fun r1=>
 Zdg x0 x1 x2 FU x0 [] r1 0
def Zl7 (x0:Int) (x1:Int) (x2:Int)  (k:(List Int)→Int→Int→Option Bool) (v0:List Int) (v1:Int) (v2:Int):Option Bool:=
 if decide (v2 < v1)=true then (
  (idx v0 v2).bind fun a0=>
  (idx v0 0).bind fun a1=>
  if decide ((quoW a0 64)≠(quoW a1 64))=true then (
   some false)
  else (
   k v0 v1 (addW v2 1)))
 else (
  some (decide ((v0.length:Int) > 0)))
def Zh3 (x0:Int) (x1:Int) (x2:Int)  : Nat→(List Int)→Int→Int→Option Bool
 | 0,_,_,_=>none
 | m+1,v0,v1,v2=>Zl7 x0 x1 x2  (Zh3 x0 x1 x2  m) v0 v1 v2
def Zpj (x0:Int) (x1:Int) (x2:Int):Option Bool:=
 (Zeq x0 x1 x2).bind fun r0=>
 Zh3 x0 x1 x2 FU r0 (r0.length:Int) 0
def Zkq (x0:Int):Option Int:=
 (Q5 x0).bind fun r0=>
 if decide (r0=0)=true then (
  some 0)
 else (
  (Q5 x0).bind fun r1=>
  (nnI (mulW 8 r1)).bind fun n0=>
  some (shlW 1 (mulW 8 r1)))
def Za9 (x0:Int) (x1:Int):Option Bool:=
 (Zkq x1).bind fun r0=>
 (Z1 x0 0 (subW r0 1)).bind fun r1=>
 some r1
def Zpc (x0:Int) (x1:GReq):Option Bool:=
 (Za9 x0 x1.size).bind fun r0=>
 some (!r0)
def Zey (x0:List Int) (x1c0:GReq)  (k:Int→Option Int) (v0:Int):Option Int:=
 if decide (v0 < (x0.length:Int))=true then (
  (idx x0 v0).bind fun a0=>
  (Zpc a0 x1c0).bind fun r0=>
  if r0=true then (
   some v0)
  else (
   k (addW v0 1)))
 else (
  some (-1))
def Wk (x0:List Int) (x1c0:GReq)  : Nat→Int→Option Int
 | 0,_=>none
 | m+1,v0=>Zey x0 x1c0  (Wk x0 x1c0  m) v0
def W6 (x0:List Int) (x1c0:GReq):Option Int:=
 Wk x0 x1c0 FU 0
def Xf (x0:List Int) (x1c0:GReq):Option Bool:=
 (W6 x0 x1c0).bind fun r0=>
 some (decide (r0≥0))
def Zlb (x0:GReq)  (v0:Int):Option Bool:=
 (Zpj x0.addr x0.size x0.burst).bind fun r0=>
 if r0=true then (
  if decide ((x0.data_.length:Int)=v0)=true then (
   (Xf x0.data_ x0).bind fun r1=>
   some (!r1))
  else (
   some false))
 else (
  some false)
def Zmb (x0:GReq):Option Bool:=
 if x0.write=true then (
  (Zd5 x0.burst).bind fun r2=>
  Zlb x0 r2)
 else (
  Zlb x0 0)
def Zrs (x0:GReq):Option Bool:=
 (Zmb x0).bind fun r0=>
 some (!r0)
def Ze7 (x0:List GReq)  (k:Int→Option Int) (v0:Int):Option Int:=
 if decide (v0 < (x0.length:Int))=true then (
  (idx x0 v0).bind fun a0=>
  (Zrs a0).bind fun r0=>
  if r0=true then (
   some v0)
  else (
   k (addW v0 1)))
 else (
  some (-1))
def Xe (x0:List GReq)  : Nat→Int→Option Int
 | 0,_=>none
 | m+1,v0=>Ze7 x0  (Xe x0  m) v0
def Qc (x0:List GReq):Option Int:=
 Xe x0 FU 0
def Wz (x0:List GReq):Option Bool:=
 (Qc x0).bind fun r0=>
 some (decide (r0≥0))
def Yd (x0:List Int):Option (List Int):=appI 8 [] x0
def Zfq (x0:GReq):Option GReq:=
 (Yd x0.data_).bind fun r0=>
 some {x0 with data_:=r0}
def Z45 (x0:GMst)  (k:(List GReq)→Int→Option GMst) (v0:List GReq) (v1:Int):Option GMst:=
 if decide (v1 < (x0.queue.length:Int))=true then (
  (idx x0.queue v1).bind fun a0=>
  (Zfq a0).bind fun r0=>
  (appI 64 v0 [r0]).bind fun z0=>
  k z0 (addW v1 1))
 else (
  some {x0 with queue:=v0})
def Zj6 (x0:GMst)  : Nat→(List GReq)→Int→Option GMst
 | 0,_,_=>none
 | m+1,v0,v1=>Z45 x0  (Zj6 x0  m) v0 v1
def Zc4 (x0:GMst):Option GMst:=
 Zj6 x0 FU [] 0
def Qn (x0:List GBucket):Option (List GBucket):=appI 16 [] x0
def Zml (x0:GDev):Option GDev:=
 (Yd x0.regs).bind fun r0=>
 (Yd x0.fifo).bind fun r1=>
 some (GDev.mk r0 x0.timer r1)
def Ze0 (x0:GModel):Option GModel:=
 (Yd x0.mem).bind fun r0=>
 (Zml x0.dev).bind fun r1=>
 some (GModel.mk r0 r1)
def Kz (x0:List GDone):Option (List GDone):=appI 56 [] x0
def Zhk (x0:GBus)  (k:GBus→(List GMst)→Int→Option GBus) (vb0:GBus) (v0:List GMst) (v1:Int):Option GBus:=
 if decide (v1 < (x0.m.length:Int))=true then (
  (idx x0.m v1).bind fun a0=>
  (Zc4 a0).bind fun r0=>
  (appI 56 v0 [r0]).bind fun z0=>
  k vb0 z0 (addW v1 1))
 else (
  (Qn vb0.buckets).bind fun r1=>
  (Yd vb0.splits).bind fun r2=>
  (Ze0 vb0.model).bind fun r3=>
  (Kz vb0.log).bind fun r4=>
  some {vb0 with m:=v0,buckets:=r1,splits:=r2,model:=r3,log:=r4})
def Zel (x0:GBus)  : Nat→GBus→(List GMst)→Int→Option GBus
 | 0,_,_,_=>none
 | m+1,vb0,v0,v1=>Zhk x0  (Zel x0  m) vb0 v0 v1
def Zm1 (x0:GBus):Option GBus:=
 (Zk5 x0.conf).bind fun r5=>
 Zel x0 FU {x0 with conf:=r5} [] 0
def Zc8 (x0:GReq):Option Bool:=
 (Zmb x0).bind fun r0=>
 some (!r0)
def Zba (x0:List GReq)  (k:Int→Option Int) (v0:Int):Option Int:=
 if decide (v0 < (x0.length:Int))=true then (
  (idx x0 v0).bind fun a0=>
  (Zc8 a0).bind fun r0=>
  if r0=true then (
   some v0)
  else (
   k (addW v0 1)))
 else (
  some (-1))
def Xo (x0:List GReq)  : Nat→Int→Option Int
 | 0,_=>none
 | m+1,v0=>Zba x0  (Xo x0  m) v0
def X5 (x0:List GReq):Option Int:=
 Xo x0 FU 0
def Yt (x0:List GReq):Option Bool:=
 (X5 x0).bind fun r0=>
 some (decide (r0≥0))
def Ja (x0:GMst):Option Int:=
 if decide ((x0.queue.length:Int)=0)=true then (
  some 0)
 else (
  (idx x0.queue 0).bind fun a0=>
  (Zd5 a0.burst).bind fun r0=>
  some r0)
def Xg (x0:GMst)  (v0:Bool):Option Bool:=
 if v0=true then (
  some false)
 else (
  if decide ((x0.queue.length:Int)=0)=true then (
   if decide (x0.beat=0)=true then (
    if decide (x0.done=0)=true then (
     if decide (x0.tries=0)=true then (
      if (!x0.parted)=true then (
       some (!x0.broken))
      else (
       some false))
     else (
      some false))
    else (
     some false))
   else (
    some false))
  else (
   (Ja x0).bind fun r0=>
   (Z1 x0.done 0 (subW r0 1)).bind fun r1=>
   if r1=true then (
    (Ja x0).bind fun r2=>
    (Z1 x0.beat x0.done (minI (addW x0.done 2) r2)).bind fun r3=>
    some r3)
   else (
    some false)))
def Wu (x0:GMst):Option Bool:=
 if decide ((x0.queue.length:Int) > 4)=true then (
  Xg x0 true)
 else (
  if decide (x0.tries < 0)=true then (
   Xg x0 true)
  else (
   (Yt x0.queue).bind fun r4=>
   Xg x0 r4))
def Zih (x0:GBucket) (x1:GMConf):Option Bool:=
 if (!x1.prio)=true then (
  some (decide (x0.tokens=0)&&(decide (x0.count=0)&&true)))
 else (
  (Z1 x0.tokens 0 x1.cap).bind fun r0=>
  if r0=true then (
   if decide (x0.count≥0)=true then (
    some (decide (x0.count < x1.every)))
   else (
    some false))
  else (
   some false))
def Jd (x0:GBus)  (k:Int→Option Bool) (v0:Int):Option Bool:=
 if decide (v0 < (x0.m.length:Int))=true then (
  (idx x0.m v0).bind fun a0=>
  (Wu a0).bind fun r0=>
  if (!r0)=true then (
   some false)
  else (
   if decide (a0.tries > x0.conf.maxRetry)=true then (
    some false)
   else (
    (idx x0.buckets v0).bind fun a1=>
    (idx x0.conf.masters v0).bind fun a2=>
    (Zih a1 a2).bind fun r1=>
    if (!r1)=true then (
     some false)
    else (
     (idx x0.splits v0).bind fun a3=>
     (Z1 a3 0 x0.conf.maxSplit).bind fun r2=>
     if (!r2)=true then (
      some false)
     else (
      k (addW v0 1))))))
 else (
  some true)
def Zd4 (x0:GBus)  : Nat→Int→Option Bool
 | 0,_=>none
 | m+1,v0=>Jd x0  (Zd4 x0  m) v0
def X4 (x0:GBus)  (v1:Bool):Option Bool:=
 if v1=true then (
  some false)
 else (
  Zd4 x0 FU 0)
def Zdp (x0:GBus):Option Bool:=
 if decide ((x0.m.length:Int)≠(x0.conf.masters.length:Int))=true then (
  X4 x0 true)
 else (
  if decide ((x0.buckets.length:Int)≠(x0.conf.masters.length:Int))=true then (
   X4 x0 true)
  else (
   X4 x0 (decide ((x0.splits.length:Int)≠(x0.conf.masters.length:Int)))))
def Qh (x0:GConf) (x1:Int):Option Bool:=
 (Z1 x1 0 (subW (x0.masters.length:Int) 1)).bind fun r0=>
 some r0
def Zov (x0:GConf) (x1:Int)  (v0:Bool):Option Int:=
 if v0=true then (
  some 0)
 else (
  (idx x0.masters x1).bind fun a0=>
  some (mulW a0.weight x0.quantum))
def Zjx (x0:GConf) (x1:Int):Option Int:=
 (Zgg x0).bind fun r0=>
 if (!r0)=true then (
  Zov x0 x1 true)
 else (
  (Qh x0 x1).bind fun r1=>
  Zov x0 x1 (!r1))
def Zig (x0:GWrr) (x1:GConf):Option Bool:=
 (Zgg x1).bind fun r0=>
 if r0=true then (
  (Qh x1 x0.at_).bind fun r1=>
  if r1=true then (
   (Zjx x1 x0.at_).bind fun r2=>
   (Z1 x0.credit 0 r2).bind fun r3=>
   some r3)
  else (
   some false))
 else (
  some false)
def Zrm (x0:Int):Option Bool:=
 (Z1 x0 0 255).bind fun r0=>
 some (!r0)
def Ze6 (x0:List Int)  (k:Int→Option Int) (v0:Int):Option Int:=
 if decide (v0 < (x0.length:Int))=true then (
  (idx x0 v0).bind fun a0=>
  (Zrm a0).bind fun r0=>
  if r0=true then (
   some v0)
  else (
   k (addW v0 1)))
 else (
  some (-1))
def Wq (x0:List Int)  : Nat→Int→Option Int
 | 0,_=>none
 | m+1,v0=>Ze6 x0  (Wq x0  m) v0
def Qg (x0:List Int):Option Int:=
 Wq x0 FU 0
def Xl (x0:List Int):Option Bool:=
 (Qg x0).bind fun r0=>
 some (decide (r0≥0))
def Zoo (x0:List Int) (x1:Int) (x2:Int):Option Bool:=
 if decide ((x0.length:Int)≤512)=true then (
  (Xl x0).bind fun r0=>
  if (!r0)=true then (
   (Zdy x1 x2).bind fun r1=>
   if r1=true then (
    (Q5 x2).bind fun r2=>
    some (decide (x1≤(subW (x0.length:Int) r2))))
   else (
    some false))
  else (
   some false))
 else (
  some false)
def Zo5 (x0:Int):Option Bool:=
 (Za9 x0 2).bind fun r0=>
 some (!r0)
def Zen (x0:List Int)  (k:Int→Option Int) (v0:Int):Option Int:=
 if decide (v0 < (x0.length:Int))=true then (
  (idx x0 v0).bind fun a0=>
  (Zo5 a0).bind fun r0=>
  if r0=true then (
   some v0)
  else (
   k (addW v0 1)))
 else (
  some (-1))
def Wj (x0:List Int)  : Nat→Int→Option Int
 | 0,_=>none
 | m+1,v0=>Zen x0  (Wj x0  m) v0
def W5 (x0:List Int):Option Int:=
 Wj x0 FU 0
def Yr (x0:List Int):Option Bool:=
 (W5 x0).bind fun r0=>
 some (decide (r0≥0))
def Zqh (x0:GDev):Option Bool:=
 if decide ((x0.regs.length:Int)=4)=true then (
  if decide ((x0.fifo.length:Int)≤4)=true then (
   (Yr x0.regs).bind fun r0=>
   if (!r0)=true then (
    (Yr x0.fifo).bind fun r1=>
    if (!r1)=true then (
     (Za9 x0.timer 2).bind fun r2=>
     some r2)
    else (
     some false))
   else (
    some false))
  else (
   some false))
 else (
  some false)
def Zd1 (x0:GModel):Option Bool:=
 if decide ((x0.mem.length:Int)=192)=true then (
  (Zoo x0.mem 0 0).bind fun r0=>
  if r0=true then (
   (Zqh x0.dev).bind fun r1=>
   some r1)
  else (
   some false))
 else (
  some false)
def Zke (x0:GBeat):Option Bool:=
 some (!x0.live)
def Zch (x0:List GBeat)  (k:Int→Option Int) (v0:Int):Option Int:=
 if decide (v0 < (x0.length:Int))=true then (
  (idx x0 v0).bind fun a0=>
  (Zke a0).bind fun r0=>
  if r0=true then (
   some v0)
  else (
   k (addW v0 1)))
 else (
  some (-1))
def Xx (x0:List GBeat)  : Nat→Int→Option Int
 | 0,_=>none
 | m+1,v0=>Zch x0  (Xx x0  m) v0
def Wf (x0:List GBeat):Option Int:=
 Xx x0 FU 0
def Zbj (x0:List GBeat)  (k:(List GBeat)→Int→Int→Option (List GBeat)) (v0:List GBeat) (v1:Int) (v2:Int):Option (List GBeat):=
 if decide (v2 < (v0.length:Int))=true then (
  (idx v0 v2).bind fun a0=>
  (Zke a0).bind fun r0=>
  if (!r0)=true then (
   (idx v0 v1).bind fun a1=>
   (setO v0 v1 a0).bind fun y0=>
   k y0 (addW v1 1) (addW v2 1))
  else (
   k v0 v1 (addW v2 1)))
 else (
  (Q3 v0 v1 (v0.length:Int)).bind fun s0=>
  (clrI GBeat.z0 v0 v1 (v0.length:Int)).bind fun y1=>
  (Q3 y1 0 v1).bind fun s1=>
  some s1)
def Xs (x0:List GBeat)  : Nat→(List GBeat)→Int→Int→Option (List GBeat)
 | 0,_,_,_=>none
 | m+1,v0,v1,v2=>Zbj x0  (Xs x0  m) v0 v1 v2
def Y4 (x0:List GBeat):Option (List GBeat):=
 (Wf x0).bind fun r1=>
 if decide (r1=(-1))=true then (
  some x0)
 else (
  Xs x0 FU x0 r1 (addW r1 1))
def Znv (x0:GBus):Option (List GBeat):=
 (Y4 [x0.addr,x0.data_]).bind fun r0=>
 some r0
def Wr (x0:GBus) (k_L1:(List Int)→(List GBeat)→Int→Int→Option Bool) (vb0:GBeat) (v0:List Int) (v1:List GBeat) (v2:Int) (v3:Int) (v4:Bool):Option Bool:=
 if v4=true then (
  some false)
 else (
  (idx v0 vb0.who).bind fun a0=>
  (setO v0 vb0.who (addW a0 1)).bind fun y0=>
  k_L1 y0 v1 v2 (addW v3 1))
def X1 (x0:GBus)  (v5:Bool):Option Bool:=
 if v5=true then (
  some false)
 else (
  if (!x0.data_.second)=true then (
   some true)
  else (
   if decide (x0.data_.left=0)=true then (
    if decide (x0.data_.resp≠0)=true then (
     some (!x0.addr.live))
    else (
     some false))
   else (
    some false)))
def Kw (x0:GBus)  (vb1:GMst) (v6:Bool):Option Bool:=
 if v6=true then (
  some false)
 else (
  if decide (x0.data_.resp=3)=true then (
   if vb1.parted=true then (
    X1 x0 true)
   else (
    X1 x0 (decide (x0.data_.who=x0.holder))))
  else (
   X1 x0 false))
def Qm (x0:GBus)  (vb1:GMst) (v7:Bool):Option Bool:=
 if v7=true then (
  some false)
 else (
  if decide (x0.data_.resp=2)=true then (
   Kw x0 vb1 (decide (vb1.tries≥x0.conf.maxRetry)))
  else (
   Kw x0 vb1 false))
def Yf (x0:GBus)  (v8:Bool):Option Bool:=
 if v8=true then (
  some false)
 else (
  if (!x0.data_.live)=true then (
   some ((x0.data_.live == false)&&(decide (x0.data_.who=0)&&(decide (x0.data_.beat=0)&&((x0.data_.first == false)&&(decide (x0.data_.by_=0)&&(decide (x0.data_.left=0)&&(decide (x0.data_.resp=0)&&((x0.data_.second == false)&&true)))))))))
  else (
   (idx x0.m x0.data_.who).bind fun a1=>
   if decide (x0.data_.beat≠a1.done)=true then (
    Qm x0 a1 true)
   else (
    (Z1 x0.data_.left 0 (addW x0.conf.maxWait 2)).bind fun r0=>
    if (!r0)=true then (
     Qm x0 a1 true)
    else (
     (Z1 x0.data_.resp 0 3).bind fun r1=>
     Qm x0 a1 (!r1)))))
def Y7 (x0:GBus)  (k:(List Int)→Int→Option Bool) (v0:List Int) (v9:Int):Option Bool:=
 if decide (v9 < (x0.m.length:Int))=true then (
  (idx x0.m v9).bind fun a2=>
  (idx v0 v9).bind fun a3=>
  if decide ((subW a2.beat a2.done)≠a3)=true then (
   some false)
  else (
   k v0 (addW v9 1)))
 else (
  if x0.addr.live=true then (
   (idx x0.m x0.addr.who).bind fun a4=>
   if decide (x0.addr.beat≠(subW a4.beat 1))=true then (
    Yf x0 true)
   else (
    if decide (x0.addr.left≠0)=true then (
     Yf x0 true)
    else (
     if decide (x0.addr.resp≠0)=true then (
      Yf x0 true)
     else (
      if x0.addr.second=true then (
       Yf x0 true)
      else (
       if (!x0.addr.live)=true then (
        Yf x0 (!((x0.addr.live == false)&&(decide (x0.addr.who=0)&&(decide (x0.addr.beat=0)&&((x0.addr.first == false)&&(decide (x0.addr.by_=0)&&(decide (x0.addr.left=0)&&(decide (x0.addr.resp=0)&&((x0.addr.second == false)&&true))))))))))
       else (
        Yf x0 false))))))
  else (
   if (!x0.addr.live)=true then (
    Yf x0 (!((x0.addr.live == false)&&(decide (x0.addr.who=0)&&(decide (x0.addr.beat=0)&&((x0.addr.first == false)&&(decide (x0.addr.by_=0)&&(decide (x0.addr.left=0)&&(decide (x0.addr.resp=0)&&((x0.addr.second == false)&&true))))))))))
   else (
    Yf x0 false)))
def Kv (x0:GBus)  : Nat→(List Int)→Int→Option Bool
 | 0,_,_=>none
 | m+1,v0,v9=>Y7 x0  (Kv x0  m) v0 v9
def Y8 (x0:GBus)  (k:(List Int)→(List GBeat)→Int→Int→Option Bool) (v0:List Int) (v1:List GBeat) (v2:Int) (v3:Int):Option Bool:=
 if decide (v3 < v2)=true then (
  (idx v1 v3).bind fun a5=>
  (Qh x0.conf a5.who).bind fun r2=>
  if (!r2)=true then (
   Wr x0 k a5 v0 v1 v2 v3 true)
  else (
   (Z1 a5.by_ 1 3).bind fun r3=>
   if (!r3)=true then (
    Wr x0 k a5 v0 v1 v2 v3 true)
   else (
    (idx x0.splits a5.who).bind fun a6=>
    Wr x0 k a5 v0 v1 v2 v3 (decide (a6≠0)))))
 else (
  Kv x0 FU v0 0)
def Zaz (x0:GBus)  : Nat→(List Int)→(List GBeat)→Int→Int→Option Bool
 | 0,_,_,_,_=>none
 | m+1,v0,v1,v2,v3=>Y8 x0  (Zaz x0  m) v0 v1 v2 v3
def Jt (x0:GBus):Option Bool:=
 (mkI 8 (x0.m.length:Int) 0).bind fun m0=>
 (Znv x0).bind fun r4=>
 Zaz x0 FU m0 r4 (r4.length:Int) 0
def Zma (x0:GMst):Option Bool:=
 if decide ((x0.queue.length:Int) > 0)=true then (
  (idx x0.queue 0).bind fun a0=>
  if a0.lock=true then (
   some (!x0.broken))
  else (
   some false))
 else (
  some false)
def Zb8 (x0:GBus)  (k:Int→Option Bool) (v0:Int):Option Bool:=
 if decide (v0 < (x0.m.length:Int))=true then (
  (idx x0.m v0).bind fun a0=>
  if decide (a0.beat > 0)=true then (
   (Zma a0).bind fun r0=>
   if r0=true then (
    if decide (x0.holder≠v0)=true then (
     some false)
    else (
     k (addW v0 1)))
   else (
    k (addW v0 1)))
  else (
   k (addW v0 1)))
 else (
  if decide (x0.holder=(-1))=true then (
   some (decide (x0.held=0)))
  else (
   (Qh x0.conf x0.holder).bind fun r1=>
   if r1=true then (
    (idx x0.m x0.holder).bind fun a1=>
    (Zma a1).bind fun r2=>
    if r2=true then (
     (idx x0.splits x0.holder).bind fun a2=>
     if decide (a2=0)=true then (
      (Z1 x0.held 0 x0.conf.lockMost).bind fun r3=>
      some r3)
     else (
      some false))
    else (
     some false))
   else (
    some false)))
def Zjc (x0:GBus)  : Nat→Int→Option Bool
 | 0,_=>none
 | m+1,v0=>Zb8 x0  (Zjc x0  m) v0
def Zbc (x0:GBus):Option Bool:=
 Zjc x0 FU 0
def Zaf (x0:GBus)  (k:Int→Int→Option Bool) (v0:Int) (v1:Int):Option Bool:=
 if decide (v1 < (x0.log.length:Int))=true then (
  (idx x0.log v1).bind fun a0=>
  if decide (a0.cycle≤v0)=true then (
   some false)
  else (
   if decide (a0.cycle≥x0.now)=true then (
    some false)
   else (
    (Qh x0.conf a0.who).bind fun r0=>
    if (!r0)=true then (
     some false)
    else (
     (Zdy a0.addr a0.size).bind fun r1=>
     if (!r1)=true then (
      some false)
     else (
      if decide (a0.addr≥512)=true then (
       some false)
      else (
       (Za9 a0.value a0.size).bind fun r2=>
       if (!r2)=true then (
        some false)
       else (
        if decide (a0.resp≠0)=true then (
         if decide (a0.resp≠1)=true then (
          some false)
         else (
          k a0.cycle (addW v1 1)))
        else (
         k a0.cycle (addW v1 1)))))))))
 else (
  some true)
def Za2 (x0:GBus)  : Nat→Int→Int→Option Bool
 | 0,_,_=>none
 | m+1,v0,v1=>Zaf x0  (Za2 x0  m) v0 v1
def Jr (x0:GBus):Option Bool:=
 Za2 x0 FU (-1) 0
def Zmf (x0:GBus):Option Bool:=
 (Zgg x0.conf).bind fun r0=>
 if r0=true then (
  (Z1 x0.now 0 4000).bind fun r1=>
  if r1=true then (
   (Zdp x0).bind fun r2=>
   if r2=true then (
    (Zig x0.arb x0.conf).bind fun r3=>
    if r3=true then (
     if decide (x0.last=(-1))=true then (
      (Zd1 x0.model).bind fun r4=>
      if r4=true then (
       (Z1 x0.picks 0 x0.now).bind fun r5=>
       if r5=true then (
        (Jt x0).bind fun r6=>
        if r6=true then (
         (Zbc x0).bind fun r7=>
         if r7=true then (
          (Jr x0).bind fun r8=>
          some r8)
         else (
          some false))
        else (
         some false))
       else (
        some false))
      else (
       some false))
     else (
      (Qh x0.conf x0.last).bind fun r9=>
      if r9=true then (
       (Zd1 x0.model).bind fun r4=>
       if r4=true then (
        (Z1 x0.picks 0 x0.now).bind fun r5=>
        if r5=true then (
         (Jt x0).bind fun r6=>
         if r6=true then (
          (Zbc x0).bind fun r7=>
          if r7=true then (
           (Jr x0).bind fun r8=>
           some r8)
          else (
           some false))
         else (
          some false))
        else (
         some false))
       else (
        some false))
      else (
       some false)))
    else (
     some false))
   else (
    some false))
  else (
   some false))
 else (
  some false)
def Z1w (x0:GScript)  (k:Int→Int→Option Int) (v0:Int) (v1:Int):Option Int:=
 if decide (v1 < (x0.posts.length:Int))=true then (
  (idx x0.posts v1).bind fun a0=>
  k (maxI v0 a0.at_) (addW v1 1))
 else (
  some v0)
def Zfg (x0:GScript)  : Nat→Int→Int→Option Int
 | 0,_,_=>none
 | m+1,v0,v1=>Z1w x0  (Zfg x0  m) v0 v1
def Znz (x0:GScript):Option Int:=
 Zfg x0 FU (-1) 0
def Zb6 (x0:GMst):Option Bool:=
 some (decide ((x0.queue.length:Int) > 0))
def Zcf (x0:List GMst)  (k:Int→Option Int) (v0:Int):Option Int:=
 if decide (v0 < (x0.length:Int))=true then (
  (idx x0 v0).bind fun a0=>
  (Zb6 a0).bind fun r0=>
  if r0=true then (
   some v0)
  else (
   k (addW v0 1)))
 else (
  some (-1))
def Yw (x0:List GMst)  : Nat→Int→Option Int
 | 0,_=>none
 | m+1,v0=>Zcf x0  (Yw x0  m) v0
def We (x0:List GMst):Option Int:=
 Yw x0 FU 0
def Xz (x0:List GMst):Option Bool:=
 (We x0).bind fun r0=>
 some (decide (r0≥0))
def Zjz (x0:GBus):Option Bool:=
 (Xz x0.m).bind fun r0=>
 some (!r0)
def Zhp (x0:GMst) (x1:Int)  (v0:Bool):Option Int:=
 if v0=true then (
  some (-1))
 else (
  (idx x0.queue 0).bind fun a0=>
  (Zeq a0.addr a0.size a0.burst).bind fun r0=>
  (idx r0 x1).bind fun a1=>
  some a1)
def Za3 (x0:GMst) (x1:Int):Option Int:=
 (Wu x0).bind fun r1=>
 if (!r1)=true then (
  Zhp x0 x1 true)
 else (
  (Ja x0).bind fun r2=>
  (Z1 x1 0 (subW r2 1)).bind fun r3=>
  Zhp x0 x1 (!r3))
def Zf0 (x0:GScript) (x1:Int)  (k:(List GPost)→Int→Option (List GPost)) (v0:List GPost) (v1:Int):Option (List GPost):=
 if decide (v1 < (x0.posts.length:Int))=true then (
  (idx x0.posts v1).bind fun a0=>
  if decide (a0.at_=x1)=true then (
   (Zfq a0.req).bind fun r0=>
   (appI 80 v0 [{a0 with req:=r0}]).bind fun z0=>
   k z0 (addW v1 1))
  else (
   k v0 (addW v1 1)))
 else (
  some v0)
def Zh2 (x0:GScript) (x1:Int)  : Nat→(List GPost)→Int→Option (List GPost)
 | 0,_,_=>none
 | m+1,v0,v1=>Zf0 x0 x1  (Zh2 x0 x1  m) v0 v1
def Zpw (x0:GScript) (x1:Int):Option (List GPost):=
 Zh2 x0 x1 FU [] 0
def Zdh (x0:GMst) (x1:GReq)  (vb0:GMst) (v0:Bool):Option (GMst×Bool):=
 if v0=true then (
  some (vb0,false))
 else (
  (Zfq x1).bind fun r0=>
  (appI 64 vb0.queue [r0]).bind fun z0=>
  some ({vb0 with queue:=z0},true))
def Zo1 (x0:GMst) (x1:GReq):Option (GMst×Bool):=
 (Zc4 x0).bind fun r1=>
 (Wu x0).bind fun r2=>
 if (!r2)=true then (
  Zdh x0 x1 r1 true)
 else (
  (Zmb x1).bind fun r3=>
  if (!r3)=true then (
   Zdh x0 x1 r1 true)
  else (
   Zdh x0 x1 r1 (decide ((x0.queue.length:Int)=4))))
def Zj1 (x0:GBucket) (x1:GMConf):Option Bool:=
 if x1.prio=true then (
  (Zih x0 x1).bind fun r0=>
  some r0)
 else (
  some false)
def Zjv (x0:GBucket) (x1:GMConf):Option GBucket:=
 (Zj1 x0 x1).bind fun r0=>
 if (!r0)=true then (
  some x0)
 else (
  if decide ((addW x0.count 1)=x1.every)=true then (
   some (GBucket.mk (minI (addW x0.tokens 1) x1.cap) 0))
  else (
   some (GBucket.mk x0.tokens (addW x0.count 1))))
def Zh8 (x0:GMst)  (vb0:GMst) (v0:Bool):Option (GMst×Bool):=
 if v0=true then (
  some (vb0,false))
 else (
  some ({vb0 with beat:=(subW vb0.beat 1)},true))
def Zpa (x0:GMst):Option (GMst×Bool):=
 (Zc4 x0).bind fun r0=>
 (Wu x0).bind fun r1=>
 if (!r1)=true then (
  Zh8 x0 r0 true)
 else (
  Zh8 x0 r0 (decide (x0.beat=x0.done)))
def Zkd (x0:GBucket) (x1:GMConf):Option GBucket:=
 (Zj1 x0 x1).bind fun r0=>
 if r0=true then (
  if decide (x0.tokens < x1.cap)=true then (
   some (GBucket.mk (addW x0.tokens 1) x0.count))
  else (
   some x0))
 else (
  some x0)
def Zg7 (x0:GWrr) (x1:GConf) (x2:Int)  (v0:Bool):Option GWrr:=
 if v0=true then (
  (Zjx x1 x2).bind fun r0=>
  some (GWrr.mk x0.at_ (minI (addW x0.credit 1) r0)))
 else (
  some x0)
def Zpr (x0:GWrr) (x1:GConf) (x2:Int):Option GWrr:=
 (Zig x0 x1).bind fun r1=>
 if r1=true then (
  Zg7 x0 x1 x2 (decide (x2=x0.at_)))
 else (
  Zg7 x0 x1 x2 false)
def Zbe (x0:GBus) (x1:GBeat):Option GBus:=
 (idx x0.m x1.who).bind fun a0=>
 (Zpa a0).bind fun r0=>
 (setO x0.m x1.who r0.1).bind fun y0=>
 if decide (x1.by_=1)=true then (
  (idx x0.buckets x1.who).bind fun a1=>
  (idx x0.conf.masters x1.who).bind fun a2=>
  (Zkd a1 a2).bind fun r1=>
  (setO x0.buckets x1.who r1).bind fun y1=>
  some {x0 with m:=y0,buckets:=y1})
 else (
  if decide (x1.by_=2)=true then (
   (Zpr x0.arb x0.conf x1.who).bind fun r2=>
   some {x0 with m:=y0,arb:=r2})
  else (
   some {x0 with m:=y0}))
def Zhh (x0:List Int) (x1:Int)  (v0:Bool):Option Int:=
 if v0=true then (
  some 0)
 else (
  (nzI (x0.length:Int)).bind fun n0=>
  (idx x0 (remW x1 (x0.length:Int))).bind fun a0=>
  some a0)
def Zg4 (x0:List Int) (x1:Int):Option Int:=
 if decide ((x0.length:Int)=0)=true then (
  Zhh x0 x1 true)
 else (
  Zhh x0 x1 (decide (x1 < 0)))
def Zp1 (x0:GConf) (x1:GScript) (x2:Int):Option Int:=
 (Zg4 x1.waits x2).bind fun r0=>
 some (maxI 1 (minI (addW (maxI 0 (minI r0 99)) 1) x0.maxSplit))
def Zjs (x0:GMst) (x1:Int):Option Int:=
 (idx x0.queue 0).bind fun a0=>
 if a0.write=true then (
  (idx a0.data_ x1).bind fun a1=>
  some a1)
 else (
  some 0)
def Zhr (x0:Int)  (v0:Bool):Option Int:=
 if v0=true then (
  some 0)
 else (
  if decide (x0 < 128)=true then (
   some 1)
  else (
   if decide (x0 < 192)=true then (
    some 2)
   else (
    some 3)))
def Zk9 (x0:Int):Option Int:=
 if decide (x0 < 0)=true then (
  Zhr x0 true)
 else (
  Zhr x0 (decide (x0≥224)))
def Zgr (x0:GDev) (x1:Bool) (x2:Int) (x3:Int)  (vb0:GDev) (v0:Bool):Option (GDev×Int×Bool):=
 if v0=true then (
  some (vb0,0,false))
 else (
  if x1=true then (
   (idx vb0.regs (quoW x2 4)).bind fun a0=>
   (setO vb0.regs (quoW x2 4) x3).bind fun y0=>
   some ({vb0 with regs:=y0},x3,true))
  else (
   (idx x0.regs (quoW x2 4)).bind fun a1=>
   some (vb0,a1,true)))
def Zgk (x0:GDev) (x1:Bool) (x2:Int) (x3:Int)  (vb0:GDev) (v1:Bool):Option (GDev×Int×Bool):=
 if v1=true then (
  (idx x0.fifo 0).bind fun a2=>
  (Q3 x0.fifo 1 (x0.fifo.length:Int)).bind fun s0=>
  (Yd s0).bind fun r0=>
  some ({vb0 with fifo:=r0},a2,true))
 else (
  if decide (x2≥16)=true then (
   Zgr x0 x1 x2 x3 vb0 true)
  else (
   if decide (x2 < 0)=true then (
    Zgr x0 x1 x2 x3 vb0 true)
   else (
    Zgr x0 x1 x2 x3 vb0 (decide ((remW x2 4)≠0)))))
def Zgo (x0:GDev) (x1:Bool) (x2:Int) (x3:Int)  (vb0:GDev) (v2:Bool):Option (GDev×Int×Bool):=
 if v2=true then (
  (appI 8 vb0.fifo [x3]).bind fun z0=>
  some ({vb0 with fifo:=z0},x3,true))
 else (
  if decide (x2=20)=true then (
   if (!x1)=true then (
    Zgk x0 x1 x2 x3 vb0 (decide ((x0.fifo.length:Int) > 0)))
   else (
    Zgk x0 x1 x2 x3 vb0 false))
  else (
   Zgk x0 x1 x2 x3 vb0 false))
def Zls (x0:GDev) (x1:Bool) (x2:Int) (x3:Int)  (vb0:GDev) (v3:Bool):Option (GDev×Int×Bool):=
 if v3=true then (
  some ({vb0 with timer:=x3},x3,true))
 else (
  if decide (x2=16)=true then (
   (Zkq 2).bind fun r1=>
   (nzI r1).bind fun n0=>
   some ({vb0 with timer:=(remW (addW x0.timer 1) r1)},x0.timer,true))
  else (
   if decide (x2=20)=true then (
    if x1=true then (
     Zgo x0 x1 x2 x3 vb0 (decide ((x0.fifo.length:Int) < 4)))
    else (
     Zgo x0 x1 x2 x3 vb0 false))
   else (
    Zgo x0 x1 x2 x3 vb0 false)))
def Zam (x0:GDev) (x1:Bool) (x2:Int) (x3:Int)  (vb0:GDev) (v4:Bool):Option (GDev×Int×Bool):=
 if v4=true then (
  some (vb0,0,false))
 else (
  if decide (x2=16)=true then (
   Zls x0 x1 x2 x3 vb0 x1)
  else (
   Zls x0 x1 x2 x3 vb0 false))
def Zur (x0:GDev) (x1:Bool) (x2:Int) (x3:Int):Option (GDev×Int×Bool):=
 (Zml x0).bind fun r2=>
 (Zqh x0).bind fun r3=>
 if (!r3)=true then (
  Zam x0 x1 x2 x3 r2 true)
 else (
  if x1=true then (
   (Za9 x3 2).bind fun r4=>
   Zam x0 x1 x2 x3 r2 (!r4))
  else (
   Zam x0 x1 x2 x3 r2 false))
def Zdu (x0:List Int) (x1:Int) (x2:Int) (x3:Int)  (k:(List Int)→Int→Int→Option (List Int×Bool)) (v0:List Int) (v1:Int) (v2:Int):Option (List Int×Bool):=
 if decide (v2 < v1)=true then (
  (nnI (mulW 8 v2)).bind fun n0=>
  (idx v0 (addW x1 v2)).bind fun a0=>
  (setO v0 (addW x1 v2) (andW (shrW x3 (mulW 8 v2)) 255)).bind fun y0=>
  k y0 v1 (addW v2 1))
 else (
  some (v0,true))
def Zjk (x0:List Int) (x1:Int) (x2:Int) (x3:Int)  : Nat→(List Int)→Int→Int→Option (List Int×Bool)
 | 0,_,_,_=>none
 | m+1,v0,v1,v2=>Zdu x0 x1 x2 x3  (Zjk x0 x1 x2 x3  m) v0 v1 v2
def Zji (x0:List Int) (x1:Int) (x2:Int) (x3:Int)  (v0:List Int) (v3:Bool):Option (List Int×Bool):=
 if v3=true then (
  some (v0,false))
 else (
  (Q5 x2).bind fun r0=>
  Zjk x0 x1 x2 x3 FU v0 r0 0)
def Zrj (x0:List Int) (x1:Int) (x2:Int) (x3:Int):Option (List Int×Bool):=
 (Yd x0).bind fun r1=>
 (Zoo x0 x1 x2).bind fun r2=>
 if (!r2)=true then (
  Zji x0 x1 x2 x3 r1 true)
 else (
  (Za9 x3 x2).bind fun r3=>
  Zji x0 x1 x2 x3 r1 (!r3))
def Zdi (x0:List Int) (x1:Int) (x2:Int)  (k:Int→Int→Int→Option (Int×Bool)) (v0:Int) (v1:Int) (v2:Int):Option (Int×Bool):=
 if decide (v2 < v1)=true then (
  (idx x0 (addW x1 v2)).bind fun a0=>
  (nnI (mulW 8 v2)).bind fun n0=>
  k (orW v0 (shlW a0 (mulW 8 v2))) v1 (addW v2 1))
 else (
  some (v0,true))
def Zj0 (x0:List Int) (x1:Int) (x2:Int)  : Nat→Int→Int→Int→Option (Int×Bool)
 | 0,_,_,_=>none
 | m+1,v0,v1,v2=>Zdi x0 x1 x2  (Zj0 x0 x1 x2  m) v0 v1 v2
def Zrd (x0:List Int) (x1:Int) (x2:Int):Option (Int×Bool):=
 (Zoo x0 x1 x2).bind fun r0=>
 if (!r0)=true then (
  some (0,false))
 else (
  (Q5 x2).bind fun r1=>
  Zj0 x0 x1 x2 FU 0 r1 0)
def Zag (x0:GModel) (x1:Bool) (x2:Int) (x3:Int) (x4:Int)  (vb0:GModel) (v0:Int) (v1:Bool):Option (GModel×Int×Int):=
 if (!v1)=true then (
  (Ze0 x0).bind fun r0=>
  some (r0,0,1))
 else (
  some (vb0,v0,0))
def Zhv (x0:GModel) (x1:Bool) (x2:Int) (x3:Int) (x4:Int)  (vb0:GModel) (v2:Bool):Option (GModel×Int×Int):=
 if v2=true then (
  if x1=true then (
   (Zrj x0.mem x2 x3 x4).bind fun r1=>
   Zag x0 x1 x2 x3 x4 (GModel.mk r1.1 vb0.dev) x4 r1.2)
  else (
   (Zrd x0.mem x2 x3).bind fun r2=>
   Zag x0 x1 x2 x3 x4 vb0 r2.1 r2.2))
 else (
  Zag x0 x1 x2 x3 x4 vb0 x4 false)
def Zhu (x0:GModel) (x1:Bool) (x2:Int) (x3:Int) (x4:Int)  (vb0:GModel) (v3:Int) (v4:Bool):Option (GModel×Int×Int):=
 if v4=true then (
  (Zur x0.dev x1 (subW x2 192) x4).bind fun r3=>
  Zag x0 x1 x2 x3 x4 (GModel.mk vb0.mem r3.1) r3.2.1 r3.2.2)
 else (
  if decide (v3=1)=true then (
   Zhv x0 x1 x2 x3 x4 vb0 true)
  else (
   Zhv x0 x1 x2 x3 x4 vb0 (decide (v3=2))))
def W4 (x0:GModel) (x1:Bool) (x2:Int) (x3:Int) (x4:Int)  (vb0:GModel) (v5:Bool):Option (GModel×Int×Int):=
 if v5=true then (
  some (vb0,0,1))
 else (
  (Zk9 x2).bind fun r4=>
  if decide (r4=3)=true then (
   Zhu x0 x1 x2 x3 x4 vb0 r4 (decide (x3=2)))
  else (
   Zhu x0 x1 x2 x3 x4 vb0 r4 false))
def Zp0 (x0:GModel) (x1:Bool) (x2:Int) (x3:Int) (x4:Int):Option (GModel×Int×Int):=
 (Ze0 x0).bind fun r5=>
 (Zd1 x0).bind fun r6=>
 if (!r6)=true then (
  W4 x0 x1 x2 x3 x4 r5 true)
 else (
  (Zdy x2 x3).bind fun r7=>
  if (!r7)=true then (
   W4 x0 x1 x2 x3 x4 r5 true)
  else (
   if x1=true then (
    (Za9 x4 x3).bind fun r8=>
    W4 x0 x1 x2 x3 x4 r5 (!r8))
   else (
    W4 x0 x1 x2 x3 x4 r5 false)))
def Zni (x0:GBus) (x1:GBeat):Option (GModel×Int×Int):=
 (idx x0.m x1.who).bind fun a0=>
 (idx a0.queue 0).bind fun a1=>
 (Za3 a0 x1.beat).bind fun r0=>
 (Zjs a0 x1.beat).bind fun r1=>
 (Zp0 x0.model a1.write r0 a1.size r1).bind fun r2=>
 some (r2.1,r2.2.1,r2.2.2)
def Zjp (x0:GMst)  (vb0:GMst) (v0:Bool):Option (GMst×Bool):=
 if v0=true then (
  some (vb0,false))
 else (
  (Ja {vb0 with done:=(addW vb0.done 1)}).bind fun r0=>
  if decide ((addW vb0.done 1)=r0)=true then (
   (Q3 vb0.queue 1 (vb0.queue.length:Int)).bind fun s0=>
   some ((GMst.mk s0 0 0 0 false false),true))
  else (
   some ((GMst.mk vb0.queue vb0.beat (addW vb0.done 1) 0 false vb0.broken),true)))
def Zrf (x0:GMst):Option (GMst×Bool):=
 (Zc4 x0).bind fun r1=>
 (Wu x0).bind fun r2=>
 if (!r2)=true then (
  Zjp x0 r1 true)
 else (
  Zjp x0 r1 (decide (x0.beat=x0.done)))
def Zi9 (x0:GBus):Option GBus:=
 some {x0 with holder:=(-1),held:=0}
def Zau (x0:GBus) (x1:GBeat)  (vb0:GBus) (vb1:GMst):Option GBus:=
 (idx vb0.m x1.who).bind fun a0=>
 (setO vb0.m x1.who vb1).bind fun y0=>
 some {vb0 with m:=y0}
def Zay (x0:GBus) (x1:GBeat)  (vb0:GBus) (vb1:GMst) (v0:Bool):Option GBus:=
 if v0=true then (
  (Zi9 vb0).bind fun r0=>
  Zau x0 x1 r0 vb1)
 else (
  Zau x0 x1 vb0 vb1)
def Ku (x0:GBus) (x1:GBeat)  (vb0:GBus) (vb1:GMst) (vb2:GDone):Option GBus:=
 (appI 56 vb0.log [vb2]).bind fun z0=>
 (Zrf vb1).bind fun r1=>
 if decide (vb0.holder=x1.who)=true then (
  Zay x0 x1 {vb0 with log:=z0} r1.1 (decide ((r1.1.queue.length:Int) < (vb1.queue.length:Int))))
 else (
  Zay x0 x1 {vb0 with log:=z0} r1.1 false)
def Zff (x0:GBus) (x1:GBeat):Option GBus:=
 (idx x0.m x1.who).bind fun a1=>
 (idx a1.queue 0).bind fun a2=>
 (Za3 a1 x1.beat).bind fun r2=>
 if decide (x1.resp=0)=true then (
  (Zni x0 x1).bind fun r3=>
  Ku x0 x1 {x0 with model:=r3.1} a1 (GDone.mk x0.now x1.who a2.write r2 a2.size r3.2.1 x1.resp))
 else (
  Ku x0 x1 x0 a1 (GDone.mk x0.now x1.who a2.write r2 a2.size 0 x1.resp))
def Zdk (x0:GBus) (x1:GScript) (x2:GWave)  (vb0:GBus):Option (Bool×GBus×GWave):=
 some (false,vb0,{x2 with resp:=x0.data_.resp})
def Ki (x0:GBus) (x1:GScript) (x2:GWave)  (v0:Bool):Option (Bool×GBus×GWave):=
 if v0=true then (
  if x0.addr.live=true then (
   (Zbe {x0 with data_:={x0.data_ with second:=true}} x0.addr).bind fun r0=>
   Zdk x0 x1 x2 {r0 with addr:=GBeat.z0})
  else (
   Zdk x0 x1 x2 {x0 with data_:={x0.data_ with second:=true}}))
 else (
  if decide (x0.data_.resp=2)=true then (
   (idx x0.m x0.data_.who).bind fun a0=>
   (setO x0.m x0.data_.who {a0 with tries:=(addW a0.tries 1)}).bind fun y0=>
   (Zbe {x0 with m:=y0,data_:=GBeat.z0} x0.data_).bind fun r1=>
   some (true,r1,{x2 with resp:=x0.data_.resp}))
  else (
   if decide (x0.data_.resp=3)=true then (
    (idx x0.m x0.data_.who).bind fun a1=>
    (setO x0.m x0.data_.who {a1 with parted:=true}).bind fun y1=>
    (Zp1 x0.conf x1 x0.picks).bind fun r2=>
    (idx x0.splits x0.data_.who).bind fun a2=>
    (setO x0.splits x0.data_.who r2).bind fun y2=>
    (Zbe {x0 with m:=y1,splits:=y2,data_:=GBeat.z0} x0.data_).bind fun r3=>
    some (true,r3,{x2 with resp:=x0.data_.resp}))
   else (
    (Zff {x0 with data_:=GBeat.z0} x0.data_).bind fun r4=>
    some (true,r4,{x2 with resp:=x0.data_.resp}))))
def Zkk (x0:GBus) (x1:GScript) (x2:GWave):Option (Bool×GBus×GWave):=
 if (!x0.data_.live)=true then (
  some (true,x0,x2))
 else (
  if decide (x0.data_.left > 0)=true then (
   some (false,{x0 with data_:={x0.data_ with left:=(subW x0.data_.left 1)}},x2))
  else (
   if decide (x0.data_.resp≠0)=true then (
    Ki x0 x1 x2 (!x0.data_.second))
   else (
    Ki x0 x1 x2 false)))
def Zrl (x0:GConf) (x1:GScript) (x2:Int):Option Int:=
 (Zg4 x1.waits x2).bind fun r0=>
 some (maxI 0 (minI r0 x0.maxWait))
def Zrz (x0:GScript) (x1:Int):Option Int:=
 (Zg4 x0.says x1).bind fun r0=>
 if decide (r0=2)=true then (
  some r0)
 else (
  if decide (r0=3)=true then (
   some r0)
  else (
   some 0))
def Wl (x0:GBus) (x1:GScript) (x2:GBeat)  (vb0:GMst) (v0:Int) (v1:Int) (v2:Int) (v3:Int) (v4:Bool):Option (Int×Int):=
 if v4=true then (
  some (2,v2))
 else (
  if decide (v3=3)=true then (
   if decide (v0=2)=true then (
    if (!vb0.parted)=true then (
     if decide (x2.who≠x0.holder)=true then (
      some (3,v2))
     else (
      some (v1,v2)))
    else (
     some (v1,v2)))
   else (
    some (v1,v2)))
  else (
   some (v1,v2)))
def Zac (x0:GBus) (x1:GScript) (x2:GBeat)  (vb1:GMst) (v0:Int) (v1:Int) (v2:Int):Option (Int×Int):=
 (Zrz x1 x0.picks).bind fun r0=>
 if decide (r0=2)=true then (
  if decide (v0≠3)=true then (
   Wl x0 x1 x2 vb1 v0 v1 v2 r0 (decide (vb1.tries < x0.conf.maxRetry)))
  else (
   Wl x0 x1 x2 vb1 v0 v1 v2 r0 false))
 else (
  Wl x0 x1 x2 vb1 v0 v1 v2 r0 false)
def Qf (x0:GBus) (x1:GScript) (x2:GBeat)  (vb1:GMst) (v0:Int) (v5:Bool):Option (Int×Int):=
 if v5=true then (
  some (1,0))
 else (
  (Zni x0 x2).bind fun r1=>
  (Zrl x0.conf x1 x0.picks).bind fun r2=>
  if decide (v0=3)=true then (
   Zac x0 x1 x2 vb1 v0 r1.2.2 (addW r2 2))
  else (
   Zac x0 x1 x2 vb1 v0 r1.2.2 r2))
def Zj8 (x0:GBus) (x1:GScript) (x2:GBeat):Option (Int×Int):=
 (idx x0.m x2.who).bind fun a0=>
 (Za3 a0 x2.beat).bind fun r3=>
 (Zk9 r3).bind fun r4=>
 if a0.broken=true then (
  Qf x0 x1 x2 a0 r4 true)
 else (
  Qf x0 x1 x2 a0 r4 (decide (r4=0)))
def Zim (x0:GMst):Option Bool:=
 (Wu x0).bind fun r0=>
 if r0=true then (
  (Ja x0).bind fun r1=>
  some (decide (x0.beat < r1)))
 else (
  some false)
def Zcw (x0:GBucket) (x1:GMConf)  (v0:Bool):Option (GBucket×Bool):=
 if v0=true then (
  some (x0,false))
 else (
  some ((GBucket.mk (subW x0.tokens 1) x0.count),true))
def Zjt (x0:GBucket) (x1:GMConf):Option (GBucket×Bool):=
 (Zj1 x0 x1).bind fun r0=>
 if (!r0)=true then (
  Zcw x0 x1 true)
 else (
  Zcw x0 x1 (decide (x0.tokens=0)))
def Zlx (x0:GWrr) (x1:GConf) (x2:List Bool)  (k:Int→Option (GWrr×Int)) (v0:Int):Option (GWrr×Int):=
 if decide (v0≤(x1.masters.length:Int))=true then (
  (nzI (x1.masters.length:Int)).bind fun n0=>
  (idx x2 (remW (addW x0.at_ v0) (x1.masters.length:Int))).bind fun a0=>
  if a0=true then (
   (Zjx x1 (remW (addW x0.at_ v0) (x1.masters.length:Int))).bind fun r0=>
   some ((GWrr.mk (remW (addW x0.at_ v0) (x1.masters.length:Int)) (subW r0 1)),(remW (addW x0.at_ v0) (x1.masters.length:Int))))
  else (
   k (addW v0 1)))
 else (
  some ((GWrr.mk x0.at_ 0),(-1)))
def Zhw (x0:GWrr) (x1:GConf) (x2:List Bool)  : Nat→Int→Option (GWrr×Int)
 | 0,_=>none
 | m+1,v0=>Zlx x0 x1 x2  (Zhw x0 x1 x2  m) v0
def Zhj (x0:GWrr) (x1:GConf) (x2:List Bool)  (v1:Bool):Option (GWrr×Int):=
 if v1=true then (
  some ((GWrr.mk x0.at_ (subW x0.credit 1)),x0.at_))
 else (
  Zhw x0 x1 x2 FU 1)
def Zhg (x0:GWrr) (x1:GConf) (x2:List Bool)  (v2:Bool):Option (GWrr×Int):=
 if v2=true then (
  some (x0,(-1)))
 else (
  if decide (x0.credit > 0)=true then (
   (idx x2 x0.at_).bind fun a1=>
   Zhj x0 x1 x2 a1)
  else (
   Zhj x0 x1 x2 false))
def Zpi (x0:GWrr) (x1:GConf) (x2:List Bool):Option (GWrr×Int):=
 (Zig x0 x1).bind fun r1=>
 if (!r1)=true then (
  Zhg x0 x1 x2 true)
 else (
  Zhg x0 x1 x2 (decide ((x2.length:Int)≠(x1.masters.length:Int))))
def Zap (x0:GBus)  (k:(List Bool)→Int→Int→Option (Int×Int×GBus)) (v0:List Bool) (v1:Int) (v2:Int):Option (Int×Int×GBus):=
 if decide (v2 < v1)=true then (
  (idx v0 v2).bind fun a0=>
  if (!a0)=true then (
   k v0 v1 (addW v2 1))
  else (
   (idx x0.buckets v2).bind fun a1=>
   (idx x0.conf.masters v2).bind fun a2=>
   (Zjt a1 a2).bind fun r0=>
   if r0.2=true then (
    (setO x0.buckets v2 r0.1).bind fun y0=>
    some (v2,1,{x0 with buckets:=y0}))
   else (
    k v0 v1 (addW v2 1))))
 else (
  if decide (x0.holder≠(-1))=true then (
   some ((-1),0,x0))
  else (
   (Zpi x0.arb x0.conf v0).bind fun r1=>
   some (r1.2,2,{x0 with arb:=r1.1})))
def Zbs (x0:GBus)  : Nat→(List Bool)→Int→Int→Option (Int×Int×GBus)
 | 0,_,_,_=>none
 | m+1,v0,v1,v2=>Zap x0  (Zbs x0  m) v0 v1 v2
def Zf5 (x0:GBus)  (v0:List Bool) (v3:Bool):Option (Int×Int×GBus):=
 if v3=true then (
  some (x0.holder,3,x0))
 else (
  Zbs x0 FU v0 (v0.length:Int) 0)
def Zej (x0:GBus)  (k:(List Bool)→Int→Option (Int×Int×GBus)) (v0:List Bool) (v4:Int):Option (Int×Int×GBus):=
 if decide (v4 < (x0.m.length:Int))=true then (
  (idx x0.m v4).bind fun a3=>
  (Zim a3).bind fun r2=>
  if r2=true then (
   (idx x0.splits v4).bind fun a4=>
   if decide (a4=0)=true then (
    if decide (x0.holder=(-1))=true then (
     (appI 1 v0 [true]).bind fun z0=>
     k z0 (addW v4 1))
    else (
     (appI 1 v0 [decide (x0.holder=v4)]).bind fun z0=>
     k z0 (addW v4 1)))
   else (
    (appI 1 v0 [false]).bind fun z0=>
    k z0 (addW v4 1)))
  else (
   (appI 1 v0 [false]).bind fun z0=>
   k z0 (addW v4 1)))
 else (
  if decide (x0.holder≠(-1))=true then (
   (idx v0 x0.holder).bind fun a5=>
   Zf5 x0 v0 a5)
  else (
   Zf5 x0 v0 false))
def Zf1 (x0:GBus)  : Nat→(List Bool)→Int→Option (Int×Int×GBus)
 | 0,_,_=>none
 | m+1,v0,v4=>Zej x0  (Zf1 x0  m) v0 v4
def Zmv (x0:GBus):Option (Int×Int×GBus):=
 Zf1 x0 FU [] 0
def Zfv (x0:GMst)  (vb0:GMst) (v0:Bool):Option (GMst×Bool):=
 if v0=true then (
  some (vb0,false))
 else (
  some ({vb0 with beat:=(addW vb0.beat 1)},true))
def Znb (x0:GMst):Option (GMst×Bool):=
 (Zc4 x0).bind fun r0=>
 (Zim x0).bind fun r1=>
 if (!r1)=true then (
  Zfv x0 r0 true)
 else (
  Zfv x0 r0 (decide (x0.beat=(addW x0.done 2))))
def Zef (x0:GBus)  (vb0:GBus) (vb1:GMst) (v0:Int):Option (Int×GBus):=
 (Znb vb1).bind fun r0=>
 (idx vb0.m v0).bind fun a0=>
 (setO vb0.m v0 r0.1).bind fun y0=>
 some (v0,{vb0 with m:=y0,last:=v0})
def Zed (x0:GBus)  (vb0:GBus) (vb1:GMst) (v0:Int) (v1:Bool):Option (Int×GBus):=
 if v1=true then (
  Zef x0 {vb0 with holder:=v0,held:=0} vb1 v0)
 else (
  Zef x0 vb0 vb1 v0)
def Qs (x0:GBus)  (vb0:GBus) (vb1:GMst) (v0:Int):Option (Int×GBus):=
 (Zma vb1).bind fun r1=>
 if r1=true then (
  Zed x0 vb0 vb1 v0 (decide (vb0.holder=(-1))))
 else (
  Zed x0 vb0 vb1 v0 false)
def Zlu (x0:GBus):Option (Int×GBus):=
 (Zmv x0).bind fun r2=>
 if decide (r2.1 < 0)=true then (
  some ((-1),r2.2.2))
 else (
  (idx r2.2.2.m r2.1).bind fun a1=>
  if decide (a1.beat=0)=true then (
   Qs x0 {r2.2.2 with addr:=(GBeat.mk true r2.1 a1.beat true r2.2.1 0 0 false)} a1 r2.1)
  else (
   Qs x0 {r2.2.2 with addr:=(GBeat.mk true r2.1 a1.beat (decide (r2.2.2.last≠r2.1)) r2.2.1 0 0 false)} a1 r2.1))
def Zbu (x0:GBus) (x1:GScript)  (vb0:GBus) (vb1:GWave):Option (GWave×GBus):=
 some (vb1,{vb0 with now:=(addW vb0.now 1)})
def Zb0 (x0:GBus) (x1:GScript)  (vb0:GBus) (vb1:GWave):Option (GWave×GBus):=
 (Zlu vb0).bind fun r0=>
 Zbu x0 x1 r0.2 {vb1 with got:=r0.1}
def Jm (x0:GBus) (x1:GScript)  (vb0:GBus) (vb2:GWave):Option (GWave×GBus):=
 if vb0.addr.live=true then (
  (Zj8 vb0 x1 vb0.addr).bind fun r1=>
  Zb0 x0 x1 {vb0 with addr:=GBeat.z0,data_:={vb0.addr with left:=r1.2,resp:=r1.1},picks:=(addW vb0.picks 1)} vb2)
 else (
  Zb0 x0 x1 vb0 vb2)
def Qb (x0:GBus) (x1:GScript)  (vb0:GBus) (vb2:GWave) (v0:Bool):Option (GWave×GBus):=
 if v0=true then (
  (idx vb0.m vb0.holder).bind fun a0=>
  (setO vb0.m vb0.holder {a0 with broken:=true}).bind fun y0=>
  (Zi9 {vb0 with m:=y0}).bind fun r2=>
  Jm x0 x1 r2 vb2)
 else (
  Jm x0 x1 vb0 vb2)
def Qe (x0:GBus) (x1:GScript)  (vb0:GBus) (vb2:GWave):Option (GWave×GBus):=
 (Zkk vb0 x1 vb2).bind fun r3=>
 if r3.1=true then (
  if decide (r3.2.1.holder≠(-1))=true then (
   Qb x0 x1 r3.2.1 {r3.2.2 with ready:=r3.1} (decide (r3.2.1.held=r3.2.1.conf.lockMost)))
  else (
   Qb x0 x1 r3.2.1 {r3.2.2 with ready:=r3.1} false))
 else (
  Zbu x0 x1 r3.2.1 {r3.2.2 with ready:=r3.1})
def Zee (x0:GBus) (x1:GScript)  (k:GBus→GWave→Int→Int→Option (GWave×GBus)) (vb0:GBus) (vb2:GWave) (v1:Int) (v2:Int):Option (GWave×GBus):=
 if decide (v2 < v1)=true then (
  (idx vb0.splits v2).bind fun a1=>
  (setO vb0.splits v2 (maxI (subW a1 1) 0)).bind fun y1=>
  (idx vb0.buckets v2).bind fun a2=>
  (idx vb0.conf.masters v2).bind fun a3=>
  (Zjv a2 a3).bind fun r4=>
  (setO vb0.buckets v2 r4).bind fun y2=>
  k {vb0 with buckets:=y2,splits:=y1} vb2 v1 (addW v2 1))
 else (
  if decide (vb0.holder≠(-1))=true then (
   Qe x0 x1 {vb0 with held:=(minI (addW vb0.held 1) vb0.conf.lockMost)} vb2)
  else (
   Qe x0 x1 vb0 vb2))
def Ke (x0:GBus) (x1:GScript)  : Nat→GBus→GWave→Int→Int→Option (GWave×GBus)
 | 0,_,_,_,_=>none
 | m+1,vb0,vb2,v1,v2=>Zee x0 x1  (Ke x0 x1  m) vb0 vb2 v1 v2
def Zd8 (x0:GBus) (x1:GScript)  (k:GBus→GWave→(List GPost)→Int→Int→Option (GWave×GBus)) (vb0:GBus) (vb2:GWave) (v3:List GPost) (v4:Int) (v5:Int):Option (GWave×GBus):=
 if decide (v5 < v4)=true then (
  (idx v3 v5).bind fun a4=>
  (Qh vb0.conf a4.who).bind fun r5=>
  if r5=true then (
   (idx vb0.m a4.who).bind fun a5=>
   (Zo1 a5 a4.req).bind fun r6=>
   (setO vb0.m a4.who r6.1).bind fun y3=>
   k {vb0 with m:=y3} vb2 v3 v4 (addW v5 1))
  else (
   k vb0 vb2 v3 v4 (addW v5 1)))
 else (
  Ke x0 x1 FU vb0 vb2 (vb0.splits.length:Int) 0)
def Zbr (x0:GBus) (x1:GScript)  : Nat→GBus→GWave→(List GPost)→Int→Int→Option (GWave×GBus)
 | 0,_,_,_,_,_=>none
 | m+1,vb0,vb2,v3,v4,v5=>Zd8 x0 x1  (Zbr x0 x1  m) vb0 vb2 v3 v4 v5
def Zb1 (x0:GBus) (x1:GScript)  (vb2:GWave):Option (GWave×GBus):=
 (Zpw x1 x0.now).bind fun r7=>
 Zbr x0 x1 FU x0 vb2 r7 (r7.length:Int) 0
def Zb5 (x0:GBus) (x1:GScript)  (vb2:GWave):Option (GWave×GBus):=
 if x0.data_.live=true then (
  (idx x0.m x0.data_.who).bind fun a6=>
  (Za3 a6 x0.data_.beat).bind fun r8=>
  Zb1 x0 x1 {vb2 with data_:=r8,from_:=x0.data_.who})
 else (
  Zb1 x0 x1 vb2)
def Ze3 (x0:GBus) (x1:GScript):Option (GWave×GBus):=
 if x0.addr.live=true then (
  (idx x0.m x0.addr.who).bind fun a7=>
  (Za3 a7 x0.addr.beat).bind fun r9=>
  if x0.addr.first=true then (
   Zb5 x0 x1 (GWave.mk x0.now r9 2 x0.addr.who (-1) (-1) true 0 (-1)))
  else (
   Zb5 x0 x1 (GWave.mk x0.now r9 3 x0.addr.who (-1) (-1) true 0 (-1))))
 else (
  Zb5 x0 x1 (GWave.mk x0.now (-1) 0 (-1) (-1) (-1) true 0 (-1)))
def Zer (x0:GBus) (x1:GScript)  (vb0:GBus):Option (GBus×Int):=
 (Zm1 vb0).bind fun r0=>
 some (r0,(subW vb0.now x0.now))
def Zc9 (x0:GBus) (x1:GScript)  (k:GBus→Int→Option (GBus×Int)) (vb1:GBus) (v0:Int):Option (GBus×Int):=
 if decide (vb1.now < 4000)=true then (
  (Zjz vb1).bind fun r1=>
  if (!r1)=true then (
   (Ze3 vb1 x1).bind fun r2=>
   k r2.2 v0)
  else (
   if decide (vb1.now≤v0)=true then (
    (Ze3 vb1 x1).bind fun r2=>
    k r2.2 v0)
   else (
    Zer x0 x1 vb1)))
 else (
  Zer x0 x1 vb1)
def Jo (x0:GBus) (x1:GScript)  : Nat→GBus→Int→Option (GBus×Int)
 | 0,_,_=>none
 | m+1,vb1,v0=>Zc9 x0 x1  (Jo x0 x1  m) vb1 v0
def Zne (x0:GBus) (x1:GScript):Option (GBus×Int):=
 (Zm1 x0).bind fun r3=>
 (Zmf x0).bind fun r4=>
 if (!r4)=true then (
  some (r3,0))
 else (
  (Znz x1).bind fun r5=>
  Jo x0 x1 FU r3 r5)
def Zlf (x0:GConf) (x1:List GReq)  (k:GBus→GScript→Int→Option (List GDone×Bool)) (vb0:GBus) (vb1:GScript) (v0:Int):Option (List GDone×Bool):=
 if decide (v0 < (x1.length:Int))=true then (
  (idx x1 v0).bind fun a0=>
  (appI 80 vb1.posts [(GPost.mk 0 0 a0)]).bind fun z0=>
  k vb0 {vb1 with posts:=z0} (addW v0 1))
 else (
  (Zne vb0 vb1).bind fun r0=>
  some (r0.1.log,true))
def Zn2 (x0:GConf) (x1:List GReq)  : Nat→GBus→GScript→Int→Option (List GDone×Bool)
 | 0,_,_,_=>none
 | m+1,vb0,vb1,v0=>Zlf x0 x1  (Zn2 x0 x1  m) vb0 vb1 v0
def Zie (x0:GConf) (x1:List GReq)  (vb0:GBus) (v1:Bool):Option (List GDone×Bool):=
 if v1=true then (
  some ([],false))
 else (
  Zn2 x0 x1 FU vb0 GScript.z0 0)
def Zt0 (x0:GConf) (x1:List GReq):Option (List GDone×Bool):=
 (Zru x0).bind fun r1=>
 if (!r1.2)=true then (
  Zie x0 x1 r1.1 true)
 else (
  if decide ((x1.length:Int) > 4)=true then (
   Zie x0 x1 r1.1 true)
  else (
   (Wz x1).bind fun r2=>
   Zie x0 x1 r1.1 r2))
def Znh (x0:GConf):Option Bool:=
 (Zk x0.quantum 1 4).bind fun r0=>
 if r0=true then (
  (Zfz x0).bind fun r1=>
  if decide (r1 > 0)=true then (
   (Zk x0.maxSplit 1 12).bind fun r2=>
   if r2=true then (
    (Zk x0.lockMost 1 40).bind fun r3=>
    some r3)
   else (
    some false))
  else (
   some false))
 else (
  some false)
def Zm0 (x0:GConf)  (k:Int→Int→Option Bool) (v0:Int) (v1:Int):Option Bool:=
 if decide (v1 < (x0.masters.length:Int))=true then (
  (idx x0.masters v1).bind fun a0=>
  (Zk a0.weight 1 4).bind fun r0=>
  if (!r0)=true then (
   some false)
  else (
   if (!a0.prio)=true then (
    if decide (a0.every≠0)=true then (
     some false)
    else (
     if decide (a0.cap≠0)=true then (
      some false)
     else (
      if a0.prio=true then (
       (Zav x0).bind fun r1=>
       (Zk a0.every (mulW (mulW 2 v0) r1) 1000).bind fun r2=>
       if (!r2)=true then (
        some false)
       else (
        (Zk a0.cap 1 8).bind fun r3=>
        if (!r3)=true then (
         some false)
        else (
         k v0 (addW v1 1))))
      else (
       k v0 (addW v1 1)))))
   else (
    if a0.prio=true then (
     (Zav x0).bind fun r1=>
     (Zk a0.every (mulW (mulW 2 v0) r1) 1000).bind fun r2=>
     if (!r2)=true then (
      some false)
     else (
      (Zk a0.cap 1 8).bind fun r3=>
      if (!r3)=true then (
       some false)
      else (
       k v0 (addW v1 1))))
    else (
     k v0 (addW v1 1)))))
 else (
  (Zk (x0.masters.length:Int) 1 4).bind fun r4=>
  if r4=true then (
   (Znh x0).bind fun r5=>
   some r5)
  else (
   some false))
def Kp (x0:GConf)  : Nat→Int→Int→Option Bool
 | 0,_,_=>none
 | m+1,v0,v1=>Zm0 x0  (Kp x0  m) v0 v1
def Zm9 (x0:GConf)  (k:Int→Int→Option Bool) (v0:Int) (v2:Int):Option Bool:=
 if decide (v2 < (x0.masters.length:Int))=true then (
  (idx x0.masters v2).bind fun a1=>
  if a1.prio=true then (
   k (addW v0 1) (addW v2 1))
  else (
   k v0 (addW v2 1)))
 else (
  Kp x0 FU v0 0)
def Zju (x0:GConf)  : Nat→Int→Int→Option Bool
 | 0,_,_=>none
 | m+1,v0,v2=>Zm9 x0  (Zju x0  m) v0 v2
def Zaw (x0:GConf):Option Bool:=
 Zju x0 FU 0 0
def Zok (x0:GReq)  (k:Int→Option Bool) (v0:Int):Option Bool:=
 if decide (v0 < (x0.data_.length:Int))=true then (
  (idx x0.data_ v0).bind fun a0=>
  (Xi x0.size).bind fun r0=>
  (Zk a0 0 (subW r0 1)).bind fun r1=>
  if (!r1)=true then (
   some false)
  else (
   k (addW v0 1)))
 else (
  if decide ((x0.data_.length:Int)=0)=true then (
   if (!x0.write)=true then (
    some true)
   else (
    (Q0 x0.burst).bind fun r2=>
    if decide ((x0.data_.length:Int)=r2)=true then (
     some x0.write)
    else (
     some false)))
  else (
   (Q0 x0.burst).bind fun r2=>
   if decide ((x0.data_.length:Int)=r2)=true then (
    some x0.write)
   else (
    some false)))
def Zlp (x0:GReq)  : Nat→Int→Option Bool
 | 0,_=>none
 | m+1,v0=>Zok x0  (Zlp x0  m) v0
def Zmc (x0:GReq):Option Bool:=
 (Zk2 x0.addr x0.size x0.burst).bind fun r3=>
 if (!r3)=true then (
  some false)
 else (
  Zlp x0 FU 0)
def Zmk (x0:GConf):Option GConf:=
 (appI 32 [] x0.masters).bind fun z0=>
 some {x0 with masters:=z0}
def Zyo  : Option GDev:=
 (mkI 8 4 0).bind fun m0=>
 some (GDev.mk m0 0 [])
def Zn7  : Option GModel:=
 (mkI 8 192 0).bind fun m0=>
 (Zyo).bind fun r0=>
 some (GModel.mk m0 r0)
def Zll (x0:GMConf):Option GBucket:=
 if (!x0.prio)=true then (
  some GBucket.z0)
 else (
  some (GBucket.mk (maxI 0 x0.cap) 0))
def Zg9 (x0:GConf)  (k:GBus→Int→Option (GBus×Bool)) (vb0:GBus) (v0:Int):Option (GBus×Bool):=
 if decide (v0 < (x0.masters.length:Int))=true then (
  (appI 56 vb0.m [GMst.z0]).bind fun z0=>
  (idx x0.masters v0).bind fun a0=>
  (Zll a0).bind fun r0=>
  (appI 16 vb0.buckets [r0]).bind fun z1=>
  (appI 8 vb0.splits [0]).bind fun z2=>
  k {vb0 with m:=z0,buckets:=z1,splits:=z2} (addW v0 1))
 else (
  some (vb0,true))
def Zki (x0:GConf)  : Nat→GBus→Int→Option (GBus×Bool)
 | 0,_,_=>none
 | m+1,vb0,v0=>Zg9 x0  (Zki x0  m) vb0 v0
def Zmo (x0:GConf):Option (GBus×Bool):=
 (Zaw x0).bind fun r1=>
 if (!r1)=true then (
  some (GBus.z0,false))
 else (
  (Zmk x0).bind fun r2=>
  (Zn7).bind fun r3=>
  Zki x0 FU (GBus.mk r2 0 [] GWrr.z0 [] [] (-1) 0 (-1) GBeat.z0 GBeat.z0 r3 0 []) 0)
def Zga (x0:GReq):Option GReq:=
 (appI 8 [] x0.data_).bind fun z0=>
 some {x0 with data_:=z0}
def Z31 (x0:GMst)  (k:(List GReq)→Int→Option GMst) (v0:List GReq) (v1:Int):Option GMst:=
 if decide (v1 < (x0.queue.length:Int))=true then (
  (idx x0.queue v1).bind fun a0=>
  (Zga a0).bind fun r0=>
  (appI 64 v0 [r0]).bind fun z0=>
  k z0 (addW v1 1))
 else (
  some {x0 with queue:=v0})
def Zh9 (x0:GMst)  : Nat→(List GReq)→Int→Option GMst
 | 0,_,_=>none
 | m+1,v0,v1=>Z31 x0  (Zh9 x0  m) v0 v1
def Za7 (x0:GMst):Option GMst:=
 Zh9 x0 FU [] 0
def Znw (x0:GDev):Option GDev:=
 (appI 8 [] x0.regs).bind fun z0=>
 (appI 8 [] x0.fifo).bind fun z1=>
 some (GDev.mk z0 x0.timer z1)
def Znt (x0:GModel):Option GModel:=
 (appI 8 [] x0.mem).bind fun z0=>
 (Znw x0.dev).bind fun r0=>
 some (GModel.mk z0 r0)
def Zf2 (x0:GBus)  (k:GBus→Int→Option GBus) (vb0:GBus) (v0:Int):Option GBus:=
 if decide (v0 < (x0.m.length:Int))=true then (
  (idx x0.m v0).bind fun a0=>
  (Za7 a0).bind fun r0=>
  (appI 56 vb0.m [r0]).bind fun z0=>
  k {vb0 with m:=z0} (addW v0 1))
 else (
  (appI 16 [] x0.buckets).bind fun z1=>
  (appI 8 [] x0.splits).bind fun z2=>
  (Znt x0.model).bind fun r1=>
  (appI 56 [] x0.log).bind fun z3=>
  some {vb0 with buckets:=z1,splits:=z2,model:=r1,log:=z3})
def Zc5 (x0:GBus)  : Nat→GBus→Int→Option GBus
 | 0,_,_=>none
 | m+1,vb0,v0=>Zf2 x0  (Zc5 x0  m) vb0 v0
def Zkz (x0:GBus):Option GBus:=
 (Zmk x0.conf).bind fun r2=>
 Zc5 x0 FU {x0 with conf:=r2,m:=[]} 0
def Zje (x0:GConf) (x1:Int)  (v0:Bool):Option Int:=
 if v0=true then (
  some 0)
 else (
  (idx x0.masters x1).bind fun a0=>
  some (mulW a0.weight x0.quantum))
def Zfr (x0:GConf) (x1:Int):Option Int:=
 (Zaw x0).bind fun r0=>
 if (!r0)=true then (
  Zje x0 x1 true)
 else (
  (Zk x1 0 (subW (x0.masters.length:Int) 1)).bind fun r1=>
  Zje x0 x1 (!r1))
def Zl9 (x0:GWrr) (x1:GConf):Option Bool:=
 (Zaw x1).bind fun r0=>
 if r0=true then (
  (Zk x0.at_ 0 (subW (x1.masters.length:Int) 1)).bind fun r1=>
  if r1=true then (
   (Zfr x1 x0.at_).bind fun r2=>
   (Zk x0.credit 0 r2).bind fun r3=>
   some r3)
  else (
   some false))
 else (
  some false)
def Zlv (x0:List Int)  (k:Int→Option Bool) (v0:Int):Option Bool:=
 if decide (v0 < (x0.length:Int))=true then (
  (idx x0 v0).bind fun a0=>
  (Zk a0 0 255).bind fun r0=>
  if (!r0)=true then (
   some false)
  else (
   k (addW v0 1)))
 else (
  some (decide ((x0.length:Int)≤512)))
def Zia (x0:List Int)  : Nat→Int→Option Bool
 | 0,_=>none
 | m+1,v0=>Zlv x0  (Zia x0  m) v0
def Zk8 (x0:List Int):Option Bool:=
 Zia x0 FU 0
def Zl6 (x0:List Int)  (k:Int→Option Bool) (v0:Int):Option Bool:=
 if decide (v0 < (x0.length:Int))=true then (
  (idx x0 v0).bind fun a0=>
  (Xi 2).bind fun r0=>
  (Zk a0 0 (subW r0 1)).bind fun r1=>
  if (!r1)=true then (
   some false)
  else (
   k (addW v0 1)))
 else (
  some true)
def Zhc (x0:List Int)  : Nat→Int→Option Bool
 | 0,_=>none
 | m+1,v0=>Zl6 x0  (Zhc x0  m) v0
def Zk1 (x0:List Int):Option Bool:=
 Zhc x0 FU 0
def Zqs (x0:GDev):Option Bool:=
 if decide ((x0.regs.length:Int)=4)=true then (
  (Zk1 x0.regs).bind fun r0=>
  if r0=true then (
   (Xi 2).bind fun r1=>
   (Zk x0.timer 0 (subW r1 1)).bind fun r2=>
   if r2=true then (
    if decide ((x0.fifo.length:Int)≤4)=true then (
     (Zk1 x0.fifo).bind fun r3=>
     some r3)
    else (
     some false))
   else (
    some false))
  else (
   some false))
 else (
  some false)
def Zky (x0:GModel):Option Bool:=
 if decide ((x0.mem.length:Int)=192)=true then (
  (Zk8 x0.mem).bind fun r0=>
  if r0=true then (
   (Zqs x0.dev).bind fun r1=>
   some r1)
  else (
   some false))
 else (
  some false)
def Zad (x0:GMst):Option Int:=
 if decide ((x0.queue.length:Int)=0)=true then (
  some 0)
 else (
  (idx x0.queue 0).bind fun a0=>
  (Q0 a0.burst).bind fun r0=>
  some r0)
def Kg (x0:GMst)  (v0:Bool):Option Bool:=
 if v0=true then (
  some false)
 else (
  if decide ((x0.queue.length:Int)=0)=true then (
   if decide (x0.beat=0)=true then (
    if decide (x0.done=0)=true then (
     if decide (x0.tries=0)=true then (
      if (!x0.parted)=true then (
       some (!x0.broken))
      else (
       some false))
     else (
      some false))
    else (
     some false))
   else (
    some false))
  else (
   (Zad x0).bind fun r0=>
   (Zk x0.done 0 (subW r0 1)).bind fun r1=>
   if r1=true then (
    (Zad x0).bind fun r2=>
    (Zk x0.beat x0.done (minI (addW x0.done 2) r2)).bind fun r3=>
    some r3)
   else (
    some false)))
def Zko (x0:GMst)  (k:Int→Option Bool) (v1:Int):Option Bool:=
 if decide (v1 < (x0.queue.length:Int))=true then (
  (idx x0.queue v1).bind fun a0=>
  (Zmc a0).bind fun r4=>
  if (!r4)=true then (
   some false)
  else (
   k (addW v1 1)))
 else (
  if decide ((x0.queue.length:Int) > 4)=true then (
   Kg x0 true)
  else (
   Kg x0 (decide (x0.tries < 0))))
def Zfy (x0:GMst)  : Nat→Int→Option Bool
 | 0,_=>none
 | m+1,v1=>Zko x0  (Zfy x0  m) v1
def Ky (x0:GMst):Option Bool:=
 Zfy x0 FU 0
def Zzn (x0:GMst) (x1:GConf):Option Bool:=
 (Zaw x1).bind fun r0=>
 if r0=true then (
  (Ky x0).bind fun r1=>
  if r1=true then (
   some (decide (x0.tries≤x1.maxRetry)))
  else (
   some false))
 else (
  some false)
def Zbq (x0:GBucket) (x1:GMConf):Option Bool:=
 if (!x1.prio)=true then (
  some (decide (x0.tokens=0)&&(decide (x0.count=0)&&true)))
 else (
  (Zk x0.tokens 0 x1.cap).bind fun r0=>
  if r0=true then (
   (Zk x0.count 0 (subW x1.every 1)).bind fun r1=>
   some r1)
  else (
   some false))
def Zg5 (x0:GBus) (x1:Int)  (v0:Int):Option Int:=
 if x0.data_.live=true then (
  if decide (x0.data_.who=x1)=true then (
   some (addW v0 1))
  else (
   some v0))
 else (
  some v0)
def Zg6 (x0:GBus) (x1:Int)  (v1:Bool):Option Int:=
 if v1=true then (
  Zg5 x0 x1 (addW 0 1))
 else (
  Zg5 x0 x1 0)
def Zpz (x0:GBus) (x1:Int):Option Int:=
 if x0.addr.live=true then (
  Zg6 x0 x1 (decide (x0.addr.who=x1)))
 else (
  Zg6 x0 x1 false)
def Znu (x0:Int):Option ByteArray:=
 (Zk x0 0 3).bind fun r0=>
 if (!r0)=true then (
  some ByteArray.empty)
 else (
  (idx [(strL [111,107,97,121]),(strL [101,114,114,111,114]),(strL [114,101,116,114,121]),(strL [115,112,108,105,116])] x0).bind fun a0=>
  some a0)
def Zu (x0:GBus) (x1:GBeat) (x2:Bool)  (vb0:GMst) (v0:Bool):Option Bool:=
 if v0=true then (
  some false)
 else (
  if decide (x1.beat=vb0.done)=true then (
   (Zk x1.left 0 (addW x0.conf.maxWait 2)).bind fun r0=>
   if r0=true then (
    (Znu x1.resp).bind fun r1=>
    if (!(r1.toList == ByteArray.empty.toList))=true then (
     if (!x1.second)=true then (
      some true)
     else (
      if decide (x1.resp≠0)=true then (
       some (decide (x1.left=0)))
      else (
       some false)))
    else (
     some false))
   else (
    some false))
  else (
   some false))
def Wh (x0:GBus) (x1:GBeat) (x2:Bool)  (v1:Bool):Option Bool:=
 if v1=true then (
  some false)
 else (
  (idx x0.m x1.who).bind fun a0=>
  if (!x2)=true then (
   if decide (x1.beat=(subW a0.beat 1))=true then (
    if decide (x1.left=0)=true then (
     if decide (x1.resp=0)=true then (
      some (!x1.second))
     else (
      some false))
    else (
     some false))
   else (
    some false))
  else (
   if decide (x1.resp=2)=true then (
    if decide (a0.tries≥x0.conf.maxRetry)=true then (
     Zu x0 x1 x2 a0 true)
    else (
     if decide (x1.resp=3)=true then (
      if a0.parted=true then (
       Zu x0 x1 x2 a0 true)
      else (
       if decide (x0.holder=x1.who)=true then (
        Zu x0 x1 x2 a0 true)
       else (
        if x1.second=true then (
         Zu x0 x1 x2 a0 x0.addr.live)
        else (
         Zu x0 x1 x2 a0 false))))
     else (
      if x1.second=true then (
       Zu x0 x1 x2 a0 x0.addr.live)
      else (
       Zu x0 x1 x2 a0 false))))
   else (
    if decide (x1.resp=3)=true then (
     if a0.parted=true then (
      Zu x0 x1 x2 a0 true)
     else (
      if decide (x0.holder=x1.who)=true then (
       Zu x0 x1 x2 a0 true)
      else (
       if x1.second=true then (
        Zu x0 x1 x2 a0 x0.addr.live)
       else (
        Zu x0 x1 x2 a0 false))))
    else (
     if x1.second=true then (
      Zu x0 x1 x2 a0 x0.addr.live)
     else (
      Zu x0 x1 x2 a0 false)))))
def J1 (x0:GBus) (x1:GBeat) (x2:Bool):Option Bool:=
 if (!x1.live)=true then (
  some ((x1.live == false)&&(decide (x1.who=0)&&(decide (x1.beat=0)&&((x1.first == false)&&(decide (x1.by_=0)&&(decide (x1.left=0)&&(decide (x1.resp=0)&&((x1.second == false)&&true)))))))))
 else (
  (Zk x1.who 0 (subW (x0.m.length:Int) 1)).bind fun r2=>
  if (!r2)=true then (
   Wh x0 x1 x2 true)
  else (
   (Zk x1.by_ 1 3).bind fun r3=>
   if (!r3)=true then (
    Wh x0 x1 x2 true)
   else (
    (idx x0.splits x1.who).bind fun a1=>
    Wh x0 x1 x2 (decide (a1 > 0)))))
def K1 (x0:GBus)  (v0:Bool):Option Bool:=
 if v0=true then (
  some false)
 else (
  (idx x0.m x0.holder).bind fun a0=>
  if decide ((a0.queue.length:Int) > 0)=true then (
   (idx a0.queue 0).bind fun a1=>
   if a1.lock=true then (
    if (!a0.broken)=true then (
     (idx x0.splits x0.holder).bind fun a2=>
     some (decide (a2=0)))
    else (
     some false))
   else (
    some false))
  else (
   some false))
def Zge (x0:GBus)  (k:Int→Option Bool) (v1:Int):Option Bool:=
 if decide (v1 < (x0.m.length:Int))=true then (
  (idx x0.m v1).bind fun a3=>
  if decide (a3.beat > 0)=true then (
   (idx a3.queue 0).bind fun a4=>
   if a4.lock=true then (
    if (!a3.broken)=true then (
     if decide (x0.holder≠v1)=true then (
      some false)
     else (
      k (addW v1 1)))
    else (
     k (addW v1 1)))
   else (
    k (addW v1 1)))
  else (
   k (addW v1 1)))
 else (
  if decide (x0.holder=(-1))=true then (
   some (decide (x0.held=0)))
  else (
   (Zk x0.holder 0 (subW (x0.m.length:Int) 1)).bind fun r0=>
   if (!r0)=true then (
    K1 x0 true)
   else (
    (Zk x0.held 0 x0.conf.lockMost).bind fun r1=>
    K1 x0 (!r1))))
def Znd (x0:GBus)  : Nat→Int→Option Bool
 | 0,_=>none
 | m+1,v1=>Zge x0  (Znd x0  m) v1
def Zkw (x0:GBus):Option Bool:=
 Znd x0 FU 0
def Zhl (x0:GBus)  (k:Int→Option Bool) (v0:Int):Option Bool:=
 if decide (v0 < (x0.log.length:Int))=true then (
  (idx x0.log v0).bind fun a0=>
  (Zk a0.cycle 0 (subW x0.now 1)).bind fun r0=>
  if (!r0)=true then (
   some false)
  else (
   if decide (v0 > 0)=true then (
    (idx x0.log (subW v0 1)).bind fun a1=>
    if decide (a0.cycle≤a1.cycle)=true then (
     some false)
    else (
     (Zk a0.who 0 (subW (x0.m.length:Int) 1)).bind fun r1=>
     if (!r1)=true then (
      some false)
     else (
      (Ks a0.addr a0.size).bind fun r2=>
      if (!r2)=true then (
       some false)
      else (
       (Zk a0.addr 0 511).bind fun r3=>
       if (!r3)=true then (
        some false)
       else (
        (Xi a0.size).bind fun r4=>
        (Zk a0.value 0 (subW r4 1)).bind fun r5=>
        if (!r5)=true then (
         some false)
        else (
         (Zk a0.resp 0 1).bind fun r6=>
         if (!r6)=true then (
          some false)
         else (
          k (addW v0 1))))))))
   else (
    (Zk a0.who 0 (subW (x0.m.length:Int) 1)).bind fun r1=>
    if (!r1)=true then (
     some false)
    else (
     (Ks a0.addr a0.size).bind fun r2=>
     if (!r2)=true then (
      some false)
     else (
      (Zk a0.addr 0 511).bind fun r3=>
      if (!r3)=true then (
       some false)
      else (
       (Xi a0.size).bind fun r4=>
       (Zk a0.value 0 (subW r4 1)).bind fun r5=>
       if (!r5)=true then (
        some false)
       else (
        (Zk a0.resp 0 1).bind fun r6=>
        if (!r6)=true then (
         some false)
        else (
         k (addW v0 1)))))))))
 else (
  some true)
def Zjf (x0:GBus)  : Nat→Int→Option Bool
 | 0,_=>none
 | m+1,v0=>Zhl x0  (Zjf x0  m) v0
def Zmt (x0:GBus):Option Bool:=
 Zjf x0 FU 0
def Zj7 (x0:GBus)  (k:Int→Option Bool) (v0:Int):Option Bool:=
 if decide (v0 < (x0.conf.masters.length:Int))=true then (
  (idx x0.m v0).bind fun a0=>
  (Zzn a0 x0.conf).bind fun r0=>
  if (!r0)=true then (
   some false)
  else (
   (idx x0.buckets v0).bind fun a1=>
   (idx x0.conf.masters v0).bind fun a2=>
   (Zbq a1 a2).bind fun r1=>
   if (!r1)=true then (
    some false)
   else (
    (idx x0.splits v0).bind fun a3=>
    (Zk a3 0 x0.conf.maxSplit).bind fun r2=>
    if (!r2)=true then (
     some false)
    else (
     (Zpz x0 v0).bind fun r3=>
     if decide ((subW a0.beat a0.done)≠r3)=true then (
      some false)
     else (
      k (addW v0 1))))))
 else (
  (J1 x0 x0.data_ true).bind fun r4=>
  if r4=true then (
   (J1 x0 x0.addr false).bind fun r5=>
   if r5=true then (
    (Zkw x0).bind fun r6=>
    if r6=true then (
     (Zmt x0).bind fun r7=>
     some r7)
    else (
     some false))
   else (
    some false))
  else (
   some false))
def Zli (x0:GBus)  : Nat→Int→Option Bool
 | 0,_=>none
 | m+1,v0=>Zj7 x0  (Zli x0  m) v0
def Xm (x0:GBus)  (v1:Bool):Option Bool:=
 if v1=true then (
  some false)
 else (
  Zli x0 FU 0)
def Zik (x0:GBus):Option Bool:=
 (Zaw x0.conf).bind fun r8=>
 if (!r8)=true then (
  Xm x0 true)
 else (
  (Zk x0.now 0 4000).bind fun r9=>
  if (!r9)=true then (
   Xm x0 true)
  else (
   if decide ((x0.m.length:Int)≠(x0.conf.masters.length:Int))=true then (
    Xm x0 true)
   else (
    if decide ((x0.buckets.length:Int)≠(x0.conf.masters.length:Int))=true then (
     Xm x0 true)
    else (
     if decide ((x0.splits.length:Int)≠(x0.conf.masters.length:Int))=true then (
      Xm x0 true)
     else (
      (Zl9 x0.arb x0.conf).bind fun r10=>
      if (!r10)=true then (
       Xm x0 true)
      else (
       (Zk x0.last (-1) (subW (x0.conf.masters.length:Int) 1)).bind fun r11=>
       if (!r11)=true then (
        Xm x0 true)
       else (
        (Zky x0.model).bind fun r12=>
        if (!r12)=true then (
         Xm x0 true)
        else (
         if decide (x0.picks < 0)=true then (
          Xm x0 true)
         else (
          Xm x0 (decide (x0.picks > x0.now)))))))))))
def Z39 (x0:GBus)  (k:Int→Option Bool) (v0:Int):Option Bool:=
 if decide (v0 < (x0.m.length:Int))=true then (
  (idx x0.m v0).bind fun a0=>
  if decide ((a0.queue.length:Int) > 0)=true then (
   some false)
  else (
   k (addW v0 1)))
 else (
  some true)
def Zha (x0:GBus)  : Nat→Int→Option Bool
 | 0,_=>none
 | m+1,v0=>Z39 x0  (Zha x0  m) v0
def Zpp (x0:GBus):Option Bool:=
 Zha x0 FU 0
def Zhn (x0:GMst) (x1:Int)  (v0:Bool):Option Int:=
 if v0=true then (
  some (-1))
 else (
  (idx x0.queue 0).bind fun a0=>
  (Zev a0.addr a0.size a0.burst).bind fun r0=>
  (idx r0 x1).bind fun a1=>
  some a1)
def Zdv (x0:GMst) (x1:Int):Option Int:=
 (Ky x0).bind fun r1=>
 if (!r1)=true then (
  Zhn x0 x1 true)
 else (
  (Zad x0).bind fun r2=>
  (Zk x1 0 (subW r2 1)).bind fun r3=>
  Zhn x0 x1 (!r3))
def Zdl (x0:GBus)  (vb0:GWave):Option GWave:=
 if x0.data_.live=true then (
  (idx x0.m x0.data_.who).bind fun a0=>
  (Zdv a0 x0.data_.beat).bind fun r0=>
  some {vb0 with data_:=r0,from_:=x0.data_.who})
 else (
  some vb0)
def Zo3 (x0:GBus):Option GWave:=
 if x0.addr.live=true then (
  (idx x0.m x0.addr.who).bind fun a1=>
  (Zdv a1 x0.addr.beat).bind fun r1=>
  if x0.addr.first=true then (
   Zdl x0 (GWave.mk x0.now r1 2 x0.addr.who (-1) (-1) true 0 (-1)))
  else (
   Zdl x0 (GWave.mk x0.now r1 3 x0.addr.who (-1) (-1) true 0 (-1))))
 else (
  Zdl x0 (GWave.mk x0.now (-1) 0 (-1) (-1) (-1) true 0 (-1)))
def Zfk (x0:GScript) (x1:Int)  (k:(List GPost)→Int→Option (List GPost)) (v0:List GPost) (v1:Int):Option (List GPost):=
 if decide (v1 < (x0.posts.length:Int))=true then (
  (idx x0.posts v1).bind fun a0=>
  if decide (a0.at_=x1)=true then (
   (Zga a0.req).bind fun r0=>
   (appI 80 v0 [{a0 with req:=r0}]).bind fun z0=>
   k z0 (addW v1 1))
  else (
   k v0 (addW v1 1)))
 else (
  some v0)
def Zhi (x0:GScript) (x1:Int)  : Nat→(List GPost)→Int→Option (List GPost)
 | 0,_,_=>none
 | m+1,v0,v1=>Zfk x0 x1  (Zhi x0 x1  m) v0 v1
def Zpg (x0:GScript) (x1:Int):Option (List GPost):=
 Zhi x0 x1 FU [] 0
def Zdf (x0:GMst) (x1:GReq)  (vb0:GMst) (v0:Bool):Option (GMst×Bool):=
 if v0=true then (
  some (vb0,false))
 else (
  (Zga x1).bind fun r0=>
  (appI 64 vb0.queue [r0]).bind fun z0=>
  some ({vb0 with queue:=z0},true))
def Zpm (x0:GMst) (x1:GReq):Option (GMst×Bool):=
 (Za7 x0).bind fun r1=>
 (Ky x0).bind fun r2=>
 if (!r2)=true then (
  Zdf x0 x1 r1 true)
 else (
  (Zmc x1).bind fun r3=>
  if (!r3)=true then (
   Zdf x0 x1 r1 true)
  else (
   Zdf x0 x1 r1 (decide ((x0.queue.length:Int)=4))))
def Zcu (x0:GBucket) (x1:GMConf)  (v0:Bool):Option GBucket:=
 if v0=true then (
  some x0)
 else (
  if decide ((addW x0.count 1)=x1.every)=true then (
   some (GBucket.mk (minI x1.cap (addW x0.tokens 1)) 0))
  else (
   some (GBucket.mk x0.tokens (addW x0.count 1))))
def Zkc (x0:GBucket) (x1:GMConf):Option GBucket:=
 if (!x1.prio)=true then (
  Zcu x0 x1 true)
 else (
  (Zbq x0 x1).bind fun r0=>
  Zcu x0 x1 (!r0))
def Zhb (x0:GMst)  (vb0:GMst) (v0:Bool):Option (GMst×Bool):=
 if v0=true then (
  some (vb0,false))
 else (
  some ({vb0 with beat:=(subW vb0.beat 1)},true))
def Zpl (x0:GMst):Option (GMst×Bool):=
 (Za7 x0).bind fun r0=>
 (Ky x0).bind fun r1=>
 if (!r1)=true then (
  Zhb x0 r0 true)
 else (
  Zhb x0 r0 (decide (x0.beat=x0.done)))
def Zc3 (x0:GBucket) (x1:GMConf)  (v0:Bool):Option GBucket:=
 if v0=true then (
  some (GBucket.mk (minI x1.cap (addW x0.tokens 1)) x0.count))
 else (
  some x0)
def Zkj (x0:GBucket) (x1:GMConf):Option GBucket:=
 if x1.prio=true then (
  (Zbq x0 x1).bind fun r0=>
  Zc3 x0 x1 r0)
 else (
  Zc3 x0 x1 false)
def Zh4 (x0:GWrr) (x1:GConf) (x2:Int)  (v0:Bool):Option GWrr:=
 if v0=true then (
  (Zfr x1 x2).bind fun r0=>
  some (GWrr.mk x0.at_ (minI r0 (addW x0.credit 1))))
 else (
  some x0)
def Zph (x0:GWrr) (x1:GConf) (x2:Int):Option GWrr:=
 (Zl9 x0 x1).bind fun r1=>
 if r1=true then (
  Zh4 x0 x1 x2 (decide (x0.at_=x2)))
 else (
  Zh4 x0 x1 x2 false)
def Zg3 (x0:GBus) (x1:GBeat):Option GBus:=
 (idx x0.m x1.who).bind fun a0=>
 (Zpl a0).bind fun r0=>
 (setO x0.m x1.who r0.1).bind fun y0=>
 if decide (x1.by_=1)=true then (
  (idx x0.buckets x1.who).bind fun a1=>
  (idx x0.conf.masters x1.who).bind fun a2=>
  (Zkj a1 a2).bind fun r1=>
  (setO x0.buckets x1.who r1).bind fun y1=>
  some {x0 with m:=y0,buckets:=y1})
 else (
  if decide (x1.by_=2)=true then (
   (Zph x0.arb x0.conf x1.who).bind fun r2=>
   some {x0 with m:=y0,arb:=r2})
  else (
   some {x0 with m:=y0}))
def Zsy (x0:List Int) (x1:Int)  (v0:Bool):Option Int:=
 if v0=true then (
  some 0)
 else (
  (nzI (x0.length:Int)).bind fun n0=>
  (idx x0 (remW x1 (x0.length:Int))).bind fun a0=>
  some a0)
def Ztj (x0:List Int) (x1:Int):Option Int:=
 if decide ((x0.length:Int)=0)=true then (
  Zsy x0 x1 true)
 else (
  Zsy x0 x1 (decide (x1 < 0)))
def Zpk (x0:GConf) (x1:GScript) (x2:Int):Option Int:=
 (Ztj x1.waits x2).bind fun r0=>
 some (maxI 1 (minI x0.maxSplit (addW (minI r0 99) 1)))
def Ziz (x0:GReq) (x1:Int):Option Int:=
 if (!x0.write)=true then (
  some 0)
 else (
  (idx x0.data_ x1).bind fun a0=>
  some a0)
def Zn9 (x0:Int)  (v0:Bool):Option Int:=
 if v0=true then (
  some 0)
 else (
  if decide (x0 < 128)=true then (
   some 1)
  else (
   if decide (x0 < 192)=true then (
    some 2)
   else (
    some 3)))
def Zpy (x0:Int):Option Int:=
 if decide (x0 < 0)=true then (
  Zn9 x0 true)
 else (
  Zn9 x0 (decide (x0≥224)))
def Znl (x0:List Int) (x1:Int) (x2:Int):Option Bool:=
 (Zk8 x0).bind fun r0=>
 if r0=true then (
  (Ks x1 x2).bind fun r1=>
  if r1=true then (
   (W0 x2).bind fun r2=>
   some (decide (x1≤(subW (x0.length:Int) r2))))
  else (
   some false))
 else (
  some false)
def Zds (x0:List Int) (x1:Int) (x2:Int) (x3:Int)  (k:Int→(List Int)→Int→Option (List Int×Bool)) (v0:Int) (v1:List Int) (v2:Int):Option (List Int×Bool):=
 (W0 x2).bind fun r0=>
 if decide (v2 < r0)=true then (
  (idx v1 (addW x1 v2)).bind fun a0=>
  (setO v1 (addW x1 v2) (remW v0 256)).bind fun y0=>
  k (quoW v0 256) y0 (addW v2 1))
 else (
  some (v1,true))
def Zkf (x0:List Int) (x1:Int) (x2:Int) (x3:Int)  : Nat→Int→(List Int)→Int→Option (List Int×Bool)
 | 0,_,_,_=>none
 | m+1,v0,v1,v2=>Zds x0 x1 x2 x3  (Zkf x0 x1 x2 x3  m) v0 v1 v2
def Zjn (x0:List Int) (x1:Int) (x2:Int) (x3:Int)  (v1:List Int) (v3:Bool):Option (List Int×Bool):=
 if v3=true then (
  some (v1,false))
 else (
  Zkf x0 x1 x2 x3 FU x3 v1 0)
def Zr6 (x0:List Int) (x1:Int) (x2:Int) (x3:Int):Option (List Int×Bool):=
 (appI 8 [] x0).bind fun z0=>
 (Znl x0 x1 x2).bind fun r1=>
 if (!r1)=true then (
  Zjn x0 x1 x2 x3 z0 true)
 else (
  (Xi x2).bind fun r2=>
  (Zk x3 0 (subW r2 1)).bind fun r3=>
  Zjn x0 x1 x2 x3 z0 (!r3))
def Zgn (x0:GDev) (x1:Bool) (x2:Int) (x3:Int)  (vb0:GDev) (v0:Bool):Option (GDev×Int×Bool):=
 if v0=true then (
  (idx vb0.fifo 0).bind fun a0=>
  (Q3 vb0.fifo 1 (vb0.fifo.length:Int)).bind fun s0=>
  some ({vb0 with fifo:=s0},a0,true))
 else (
  some (vb0,0,false))
def Zgu (x0:GDev) (x1:Bool) (x2:Int) (x3:Int)  (vb0:GDev) (v1:Bool):Option (GDev×Int×Bool):=
 if v1=true then (
  (appI 8 vb0.fifo [x3]).bind fun z0=>
  some ({vb0 with fifo:=z0},x3,true))
 else (
  if decide (x2=20)=true then (
   if (!x1)=true then (
    Zgn x0 x1 x2 x3 vb0 (decide ((vb0.fifo.length:Int) > 0)))
   else (
    Zgn x0 x1 x2 x3 vb0 false))
  else (
   Zgn x0 x1 x2 x3 vb0 false))
def Zlm (x0:GDev) (x1:Bool) (x2:Int) (x3:Int)  (vb0:GDev) (v2:Bool):Option (GDev×Int×Bool):=
 if v2=true then (
  some ({vb0 with timer:=x3},x3,true))
 else (
  if decide (x2=16)=true then (
   (Xi 2).bind fun r0=>
   (nzI r0).bind fun n0=>
   some ({vb0 with timer:=(remW (addW vb0.timer 1) r0)},vb0.timer,true))
  else (
   if decide (x2=20)=true then (
    if x1=true then (
     Zgu x0 x1 x2 x3 vb0 (decide ((vb0.fifo.length:Int) < 4)))
    else (
     Zgu x0 x1 x2 x3 vb0 false))
   else (
    Zgu x0 x1 x2 x3 vb0 false)))
def Zlo (x0:GDev) (x1:Bool) (x2:Int) (x3:Int)  (vb0:GDev) (v3:Bool):Option (GDev×Int×Bool):=
 if v3=true then (
  (idx vb0.regs (quoW x2 4)).bind fun a1=>
  (setO vb0.regs (quoW x2 4) x3).bind fun y0=>
  some ({vb0 with regs:=y0},x3,true))
 else (
  (Zk x2 0 12).bind fun r1=>
  if r1=true then (
   (idx vb0.regs (quoW x2 4)).bind fun a2=>
   some (vb0,a2,true))
  else (
   if decide (x2=16)=true then (
    Zlm x0 x1 x2 x3 vb0 x1)
   else (
    Zlm x0 x1 x2 x3 vb0 false)))
def Q9 (x0:GDev) (x1:Bool) (x2:Int) (x3:Int)  (vb0:GDev) (v4:Bool):Option (GDev×Int×Bool):=
 if v4=true then (
  some (vb0,0,false))
 else (
  (Zk x2 0 12).bind fun r2=>
  if r2=true then (
   Zlo x0 x1 x2 x3 vb0 x1)
  else (
   Zlo x0 x1 x2 x3 vb0 false))
def Zve (x0:GDev) (x1:Bool) (x2:Int) (x3:Int):Option (GDev×Int×Bool):=
 (Znw x0).bind fun r3=>
 (Zqs x0).bind fun r4=>
 if (!r4)=true then (
  Q9 x0 x1 x2 x3 r3 true)
 else (
  if decide ((remW x2 4)≠0)=true then (
   Q9 x0 x1 x2 x3 r3 true)
  else (
   if x1=true then (
    (Xi 2).bind fun r5=>
    (Zk x3 0 (subW r5 1)).bind fun r6=>
    Q9 x0 x1 x2 x3 r3 (!r6))
   else (
    Q9 x0 x1 x2 x3 r3 false)))
def Zcx (x0:List Int) (x1:Int) (x2:Int)  (k:Int→Int→Option (Int×Bool)) (v0:Int) (v1:Int):Option (Int×Bool):=
 if decide (v1≥0)=true then (
  (idx x0 (addW x1 v1)).bind fun a0=>
  k (addW (mulW v0 256) a0) (subW v1 1))
 else (
  some (v0,true))
def Zjg (x0:List Int) (x1:Int) (x2:Int)  : Nat→Int→Int→Option (Int×Bool)
 | 0,_,_=>none
 | m+1,v0,v1=>Zcx x0 x1 x2  (Zjg x0 x1 x2  m) v0 v1
def Zrg (x0:List Int) (x1:Int) (x2:Int):Option (Int×Bool):=
 (Znl x0 x1 x2).bind fun r0=>
 if (!r0)=true then (
  some (0,false))
 else (
  (W0 x2).bind fun r1=>
  Zjg x0 x1 x2 FU 0 (subW r1 1))
def Zhm (x0:GModel) (x1:Bool) (x2:Int) (x3:Int) (x4:Int)  (vb0:GModel) (vb1:GDev) (v0:Int) (v1:Bool):Option (GModel×Int×Int):=
 if v1=true then (
  some ((GModel.mk vb0.mem vb1),v0,0))
 else (
  some (vb0,0,1))
def Zh7 (x0:GModel) (x1:Bool) (x2:Int) (x3:Int) (x4:Int)  (vb2:GModel) (v2:Int) (v3:Bool):Option (GModel×Int×Int):=
 if v3=true then (
  if x1=true then (
   (Zr6 x0.mem x2 x3 x4).bind fun r0=>
   some ((GModel.mk r0.1 vb2.dev),x4,0))
  else (
   (Zrg x0.mem x2 x3).bind fun r1=>
   some (vb2,r1.1,0)))
 else (
  if decide (v2=3)=true then (
   (Zve x0.dev x1 (subW x2 192) x4).bind fun r2=>
   if decide (x3=2)=true then (
    Zhm x0 x1 x2 x3 x4 vb2 r2.1 r2.2.1 r2.2.2)
   else (
    Zhm x0 x1 x2 x3 x4 vb2 r2.1 r2.2.1 false))
  else (
   some (vb2,0,1)))
def W3 (x0:GModel) (x1:Bool) (x2:Int) (x3:Int) (x4:Int)  (vb2:GModel) (v4:Bool):Option (GModel×Int×Int):=
 if v4=true then (
  some (vb2,0,1))
 else (
  (Zpy x2).bind fun r3=>
  if decide (r3=1)=true then (
   Zh7 x0 x1 x2 x3 x4 vb2 r3 (decide (r3=1)))
  else (
   Zh7 x0 x1 x2 x3 x4 vb2 r3 (decide (r3=2))))
def Zku (x0:GModel) (x1:Bool) (x2:Int) (x3:Int) (x4:Int):Option (GModel×Int×Int):=
 (Znt x0).bind fun r4=>
 (Zky x0).bind fun r5=>
 if (!r5)=true then (
  W3 x0 x1 x2 x3 x4 r4 true)
 else (
  (Ks x2 x3).bind fun r6=>
  if (!r6)=true then (
   W3 x0 x1 x2 x3 x4 r4 true)
  else (
   if x1=true then (
    (Xi x3).bind fun r7=>
    (Zk x4 0 (subW r7 1)).bind fun r8=>
    W3 x0 x1 x2 x3 x4 r4 (!r8))
   else (
    W3 x0 x1 x2 x3 x4 r4 false)))
def Zkg (x0:GMst)  (vb0:GMst) (v0:Bool):Option (GMst×Bool):=
 if v0=true then (
  some (vb0,false))
 else (
  (Zad x0).bind fun r0=>
  if decide ((addW vb0.done 1)=r0)=true then (
   (Q3 vb0.queue 1 (vb0.queue.length:Int)).bind fun s0=>
   some ((GMst.mk s0 0 0 0 false false),true))
  else (
   some ((GMst.mk vb0.queue vb0.beat (addW vb0.done 1) 0 false vb0.broken),true)))
def Zrx (x0:GMst):Option (GMst×Bool):=
 (Za7 x0).bind fun r1=>
 (Ky x0).bind fun r2=>
 if (!r2)=true then (
  Zkg x0 r1 true)
 else (
  Zkg x0 r1 (decide (x0.beat=x0.done)))
def Zaq (x0:GBus) (x1:GScript)  (vb0:GBus) (vb1:GMst) (vb2:GDone):Option GBus:=
 (appI 56 vb0.log [vb2]).bind fun z0=>
 (Zrx vb1).bind fun r0=>
 (idx vb0.m x0.data_.who).bind fun a0=>
 (setO vb0.m x0.data_.who r0.1).bind fun y0=>
 if decide (vb0.holder=x0.data_.who)=true then (
  if decide (r0.1.done=0)=true then (
   some {vb0 with m:=y0,holder:=(-1),held:=0,log:=z0})
  else (
   some {vb0 with m:=y0,log:=z0}))
 else (
  some {vb0 with m:=y0,log:=z0})
def Zlg (x0:GBus) (x1:GScript):Option GBus:=
 (idx x0.m x0.data_.who).bind fun a1=>
 if decide (x0.data_.resp=2)=true then (
  (setO x0.m x0.data_.who {a1 with tries:=(addW a1.tries 1)}).bind fun y1=>
  (Zg3 {x0 with m:=y1,data_:=GBeat.z0} x0.data_).bind fun r1=>
  some r1)
 else (
  if decide (x0.data_.resp=3)=true then (
   (setO x0.m x0.data_.who {a1 with parted:=true}).bind fun y2=>
   (Zpk x0.conf x1 x0.picks).bind fun r2=>
   (idx x0.splits x0.data_.who).bind fun a2=>
   (setO x0.splits x0.data_.who r2).bind fun y3=>
   (Zg3 {x0 with m:=y2,splits:=y3,data_:=GBeat.z0} x0.data_).bind fun r3=>
   some r3)
  else (
   (idx a1.queue 0).bind fun a3=>
   (Zdv a1 x0.data_.beat).bind fun r4=>
   if decide (x0.data_.resp=0)=true then (
    (Ziz a3 x0.data_.beat).bind fun r5=>
    (Zku x0.model a3.write r4 a3.size r5).bind fun r6=>
    Zaq x0 x1 {x0 with data_:=GBeat.z0,model:=r6.1} a1 (GDone.mk x0.now x0.data_.who a3.write r4 a3.size r6.2.1 x0.data_.resp))
   else (
    Zaq x0 x1 {x0 with data_:=GBeat.z0} a1 (GDone.mk x0.now x0.data_.who a3.write r4 a3.size 0 x0.data_.resp))))
def Zrh (x0:GScript) (x1:Int):Option Int:=
 (Ztj x0.says x1).bind fun r0=>
 if decide (r0=2)=true then (
  some r0)
 else (
  if decide (r0=3)=true then (
   some r0)
  else (
   some 0))
def Zri (x0:GConf) (x1:GScript) (x2:Int):Option Int:=
 (Ztj x1.waits x2).bind fun r0=>
 some (maxI 0 (minI x0.maxWait r0))
def Zbm (x0:GBus) (x1:GScript)  (vb0:GBeat):Option GBus:=
 some {x0 with addr:=GBeat.z0,data_:=vb0,picks:=(addW x0.picks 1)}
def Ws (x0:GBus) (x1:GScript)  (vb0:GBeat) (v0:Bool):Option GBus:=
 if v0=true then (
  Zbm x0 x1 {vb0 with resp:=3})
 else (
  Zbm x0 x1 vb0)
def Jk (x0:GBus) (x1:GScript)  (vb0:GBeat) (vb1:GMst) (v1:Int) (v2:Int):Option GBus:=
 if (!vb1.broken)=true then (
  if decide (v2=3)=true then (
   if decide (v1=2)=true then (
    if (!vb1.parted)=true then (
     Ws x0 x1 vb0 (decide (x0.holder≠vb0.who)))
    else (
     Ws x0 x1 vb0 false))
   else (
    Ws x0 x1 vb0 false))
  else (
   Ws x0 x1 vb0 false))
 else (
  Ws x0 x1 vb0 false)
def Wt (x0:GBus) (x1:GScript)  (vb0:GBeat) (vb1:GMst) (v1:Int) (v2:Int) (v3:Bool):Option GBus:=
 if v3=true then (
  Jk x0 x1 {vb0 with resp:=2} vb1 v1 v2)
 else (
  Jk x0 x1 vb0 vb1 v1 v2)
def Js (x0:GBus) (x1:GScript)  (vb0:GBeat) (vb1:GMst) (v1:Int) (v2:Int):Option GBus:=
 if (!vb1.broken)=true then (
  if decide (v2=2)=true then (
   if decide (v1=1)=true then (
    Wt x0 x1 vb0 vb1 v1 v2 (decide (vb1.tries < x0.conf.maxRetry)))
   else (
    if decide (v1=2)=true then (
     Wt x0 x1 vb0 vb1 v1 v2 (decide (vb1.tries < x0.conf.maxRetry)))
    else (
     Wt x0 x1 vb0 vb1 v1 v2 false)))
  else (
   Wt x0 x1 vb0 vb1 v1 v2 false))
 else (
  Wt x0 x1 vb0 vb1 v1 v2 false)
def Ju (x0:GBus) (x1:GScript)  (vb0:GBeat) (vb1:GMst) (v1:Int) (v2:Int) (v4:Bool):Option GBus:=
 if v4=true then (
  Js x0 x1 {vb0 with left:=(addW vb0.left 2)} vb1 v1 v2)
 else (
  Js x0 x1 vb0 vb1 v1 v2)
def Jl (x0:GBus) (x1:GScript)  (vb0:GBeat) (vb1:GMst) (v1:Int) (v2:Int):Option GBus:=
 if decide (v1=3)=true then (
  Ju x0 x1 vb0 vb1 v1 v2 (!vb1.broken))
 else (
  Ju x0 x1 vb0 vb1 v1 v2 false)
def Jp (x0:GBus) (x1:GScript)  (vb2:GMst) (vb3:GReq) (v5:Int) (v1:Int) (v2:Int) (v6:Bool):Option GBus:=
 if v6=true then (
  Jl x0 x1 {x0.addr with resp:=1} vb2 v1 v2)
 else (
  (Zri x0.conf x1 x0.picks).bind fun r0=>
  (Ziz vb3 x0.addr.beat).bind fun r1=>
  (Zku x0.model vb3.write v5 vb3.size r1).bind fun r2=>
  Jl x0 x1 {x0.addr with left:=r0,resp:=r2.2.2} vb2 v1 v2)
def Zm6 (x0:GBus) (x1:GScript):Option GBus:=
 if (!x0.addr.live)=true then (
  some {x0 with addr:=GBeat.z0})
 else (
  (idx x0.m x0.addr.who).bind fun a0=>
  (idx a0.queue 0).bind fun a1=>
  (Zdv a0 x0.addr.beat).bind fun r3=>
  (Zpy r3).bind fun r4=>
  (Zrh x1 x0.picks).bind fun r5=>
  if a0.broken=true then (
   Jp x0 x1 a0 a1 r3 r4 r5 true)
  else (
   Jp x0 x1 a0 a1 r3 r4 r5 (decide (r4=0))))
def Zip (x0:GMst):Option Bool:=
 (Ky x0).bind fun r0=>
 if r0=true then (
  (Zad x0).bind fun r1=>
  some (decide (x0.beat < r1)))
 else (
  some false)
def J2 (x0:GBucket) (x1:GMConf)  (v0:Bool):Option (GBucket×Bool):=
 if v0=true then (
  some (x0,false))
 else (
  some ((GBucket.mk (subW x0.tokens 1) x0.count),true))
def Zj2 (x0:GBucket) (x1:GMConf):Option (GBucket×Bool):=
 if (!x1.prio)=true then (
  J2 x0 x1 true)
 else (
  (Zbq x0 x1).bind fun r0=>
  if (!r0)=true then (
   J2 x0 x1 true)
  else (
   J2 x0 x1 (decide (x0.tokens=0))))
def Zf4 (x0:GMst)  (vb0:GMst) (v0:Bool):Option (GMst×Bool):=
 if v0=true then (
  some (vb0,false))
 else (
  some ({vb0 with beat:=(addW vb0.beat 1)},true))
def Zmp (x0:GMst):Option (GMst×Bool):=
 (Za7 x0).bind fun r0=>
 (Zip x0).bind fun r1=>
 if (!r1)=true then (
  Zf4 x0 r0 true)
 else (
  Zf4 x0 r0 (decide (x0.beat=(addW x0.done 2))))
def Zl5 (x0:GWrr) (x1:GConf) (x2:List Bool)  (k:Int→Option (GWrr×Int)) (v0:Int):Option (GWrr×Int):=
 if decide (v0≤(x2.length:Int))=true then (
  (nzI (x2.length:Int)).bind fun n0=>
  (idx x2 (remW (addW x0.at_ v0) (x2.length:Int))).bind fun a0=>
  if a0=true then (
   (Zfr x1 (remW (addW x0.at_ v0) (x2.length:Int))).bind fun r0=>
   some ((GWrr.mk (remW (addW x0.at_ v0) (x2.length:Int)) (subW r0 1)),(remW (addW x0.at_ v0) (x2.length:Int))))
  else (
   k (addW v0 1)))
 else (
  some ((GWrr.mk x0.at_ 0),(-1)))
def Zh0 (x0:GWrr) (x1:GConf) (x2:List Bool)  : Nat→Int→Option (GWrr×Int)
 | 0,_=>none
 | m+1,v0=>Zl5 x0 x1 x2  (Zh0 x0 x1 x2  m) v0
def Zh6 (x0:GWrr) (x1:GConf) (x2:List Bool)  (v1:Bool):Option (GWrr×Int):=
 if v1=true then (
  some ((GWrr.mk x0.at_ (subW x0.credit 1)),x0.at_))
 else (
  Zh0 x0 x1 x2 FU 1)
def Zib (x0:GWrr) (x1:GConf) (x2:List Bool)  (v2:Bool):Option (GWrr×Int):=
 if v2=true then (
  some (x0,(-1)))
 else (
  if decide (x0.credit > 0)=true then (
   (idx x2 x0.at_).bind fun a1=>
   Zh6 x0 x1 x2 a1)
  else (
   Zh6 x0 x1 x2 false))
def Zpf (x0:GWrr) (x1:GConf) (x2:List Bool):Option (GWrr×Int):=
 (Zl9 x0 x1).bind fun r1=>
 if (!r1)=true then (
  Zib x0 x1 x2 true)
 else (
  Zib x0 x1 x2 (decide ((x2.length:Int)≠(x1.masters.length:Int))))
def Zf6 (x0:GBus) (k_L2:GBus→GBeat→(List Bool)→Int→Option GBus) (vb0:GBus) (vb1:GBeat) (v0:List Bool) (v1:Int) (v2:Bool):Option GBus:=
 if v2=true then (
  (idx vb0.buckets v1).bind fun a0=>
  (idx vb0.conf.masters v1).bind fun a1=>
  (Zj2 a0 a1).bind fun r0=>
  (setO vb0.buckets v1 r0.1).bind fun y0=>
  k_L2 {vb0 with buckets:=y0} (GBeat.mk false v1 0 false 1 0 0 false) v0 (addW v1 1))
 else (
  k_L2 vb0 vb1 v0 (addW v1 1))
def Zei (x0:GBus)  (vb0:GBus) (vb1:GBeat) (vb2:GMst):Option GBus:=
 (Zmp vb2).bind fun r1=>
 (idx vb0.m vb1.who).bind fun a2=>
 (setO vb0.m vb1.who r1.1).bind fun y1=>
 some {vb0 with m:=y1,last:=vb1.who,addr:=vb1}
def Zao (x0:GBus)  (vb0:GBus) (vb1:GBeat) (vb2:GMst) (v3:Bool):Option GBus:=
 if v3=true then (
  Zei x0 {vb0 with holder:=vb1.who,held:=0} vb1 vb2)
 else (
  Zei x0 vb0 vb1 vb2)
def Zbk (x0:GBus)  (vb0:GBus) (vb1:GBeat) (vb2:GMst):Option GBus:=
 (idx vb2.queue 0).bind fun a3=>
 if a3.lock=true then (
  if (!vb2.broken)=true then (
   Zao x0 vb0 vb1 vb2 (decide (vb0.holder < 0)))
  else (
   Zao x0 vb0 vb1 vb2 false))
 else (
  Zao x0 vb0 vb1 vb2 false)
def Qa (x0:GBus)  (vb0:GBus) (vb1:GBeat):Option GBus:=
 if decide (vb1.who < 0)=true then (
  some vb0)
 else (
  (idx vb0.m vb1.who).bind fun a4=>
  if decide (a4.beat=0)=true then (
   Zbk x0 vb0 {vb1 with live:=true,beat:=a4.beat,first:=true} a4)
  else (
   Zbk x0 vb0 {vb1 with live:=true,beat:=a4.beat,first:=(decide (vb0.last≠vb1.who))} a4))
def Zbx (x0:GBus)  (vb0:GBus) (vb1:GBeat) (v0:List Bool) (v4:Bool):Option GBus:=
 if v4=true then (
  (Zpf vb0.arb vb0.conf v0).bind fun r2=>
  Qa x0 {vb0 with arb:=r2.1} {vb1 with who:=r2.2,by_:=2})
 else (
  Qa x0 vb0 vb1)
def Ji (x0:GBus) (k_L2:GBus→GBeat→(List Bool)→Int→Option GBus) (vb0:GBus) (vb1:GBeat) (v0:List Bool) (v1:Int) (v5:Bool):Option GBus:=
 if v5=true then (
  (idx v0 v1).bind fun a5=>
  if a5=true then (
   (idx vb0.buckets v1).bind fun a6=>
   Zf6 x0 k_L2 vb0 vb1 v0 v1 (decide (a6.tokens > 0)))
  else (
   Zf6 x0 k_L2 vb0 vb1 v0 v1 false))
 else (
  if decide (vb1.who < 0)=true then (
   Zbx x0 vb0 vb1 v0 (decide (vb0.holder < 0)))
  else (
   Zbx x0 vb0 vb1 v0 false))
def Qr (x0:GBus)  (k:GBus→GBeat→(List Bool)→Int→Option GBus) (vb0:GBus) (vb1:GBeat) (v0:List Bool) (v1:Int):Option GBus:=
 if decide (v1 < (vb0.m.length:Int))=true then (
  Ji x0 k vb0 vb1 v0 v1 (decide (vb1.who < 0)))
 else (
  Ji x0 k vb0 vb1 v0 v1 false)
def Kf (x0:GBus)  : Nat→GBus→GBeat→(List Bool)→Int→Option GBus
 | 0,_,_,_,_=>none
 | m+1,vb0,vb1,v0,v1=>Qr x0  (Kf x0  m) vb0 vb1 v0 v1
def Zfu (x0:GBus)  (vb1:GBeat) (v0:List Bool):Option GBus:=
 Kf x0 FU x0 vb1 v0 0
def Zfl (x0:GBus)  (v0:List Bool) (v6:Bool):Option GBus:=
 if v6=true then (
  Zfu x0 (GBeat.mk false x0.holder 0 false 3 0 0 false) v0)
 else (
  Zfu x0 (GBeat.mk false (-1) 0 false 0 0 0 false) v0)
def Zd9 (x0:GBus)  (k:(List Bool)→Int→Option GBus) (v0:List Bool) (v7:Int):Option GBus:=
 if decide (v7 < (x0.m.length:Int))=true then (
  (idx x0.m v7).bind fun a7=>
  (Zip a7).bind fun r3=>
  if r3=true then (
   (idx x0.splits v7).bind fun a8=>
   if decide (a8=0)=true then (
    if decide (x0.holder < 0)=true then (
     (appI 1 v0 [true]).bind fun z0=>
     k z0 (addW v7 1))
    else (
     (appI 1 v0 [decide (x0.holder=v7)]).bind fun z0=>
     k z0 (addW v7 1)))
   else (
    (appI 1 v0 [false]).bind fun z0=>
    k z0 (addW v7 1)))
  else (
   (appI 1 v0 [false]).bind fun z0=>
   k z0 (addW v7 1)))
 else (
  if decide (x0.holder≥0)=true then (
   (idx v0 x0.holder).bind fun a9=>
   Zfl x0 v0 a9)
  else (
   Zfl x0 v0 false))
def Zfx (x0:GBus)  : Nat→(List Bool)→Int→Option GBus
 | 0,_,_=>none
 | m+1,v0,v7=>Zd9 x0  (Zfx x0  m) v0 v7
def Znq (x0:GBus):Option GBus:=
 Zfx x0 FU [] 0
def Zai (x0:GBus) (x1:GScript)  (vb0:GBus) (vb1:GWave):Option (GBus×GWave):=
 some ({vb0 with now:=(addW vb0.now 1)},vb1)
def Zah (x0:GBus) (x1:GScript)  (vb0:GBus) (vb2:GWave):Option (GBus×GWave):=
 (Zm6 vb0 x1).bind fun r0=>
 (Znq r0).bind fun r1=>
 if r1.addr.live=true then (
  Zai x0 x1 r1 {vb2 with got:=r1.addr.who})
 else (
  Zai x0 x1 r1 vb2)
def Qu (x0:GBus) (x1:GScript)  (vb0:GBus) (vb2:GWave) (v0:Bool):Option (GBus×GWave):=
 if v0=true then (
  (idx vb0.m vb0.holder).bind fun a0=>
  (setO vb0.m vb0.holder {a0 with broken:=true}).bind fun y0=>
  Zah x0 x1 {vb0 with m:=y0,holder:=(-1),held:=0} vb2)
 else (
  Zah x0 x1 vb0 vb2)
def Wg (x0:GBus) (x1:GScript)  (vb0:GBus) (vb2:GWave):Option (GBus×GWave):=
 if vb2.ready=true then (
  if decide (vb0.holder≥0)=true then (
   Qu x0 x1 vb0 vb2 (decide (vb0.held≥vb0.conf.lockMost)))
  else (
   Qu x0 x1 vb0 vb2 false))
 else (
  Zai x0 x1 vb0 vb2)
def Qt (x0:GBus) (x1:GScript)  (vb0:GBus) (vb2:GWave) (v1:Bool):Option (GBus×GWave):=
 if v1=true then (
  if vb0.addr.live=true then (
   (Zg3 {vb0 with addr:=GBeat.z0,data_:={vb0.data_ with second:=true}} vb0.addr).bind fun r2=>
   Wg x0 x1 r2 {vb2 with ready:=false,resp:=vb0.data_.resp})
  else (
   Wg x0 x1 {vb0 with data_:={vb0.data_ with second:=true}} {vb2 with ready:=false,resp:=vb0.data_.resp}))
 else (
  if vb0.data_.live=true then (
   (Zlg vb0 x1).bind fun r3=>
   Wg x0 x1 r3 {vb2 with resp:=vb0.data_.resp})
  else (
   Wg x0 x1 vb0 vb2))
def Zhz (x0:GBus) (x1:GScript)  (vb0:GBus) (vb2:GWave) (v2:Bool):Option (GBus×GWave):=
 if v2=true then (
  Wg x0 x1 {vb0 with data_:={vb0.data_ with left:=(subW vb0.data_.left 1)}} {vb2 with ready:=false})
 else (
  if vb0.data_.live=true then (
   if decide (vb0.data_.resp≠0)=true then (
    Qt x0 x1 vb0 vb2 (!vb0.data_.second))
   else (
    Qt x0 x1 vb0 vb2 false))
  else (
   Qt x0 x1 vb0 vb2 false))
def Qw (x0:GBus) (x1:GScript)  (vb0:GBus) (vb2:GWave):Option (GBus×GWave):=
 if vb0.data_.live=true then (
  Zhz x0 x1 vb0 vb2 (decide (vb0.data_.left > 0)))
 else (
  Zhz x0 x1 vb0 vb2 false)
def Zfb (x0:GBus) (x1:GScript)  (k:GBus→GWave→Int→Option (GBus×GWave)) (vb0:GBus) (vb2:GWave) (v3:Int):Option (GBus×GWave):=
 if decide (v3 < (vb0.m.length:Int))=true then (
  (idx vb0.splits v3).bind fun a1=>
  (setO vb0.splits v3 (maxI 0 (subW a1 1))).bind fun y1=>
  (idx vb0.buckets v3).bind fun a2=>
  (idx vb0.conf.masters v3).bind fun a3=>
  (Zkc a2 a3).bind fun r4=>
  (setO vb0.buckets v3 r4).bind fun y2=>
  k {vb0 with buckets:=y2,splits:=y1} vb2 (addW v3 1))
 else (
  if decide (vb0.holder≥0)=true then (
   Qw x0 x1 {vb0 with held:=(minI vb0.conf.lockMost (addW vb0.held 1))} vb2)
  else (
   Qw x0 x1 vb0 vb2))
def K0 (x0:GBus) (x1:GScript)  : Nat→GBus→GWave→Int→Option (GBus×GWave)
 | 0,_,_,_=>none
 | m+1,vb0,vb2,v3=>Zfb x0 x1  (K0 x0 x1  m) vb0 vb2 v3
def Zfs (x0:GBus) (x1:GScript)  (k:GBus→GWave→(List GPost)→Int→Option (GBus×GWave)) (vb0:GBus) (vb2:GWave) (v4:List GPost) (v5:Int):Option (GBus×GWave):=
 if decide (v5 < (v4.length:Int))=true then (
  (idx v4 v5).bind fun a4=>
  (Zk a4.who 0 (subW (vb0.m.length:Int) 1)).bind fun r5=>
  if r5=true then (
   (idx vb0.m a4.who).bind fun a5=>
   (Zpm a5 a4.req).bind fun r6=>
   (setO vb0.m a4.who r6.1).bind fun y3=>
   k {vb0 with m:=y3} vb2 v4 (addW v5 1))
  else (
   k vb0 vb2 v4 (addW v5 1)))
 else (
  K0 x0 x1 FU vb0 vb2 0)
def Zdo (x0:GBus) (x1:GScript)  : Nat→GBus→GWave→(List GPost)→Int→Option (GBus×GWave)
 | 0,_,_,_,_=>none
 | m+1,vb0,vb2,v4,v5=>Zfs x0 x1  (Zdo x0 x1  m) vb0 vb2 v4 v5
def Zpu (x0:GBus) (x1:GScript):Option (GBus×GWave):=
 (Zkz x0).bind fun r7=>
 (Zo3 r7).bind fun r8=>
 (Zpg x1 r7.now).bind fun r9=>
 Zdo x0 x1 FU r7 r8 r9 0
def Z1u (x0:GScript)  (k:Int→Int→Option Int) (v0:Int) (v1:Int):Option Int:=
 if decide (v1 < (x0.posts.length:Int))=true then (
  (idx x0.posts v1).bind fun a0=>
  k (maxI v0 a0.at_) (addW v1 1))
 else (
  some v0)
def Zfj (x0:GScript)  : Nat→Int→Int→Option Int
 | 0,_,_=>none
 | m+1,v0,v1=>Z1u x0  (Zfj x0  m) v0 v1
def Zmz (x0:GScript):Option Int:=
 Zfj x0 FU (-1) 0
def Zbd (x0:GBus) (x1:GScript) (k_L1:GBus→Int→Option (GBus×Int)) (vb0:GBus) (v0:Int) (v1:Bool):Option (GBus×Int):=
 if v1=true then (
  (Zpu vb0 x1).bind fun r0=>
  k_L1 r0.1 (addW v0 1))
 else (
  some (vb0,v0))
def Zc6 (x0:GBus) (x1:GScript)  (k:GBus→Int→Option (GBus×Int)) (vb0:GBus) (v0:Int):Option (GBus×Int):=
 if decide (vb0.now < 4000)=true then (
  (Zpp vb0).bind fun r1=>
  if (!r1)=true then (
   Zbd x0 x1 k vb0 v0 true)
  else (
   (Zmz x1).bind fun r2=>
   Zbd x0 x1 k vb0 v0 (decide (vb0.now≤r2))))
 else (
  Zbd x0 x1 k vb0 v0 false)
def Jn (x0:GBus) (x1:GScript)  : Nat→GBus→Int→Option (GBus×Int)
 | 0,_,_=>none
 | m+1,vb0,v0=>Zc6 x0 x1  (Jn x0 x1  m) vb0 v0
def Zrt (x0:GBus) (x1:GScript):Option (GBus×Int):=
 (Zkz x0).bind fun r3=>
 (Zik x0).bind fun r4=>
 if (!r4)=true then (
  some (r3,0))
 else (
  Jn x0 x1 FU r3 0)
def Zqz (x0:GConf) (x1:List GReq)  (k:GScript→Int→Option (List GDone×Bool)) (vb0:GScript) (v0:Int):Option (List GDone×Bool):=
 if decide (v0 < (x1.length:Int))=true then (
  (idx x1 v0).bind fun a0=>
  (Zmc a0).bind fun r0=>
  if (!r0)=true then (
   some ([],false))
  else (
   (appI 80 vb0.posts [(GPost.mk 0 0 a0)]).bind fun z0=>
   k {vb0 with posts:=z0} (addW v0 1)))
 else (
  (Zmo x0).bind fun r1=>
  (Zrt r1.1 vb0).bind fun r2=>
  some (r2.1.log,true))
def Ziv (x0:GConf) (x1:List GReq)  : Nat→GScript→Int→Option (List GDone×Bool)
 | 0,_,_=>none
 | m+1,vb0,v0=>Zqz x0 x1  (Ziv x0 x1  m) vb0 v0
def Zi7 (x0:GConf) (x1:List GReq)  (v1:Bool):Option (List GDone×Bool):=
 if v1=true then (
  some ([],false))
 else (
  Ziv x0 x1 FU GScript.z0 0)
def Zyd (x0:GConf) (x1:List GReq):Option (List GDone×Bool):=
 (Zaw x0).bind fun r3=>
 if (!r3)=true then (
  Zi7 x0 x1 true)
 else (
  Zi7 x0 x1 (decide ((x1.length:Int) > 4)))
def Zmm (x0:GL1Cur) (x1:Int)  (k:GL1Cur→(List Int)→Int→Option (List Int×GL1Cur)) (vb0:GL1Cur) (v0:List Int) (v1:Int):Option (List Int×GL1Cur):=
 if decide (v1 > 0)=true then (
  (Zo vb0 x1).bind fun r0=>
  (appI 8 v0 [r0.1]).bind fun z0=>
  k r0.2 z0 (subW v1 1))
 else (
  some (v0,vb0))
def Zbb (x0:GL1Cur) (x1:Int)  : Nat→GL1Cur→(List Int)→Int→Option (List Int×GL1Cur)
 | 0,_,_,_=>none
 | m+1,vb0,v0,v1=>Zmm x0 x1  (Zbb x0 x1  m) vb0 v0 v1
def Zf7 (x0:GL1Cur) (x1:Int):Option (List Int×GL1Cur):=
 (Zo x0 6).bind fun r1=>
 Zbb x0 x1 FU r1.2 [] r1.1
def Zbn (x0:GL1Cur) (x1:GConf) (k_L1:GL1Cur→GScript→Int→Int→Option (GScript×GL1Cur×GConf)) (vb0:GL1Cur) (vb1:GScript) (v0:Int) (v1:Int) (v2:Bool):Option (GScript×GL1Cur×GConf):=
 if v2=true then (
  (Yh vb0 [0,0,1,2,9]).bind fun r0=>
  (Zo r0.2 (x1.masters.length:Int)).bind fun r1=>
  (Zi0 r1.2).bind fun r2=>
  (appI 80 vb1.posts [(GPost.mk (addW v0 r0.1) r1.1 r2.1)]).bind fun z0=>
  k_L1 r2.2 {vb1 with posts:=z0} (addW v0 r0.1) (subW v1 1))
 else (
  some (vb1,vb0,x1))
def Zec (x0:GL1Cur) (x1:GConf)  (k:GL1Cur→GScript→Int→Int→Option (GScript×GL1Cur×GConf)) (vb0:GL1Cur) (vb1:GScript) (v0:Int) (v1:Int):Option (GScript×GL1Cur×GConf):=
 if decide (v1 > 0)=true then (
  Zbn x0 x1 k vb0 vb1 v0 v1 (decide ((x1.masters.length:Int) > 0)))
 else (
  Zbn x0 x1 k vb0 vb1 v0 v1 false)
def Ww (x0:GL1Cur) (x1:GConf)  : Nat→GL1Cur→GScript→Int→Int→Option (GScript×GL1Cur×GConf)
 | 0,_,_,_,_=>none
 | m+1,vb0,vb1,v0,v1=>Zec x0 x1  (Ww x0 x1  m) vb0 vb1 v0 v1
def Zb4 (x0:GL1Cur) (x1:GConf):Option (GScript×GL1Cur×GConf):=
 (Zf7 x0 5).bind fun r3=>
 (Zf7 r3.2 5).bind fun r4=>
 (Zo r4.2 6).bind fun r5=>
 Ww x0 x1 FU r5.2 (GScript.mk [] r3.1 r4.1) 0 r5.1
def Zmd (x0:GL1Cur) (x1:GConf):Option (GScript×GL1Cur×GConf):=
 (Zb4 x0 x1).bind fun r0=>
 if decide ((r0.1.posts.length:Int)=0)=true then (
  some (r0.1,r0.2.1,x1))
 else (
  (Zo r0.2.1 (r0.1.posts.length:Int)).bind fun r1=>
  (Zo r1.2 14).bind fun r2=>
  if decide (r2.1=0)=true then (
   (Yh r2.2 [(-1),0,99,4001]).bind fun r3=>
   (idx r0.1.posts r1.1).bind fun a0=>
   (setO r0.1.posts r1.1 {a0 with at_:=r3.1}).bind fun y0=>
   some ({r0.1 with posts:=y0},r3.2,x1))
  else (
   if decide (r2.1=1)=true then (
    (Zo r2.2 6).bind fun r4=>
    (idx r0.1.posts r1.1).bind fun a1=>
    (setO r0.1.posts r1.1 {a1 with who:=(subW r4.1 1)}).bind fun y1=>
    some ({r0.1 with posts:=y1},r4.2,x1))
   else (
    if decide (r2.1=2)=true then (
     (Zix r2.2).bind fun r5=>
     (idx r0.1.posts r1.1).bind fun a2=>
     (setO r0.1.posts r1.1 {a2 with req:=r5.1}).bind fun y2=>
     some ({r0.1 with posts:=y2},r5.2,x1))
    else (
     some (r0.1,r2.2,x1)))))
def Zkn (x0:GL1Cur) (x1:GConf) (k_L1:GL1Cur→GScript→Int→Int→Option (GScript×GL1Cur×GConf)) (vb0:GL1Cur) (vb1:GScript) (v0:Int) (v1:Int) (v2:Bool):Option (GScript×GL1Cur×GConf):=
 if v2=true then (
  (Yh vb0 [0,0,1,2,9]).bind fun r0=>
  (Zo r0.2 (x1.masters.length:Int)).bind fun r1=>
  (Zi0 r1.2).bind fun r2=>
  (appI 80 vb1.posts [(GPost.mk (addW v0 r0.1) r1.1 r2.1)]).bind fun z0=>
  k_L1 r2.2 {vb1 with posts:=z0} (addW v0 r0.1) (subW v1 1))
 else (
  some (vb1,vb0,x1))
def Zp8 (x0:GL1Cur) (x1:GConf)  (k:GL1Cur→GScript→Int→Int→Option (GScript×GL1Cur×GConf)) (vb0:GL1Cur) (vb1:GScript) (v0:Int) (v1:Int):Option (GScript×GL1Cur×GConf):=
 if decide (v1 > 0)=true then (
  Zkn x0 x1 k vb0 vb1 v0 v1 (decide ((x1.masters.length:Int) > 0)))
 else (
  Zkn x0 x1 k vb0 vb1 v0 v1 false)
def K7 (x0:GL1Cur) (x1:GConf)  : Nat→GL1Cur→GScript→Int→Int→Option (GScript×GL1Cur×GConf)
 | 0,_,_,_,_=>none
 | m+1,vb0,vb1,v0,v1=>Zp8 x0 x1  (K7 x0 x1  m) vb0 vb1 v0 v1
def Zld (x0:GL1Cur) (x1:GConf):Option (GScript×GL1Cur×GConf):=
 (Zf7 x0 5).bind fun r3=>
 (Zf7 r3.2 5).bind fun r4=>
 (Zo r4.2 6).bind fun r5=>
 K7 x0 x1 FU r5.2 (GScript.mk [] r3.1 r4.1) 0 r5.1
def Zew (x0:GL1Cur) (x1:GConf)  (vb0:GL1Cur) (vpers_0_64:List GMConf) (vb1:GScript):Option (GScript×GL1Cur×GConf):=
 if decide ((vb1.posts.length:Int)=0)=true then (
  (lenE x1.masters vpers_0_64).bind fun e0=>
  some (vb1,vb0,{x1 with masters:=vpers_0_64}))
 else (
  (Zo vb0 (vb1.posts.length:Int)).bind fun r0=>
  (Zo r0.2 14).bind fun r1=>
  if decide (r1.1=0)=true then (
   (Yh r1.2 [(-1),0,99,4001]).bind fun r2=>
   (idx vb1.posts r0.1).bind fun a0=>
   (setO vb1.posts r0.1 {a0 with at_:=r2.1}).bind fun y0=>
   (lenE x1.masters vpers_0_64).bind fun e0=>
   some ({vb1 with posts:=y0},r2.2,{x1 with masters:=vpers_0_64}))
  else (
   if decide (r1.1=1)=true then (
    (Zo r1.2 6).bind fun r3=>
    (idx vb1.posts r0.1).bind fun a1=>
    (setO vb1.posts r0.1 {a1 with who:=(subW r3.1 1)}).bind fun y1=>
    (lenE x1.masters vpers_0_64).bind fun e0=>
    some ({vb1 with posts:=y1},r3.2,{x1 with masters:=vpers_0_64}))
   else (
    if decide (r1.1=2)=true then (
     (Zix r1.2).bind fun r4=>
     (idx vb1.posts r0.1).bind fun a2=>
     (setO vb1.posts r0.1 {a2 with req:=r4.1}).bind fun y2=>
     (lenE x1.masters vpers_0_64).bind fun e0=>
     some ({vb1 with posts:=y2},r4.2,{x1 with masters:=vpers_0_64}))
    else (
     (lenE x1.masters vpers_0_64).bind fun e0=>
     some (vb1,r1.2,{x1 with masters:=vpers_0_64})))))
def Zjr (x0:GL1Cur) (x1:GConf):Option (GScript×GL1Cur×GConf):=
 if decide (x1.masters.length=0)=true then (
  (Zb4 x0 {x1 with masters:=[]}).bind fun r5=>
  Zew x0 x1 r5.2.1 x1.masters r5.1)
 else (
  (Zld x0 x1).bind fun r5=>
  (lenE x1.masters r5.2.2.masters).bind fun q0=>
  Zew x0 x1 r5.2.1 r5.2.2.masters r5.1)
def Zrw (x0:GL1Cur):Option (GConf×GScript×GL1Cur):=
 (Zm3 x0).bind fun r0=>
 (Zar r0.2 16).bind fun r1=>
 if r1.1=true then (
  (Zp3 r1.2).bind fun r2=>
  if decide (r2.1.masters.length=0)=true then (
   (Zmd r2.2 {r2.1 with masters:=[]}).bind fun r3=>
   some (r2.1,r3.1,r3.2.1))
  else (
   (Zjr r2.2 r2.1).bind fun r3=>
   (lenE r2.1.masters r3.2.2.masters).bind fun q0=>
   some ({r2.1 with masters:=r3.2.2.masters},r3.1,r3.2.1)))
 else (
  if decide (r0.1.masters.length=0)=true then (
   (Zmd r1.2 {r0.1 with masters:=[]}).bind fun r3=>
   some (r0.1,r3.1,r3.2.1))
  else (
   (Zjr r1.2 r0.1).bind fun r3=>
   (lenE r0.1.masters r3.2.2.masters).bind fun q1=>
   some ({r0.1 with masters:=r3.2.2.masters},r3.1,r3.2.1)))
def Zmq (x0:List Int):Option (GConf×GScript×Int):=
 (Zmh x0).bind fun r0=>
 (Zrw r0).bind fun r1=>
 (Zo r1.2.2 62).bind fun r2=>
 some (r1.1,r1.2.1,(subW r2.1 1))
def Zd7 (x0:List GDone)  (k:(List Int)→Int→Option (List Int)) (v0:List Int) (v1:Int):Option (List Int):=
 if decide (v1 < (x0.length:Int))=true then (
  (idx x0 v1).bind fun a0=>
  (appI 8 v0 [a0.value]).bind fun z0=>
  k z0 (addW v1 1))
 else (
  some v0)
def Zft (x0:List GDone)  : Nat→(List Int)→Int→Option (List Int)
 | 0,_,_=>none
 | m+1,v0,v1=>Zd7 x0  (Zft x0  m) v0 v1
def Zir (x0:List GDone):Option (List Int):=
 Zft x0 FU [] 0
def Zeb (x0:List Int) (x1:List Int)  (k:Int→Option Bool) (v0:Int):Option Bool:=
 if decide (v0 < (x0.length:Int))=true then (
  (idx x0 v0).bind fun a0=>
  (idx x1 v0).bind fun a1=>
  if decide (a0≠a1)=true then (
   some false)
  else (
   k (addW v0 1)))
 else (
  some true)
def Zf9 (x0:List Int) (x1:List Int)  : Nat→Int→Option Bool
 | 0,_=>none
 | m+1,v0=>Zeb x0 x1  (Zf9 x0 x1  m) v0
def Znk (x0:List Int) (x1:List Int):Option Bool:=
 if decide ((x0.length:Int)≠(x1.length:Int))=true then (
  some false)
 else (
  Zf9 x0 x1 FU 0)
def Zat (x0:List Int)  (k:GBus→(List GDone)→Int→Option Bool) (vb0:GBus) (v0:List GDone) (v1:Int):Option Bool:=
 if decide (v1 < (v0.length:Int))=true then (
  (idx vb0.log v1).bind fun a0=>
  (idx v0 v1).bind fun a1=>
  if decide (a0.resp≠a1.resp)=true then (
   some false)
  else (
   if decide (a0.addr≠a1.addr)=true then (
    some false)
   else (
    if decide (a0.cycle < a1.cycle)=true then (
     some false)
    else (
     k vb0 v0 (addW v1 1)))))
 else (
  some true)
def Zce (x0:List Int)  : Nat→GBus→(List GDone)→Int→Option Bool
 | 0,_,_,_=>none
 | m+1,vb0,v0,v1=>Zat x0  (Zce x0  m) vb0 v0 v1
def Zcb (x0:List Int)  (vb0:GBus) (v0:List GDone) (v2:Bool):Option Bool:=
 if v2=true then (
  some false)
 else (
  Zce x0 FU vb0 v0 0)
def Zax (x0:List Int)  (k:GConf→GScript→(List GReq)→Int→Option Bool) (vb0:GConf) (vb1:GScript) (v3:List GReq) (v4:Int):Option Bool:=
 if decide (v4 < (v3.length:Int))=true then (
  (idx v3 v4).bind fun a2=>
  (setO v3 v4 {a2 with lock:=false}).bind fun y0=>
  (idx y0 v4).bind fun a3=>
  (appI 80 vb1.posts [(GPost.mk 0 0 a3)]).bind fun z0=>
  k vb0 {vb1 with posts:=z0} y0 (addW v4 1))
 else (
  (Zt0 vb0 v3).bind fun r0=>
  (Zmo vb0).bind fun r1=>
  (Zne r1.1 vb1).bind fun r2=>
  if decide ((r2.1.log.length:Int)≠(r0.1.length:Int))=true then (
   Zcb x0 r2.1 r0.1 true)
  else (
   (Zir r2.1.log).bind fun r3=>
   (Zir r0.1).bind fun r4=>
   (Znk r3 r4).bind fun r5=>
   Zcb x0 r2.1 r0.1 (!r5)))
def Zcd (x0:List Int)  : Nat→GConf→GScript→(List GReq)→Int→Option Bool
 | 0,_,_,_,_=>none
 | m+1,vb0,vb1,v3,v4=>Zax x0  (Zcd x0  m) vb0 vb1 v3 v4
def Zcc (x0:List Int)  (vb0:GConf) (v3:List GReq) (v0:List GDone) (v5:Bool) (v6:Bool) (v7:Bool):Option Bool:=
 if v7=true then (
  if (v5 == v6)=true then (
   some (decide ((v0.length:Int)=0)))
  else (
   some false))
 else (
  (Zmq x0).bind fun r6=>
  Zcd x0 FU vb0 {r6.2.1 with posts:=[]} v3 0)
def Zn0 (x0:List Int):Option Bool:=
 (Z7e x0).bind fun r7=>
 if r7=true then (
  some true)
 else (
  (Zn3 x0).bind fun r8=>
  (Zt0 r8.1 r8.2).bind fun r9=>
  (Zyd r8.1 r8.2).bind fun r10=>
  if (r9.2 != r10.2)=true then (
   Zcc x0 r8.1 r8.2 r9.1 r9.2 r10.2 true)
  else (
   Zcc x0 r8.1 r8.2 r9.1 r9.2 r10.2 (!r9.2)))
end Go.Proofs.YtciimjnpdmmfnaaGreat.Ev
namespace Go.Proofs.YtciimjnpdmmfnaaGreat.Ev
open Go Go.Proofs Go.RowKit
set_option linter.unusedVariables false
set_option linter.unusedSimpArgs false
def GL1Cur.enc (x:GL1Cur):List V:=[.tr (x.b.map encU),.lit (.int .i64 x.i),.lit (.int .i64 x.h)]
def GMConf.enc (x:GMConf):List V:=[.lit (.int .i64 x.weight),.lit (.bool x.prio),.lit (.int .i64 x.every),.lit (.int .i64 x.cap)]
theorem GMConf.enc_len (x:GMConf):(GMConf.enc x).length=4:=rfl
theorem GMConf.enc_lit (x:GMConf):(GMConf.enc x).all Zr5=true:=rfl
def GConf.enc (x:GConf):List V:=[.tr (x.masters.map GMConf.enc),.lit (.int .i64 x.quantum),.lit (.int .i64 x.maxWait),.lit (.int .i64 x.maxRetry),.lit (.int .i64 x.maxSplit),.lit (.int .i64 x.lockMost)]
def GReq.enc (x:GReq):List V:=[.lit (.bool x.write),.lit (.int .i64 x.addr),.lit (.int .i64 x.size),.lit (.int .i64 x.burst),.lit (.bool x.lock),.tr (x.data_.map encI)]
theorem GReq.enc_len (x:GReq):(GReq.enc x).length=6:=rfl
def GMst.enc (x:GMst):List V:=[.tr (x.queue.map GReq.enc),.lit (.int .i64 x.beat),.lit (.int .i64 x.done),.lit (.int .i64 x.tries),.lit (.bool x.parted),.lit (.bool x.broken)]
theorem GMst.enc_len (x:GMst):(GMst.enc x).length=6:=rfl
def GWrr.enc (x:GWrr):List V:=[.lit (.int .i64 x.at_),.lit (.int .i64 x.credit)]
def GBucket.enc (x:GBucket):List V:=[.lit (.int .i64 x.tokens),.lit (.int .i64 x.count)]
theorem GBucket.enc_len (x:GBucket):(GBucket.enc x).length=2:=rfl
theorem GBucket.enc_lit (x:GBucket):(GBucket.enc x).all Zr5=true:=rfl
def GBeat.enc (x:GBeat):List V:=[.lit (.bool x.live),.lit (.int .i64 x.who),.lit (.int .i64 x.beat),.lit (.bool x.first),.lit (.int .i64 x.by_),.lit (.int .i64 x.left),.lit (.int .i64 x.resp),.lit (.bool x.second)]
theorem GBeat.enc_len (x:GBeat):(GBeat.enc x).length=8:=rfl
def GDev.enc (x:GDev):List V:=[.tr (x.regs.map encI),.lit (.int .i64 x.timer),.tr (x.fifo.map encI)]
def GModel.enc (x:GModel):List V:=[.tr (x.mem.map encI),.tr (x.dev.regs.map encI),.lit (.int .i64 x.dev.timer),.tr (x.dev.fifo.map encI)]
def GDone.enc (x:GDone):List V:=[.lit (.int .i64 x.cycle),.lit (.int .i64 x.who),.lit (.bool x.write),.lit (.int .i64 x.addr),.lit (.int .i64 x.size),.lit (.int .i64 x.value),.lit (.int .i64 x.resp)]
theorem GDone.enc_len (x:GDone):(GDone.enc x).length=7:=rfl
theorem GDone.enc_lit (x:GDone):(GDone.enc x).all Zr5=true:=rfl
def GBus.enc (x:GBus):List V:=[.tr (x.conf.masters.map GMConf.enc),.lit (.int .i64 x.conf.quantum),.lit (.int .i64 x.conf.maxWait),.lit (.int .i64 x.conf.maxRetry),.lit (.int .i64 x.conf.maxSplit),.lit (.int .i64 x.conf.lockMost),.lit (.int .i64 x.now),.tr (x.m.map GMst.enc),.lit (.int .i64 x.arb.at_),.lit (.int .i64 x.arb.credit),.tr (x.buckets.map GBucket.enc),.tr (x.splits.map encI),.lit (.int .i64 x.holder),.lit (.int .i64 x.held),.lit (.int .i64 x.last),.lit (.bool x.addr.live),.lit (.int .i64 x.addr.who),.lit (.int .i64 x.addr.beat),.lit (.bool x.addr.first),.lit (.int .i64 x.addr.by_),.lit (.int .i64 x.addr.left),.lit (.int .i64 x.addr.resp),.lit (.bool x.addr.second),.lit (.bool x.data_.live),.lit (.int .i64 x.data_.who),.lit (.int .i64 x.data_.beat),.lit (.bool x.data_.first),.lit (.int .i64 x.data_.by_),.lit (.int .i64 x.data_.left),.lit (.int .i64 x.data_.resp),.lit (.bool x.data_.second),.tr (x.model.mem.map encI),.tr (x.model.dev.regs.map encI),.lit (.int .i64 x.model.dev.timer),.tr (x.model.dev.fifo.map encI),.lit (.int .i64 x.picks),.tr (x.log.map GDone.enc)]
def GPost.enc (x:GPost):List V:=[.lit (.int .i64 x.at_),.lit (.int .i64 x.who),.lit (.bool x.req.write),.lit (.int .i64 x.req.addr),.lit (.int .i64 x.req.size),.lit (.int .i64 x.req.burst),.lit (.bool x.req.lock),.tr (x.req.data_.map encI)]
theorem GPost.enc_len (x:GPost):(GPost.enc x).length=8:=rfl
def GScript.enc (x:GScript):List V:=[.tr (x.posts.map GPost.enc),.tr (x.waits.map encI),.tr (x.says.map encI)]
def GWave.enc (x:GWave):List V:=[.lit (.int .i64 x.cycle),.lit (.int .i64 x.addr),.lit (.int .i64 x.kind),.lit (.int .i64 x.who),.lit (.int .i64 x.data_),.lit (.int .i64 x.from_),.lit (.bool x.ready),.lit (.int .i64 x.resp),.lit (.int .i64 x.got)]
def GBus.ow (x:GBus):List V:=[.own 81 (x.conf.masters.map GMConf.enc),il x.conf.quantum,il x.conf.maxWait,il x.conf.maxRetry,il x.conf.maxSplit,il x.conf.lockMost,il x.now,.own 107 (x.m.map GMst.enc),il x.arb.at_,il x.arb.credit,.own 110 (x.buckets.map GBucket.enc),.own 3 (x.splits.map encI),il x.holder,il x.held,il x.last,bl x.addr.live,il x.addr.who,il x.addr.beat,bl x.addr.first,il x.addr.by_,il x.addr.left,il x.addr.resp,bl x.addr.second,bl x.data_.live,il x.data_.who,il x.data_.beat,bl x.data_.first,il x.data_.by_,il x.data_.left,il x.data_.resp,bl x.data_.second,.own 3 (x.model.mem.map encI),.own 3 (x.model.dev.regs.map encI),il x.model.dev.timer,.own 3 (x.model.dev.fifo.map encI),il x.picks,.own 52 (x.log.map GDone.enc)]
def GBus.rl (x:GBus) (n:Nat):List V:=[.sl (1,n) 0 (x.conf.masters.map GMConf.enc).length,il x.conf.quantum,il x.conf.maxWait,il x.conf.maxRetry,il x.conf.maxSplit,il x.conf.lockMost,il x.now,.sl (1,n+1) 0 (x.m.map GMst.enc).length,il x.arb.at_,il x.arb.credit,.sl (1,n+2) 0 (x.buckets.map GBucket.enc).length,.sl (1,n+3) 0 (x.splits.map encI).length,il x.holder,il x.held,il x.last,bl x.addr.live,il x.addr.who,il x.addr.beat,bl x.addr.first,il x.addr.by_,il x.addr.left,il x.addr.resp,bl x.addr.second,bl x.data_.live,il x.data_.who,il x.data_.beat,bl x.data_.first,il x.data_.by_,il x.data_.left,il x.data_.resp,bl x.data_.second,.sl (1,n+4) 0 (x.model.mem.map encI).length,.sl (1,n+5) 0 (x.model.dev.regs.map encI).length,il x.model.dev.timer,.sl (1,n+6) 0 (x.model.dev.fifo.map encI).length,il x.picks,.sl (1,n+7) 0 (x.log.map GDone.enc).length]
def GBus.bk (x:GBus) (n:Nat):List (Id×Blk):=[((1,n),⟨false,true,true,81,(x.conf.masters.map GMConf.enc)⟩),((1,n+1),⟨false,true,true,107,(x.m.map GMst.enc)⟩),((1,n+2),⟨false,true,true,110,(x.buckets.map GBucket.enc)⟩),((1,n+3),⟨false,true,true,3,(x.splits.map encI)⟩),((1,n+4),⟨false,true,true,3,(x.model.mem.map encI)⟩),((1,n+5),⟨false,true,true,3,(x.model.dev.regs.map encI)⟩),((1,n+6),⟨false,true,true,3,(x.model.dev.fifo.map encI)⟩),((1,n+7),⟨false,true,true,52,(x.log.map GDone.enc)⟩)]
def GBus.ff (n e b:Nat):List (Id×Id):=[((1,n),(e,b)),((1,n+1),(e,b+7)),((1,n+2),(e,b+10)),((1,n+3),(e,b+11)),((1,n+4),(e,b+31)),((1,n+5),(e,b+32)),((1,n+6),(e,b+34)),((1,n+7),(e,b+36))]
def GBus.nm (x:GBus):List O:=[.num (x.conf.masters.map GMConf.enc).length 0 0 [],.num (x.m.map GMst.enc).length 0 0 [],.num (x.buckets.map GBucket.enc).length 0 0 [],.num (x.splits.map encI).length 0 0 [],.num (x.model.mem.map encI).length 0 0 [],.num (x.model.dev.regs.map encI).length 0 0 [],.num (x.model.dev.fifo.map encI).length 0 0 [],.num (x.log.map GDone.enc).length 0 0 []]
theorem GBus.so (x:GBus) {q:List O} {p:Prop} (h:Scr q p):Scr q ((x.conf.masters.map GMConf.enc).length=(x.conf.masters.map GMConf.enc).length∧(x.m.map GMst.enc).length=(x.m.map GMst.enc).length∧(x.buckets.map GBucket.enc).length=(x.buckets.map GBucket.enc).length∧(x.splits.map encI).length=(x.splits.map encI).length∧(x.model.mem.map encI).length=(x.model.mem.map encI).length∧(x.model.dev.regs.map encI).length=(x.model.dev.regs.map encI).length∧(x.model.dev.fifo.map encI).length=(x.model.dev.fifo.map encI).length∧(x.log.map GDone.enc).length=(x.log.map GDone.enc).length∧p):=⟨rfl,rfl,rfl,rfl,rfl,rfl,rfl,rfl,h⟩
theorem GBus.sc (x:GBus) {q:List O} {p:Prop} (h:Scr q p):Scr (GBus.nm x++q) ((x.conf.masters.map GMConf.enc).length=(x.conf.masters.map GMConf.enc).length∧(x.m.map GMst.enc).length=(x.m.map GMst.enc).length∧(x.buckets.map GBucket.enc).length=(x.buckets.map GBucket.enc).length∧(x.splits.map encI).length=(x.splits.map encI).length∧(x.model.mem.map encI).length=(x.model.mem.map encI).length∧(x.model.dev.regs.map encI).length=(x.model.dev.regs.map encI).length∧(x.model.dev.fifo.map encI).length=(x.model.dev.fifo.map encI).length∧(x.log.map GDone.enc).length=(x.log.map GDone.enc).length∧p):=⟨rfl,rfl,rfl,rfl,rfl,rfl,rfl,rfl,h⟩
def GDev.ow (x:GDev):List V:=[.own 3 (x.regs.map encI),il x.timer,.own 3 (x.fifo.map encI)]
def GDev.rl (x:GDev) (n:Nat):List V:=[.sl (1,n) 0 (x.regs.map encI).length,il x.timer,.sl (1,n+1) 0 (x.fifo.map encI).length]
def GDev.bk (x:GDev) (n:Nat):List (Id×Blk):=[((1,n),⟨false,true,true,3,(x.regs.map encI)⟩),((1,n+1),⟨false,true,true,3,(x.fifo.map encI)⟩)]
def GDev.ff (n e b:Nat):List (Id×Id):=[((1,n),(e,b)),((1,n+1),(e,b+2))]
def GDev.nm (x:GDev):List O:=[.num (x.regs.map encI).length 0 0 [],.num (x.fifo.map encI).length 0 0 []]
theorem GDev.so (x:GDev) {q:List O} {p:Prop} (h:Scr q p):Scr q ((x.regs.map encI).length=(x.regs.map encI).length∧(x.fifo.map encI).length=(x.fifo.map encI).length∧p):=⟨rfl,rfl,h⟩
theorem GDev.sc (x:GDev) {q:List O} {p:Prop} (h:Scr q p):Scr (GDev.nm x++q) ((x.regs.map encI).length=(x.regs.map encI).length∧(x.fifo.map encI).length=(x.fifo.map encI).length∧p):=⟨rfl,rfl,h⟩
def GModel.ow (x:GModel):List V:=[.own 3 (x.mem.map encI),.own 3 (x.dev.regs.map encI),il x.dev.timer,.own 3 (x.dev.fifo.map encI)]
def GModel.rl (x:GModel) (n:Nat):List V:=[.sl (1,n) 0 (x.mem.map encI).length,.sl (1,n+1) 0 (x.dev.regs.map encI).length,il x.dev.timer,.sl (1,n+2) 0 (x.dev.fifo.map encI).length]
def GModel.bk (x:GModel) (n:Nat):List (Id×Blk):=[((1,n),⟨false,true,true,3,(x.mem.map encI)⟩),((1,n+1),⟨false,true,true,3,(x.dev.regs.map encI)⟩),((1,n+2),⟨false,true,true,3,(x.dev.fifo.map encI)⟩)]
def GModel.ff (n e b:Nat):List (Id×Id):=[((1,n),(e,b)),((1,n+1),(e,b+1)),((1,n+2),(e,b+3))]
def GModel.nm (x:GModel):List O:=[.num (x.mem.map encI).length 0 0 [],.num (x.dev.regs.map encI).length 0 0 [],.num (x.dev.fifo.map encI).length 0 0 []]
theorem GModel.so (x:GModel) {q:List O} {p:Prop} (h:Scr q p):Scr q ((x.mem.map encI).length=(x.mem.map encI).length∧(x.dev.regs.map encI).length=(x.dev.regs.map encI).length∧(x.dev.fifo.map encI).length=(x.dev.fifo.map encI).length∧p):=⟨rfl,rfl,rfl,h⟩
theorem GModel.sc (x:GModel) {q:List O} {p:Prop} (h:Scr q p):Scr (GModel.nm x++q) ((x.mem.map encI).length=(x.mem.map encI).length∧(x.dev.regs.map encI).length=(x.dev.regs.map encI).length∧(x.dev.fifo.map encI).length=(x.dev.fifo.map encI).length∧p):=⟨rfl,rfl,rfl,h⟩
def GScript.ow (x:GScript):List V:=[.own 74 (x.posts.map GPost.enc),.own 3 (x.waits.map encI),.own 3 (x.says.map encI)]
def GScript.rl (x:GScript) (n:Nat):List V:=[.sl (1,n) 0 (x.posts.map GPost.enc).length,.sl (1,n+1) 0 (x.waits.map encI).length,.sl (1,n+2) 0 (x.says.map encI).length]
def GScript.bk (x:GScript) (n:Nat):List (Id×Blk):=[((1,n),⟨false,true,true,74,(x.posts.map GPost.enc)⟩),((1,n+1),⟨false,true,true,3,(x.waits.map encI)⟩),((1,n+2),⟨false,true,true,3,(x.says.map encI)⟩)]
def GScript.ff (n e b:Nat):List (Id×Id):=[((1,n),(e,b)),((1,n+1),(e,b+1)),((1,n+2),(e,b+2))]
def GScript.nm (x:GScript):List O:=[.num (x.posts.map GPost.enc).length 0 0 [],.num (x.waits.map encI).length 0 0 [],.num (x.says.map encI).length 0 0 []]
theorem GScript.so (x:GScript) {q:List O} {p:Prop} (h:Scr q p):Scr q ((x.posts.map GPost.enc).length=(x.posts.map GPost.enc).length∧(x.waits.map encI).length=(x.waits.map encI).length∧(x.says.map encI).length=(x.says.map encI).length∧p):=⟨rfl,rfl,rfl,h⟩
theorem GScript.sc (x:GScript) {q:List O} {p:Prop} (h:Scr q p):Scr (GScript.nm x++q) ((x.posts.map GPost.enc).length=(x.posts.map GPost.enc).length∧(x.waits.map encI).length=(x.waits.map encI).length∧(x.says.map encI).length=(x.says.map encI).length∧p):=⟨rfl,rfl,rfl,h⟩
def ffi (n:Nat):Nat→List (Id×Id)
 | 0=>[]
 | m+1=>((1,n),(1,n))::ffi (n+1) m
abbrev bx (n:Nat) (r:List V):Id×Blk:=((1,n),⟨true,true,true,0,[r]⟩)
abbrev rx (n t:Nat) (R:List (List V)):Id×Blk:=((1,n),⟨false,true,true,t,R⟩)
end Go.Proofs.YtciimjnpdmmfnaaGreat.Ev
