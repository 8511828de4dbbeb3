/- A part of the proof of FnExactSolo: see the text YtagdmghmblplbaaGreatLawFnExactSolo for what is proved and its conditions. Conditions here: those in each line. -/
import Derived.Test.YtagdmghmblplbaaGreatA7
set_option linter.unusedSimpArgs false
set_option linter.unusedVariables false
set_option linter.unusedSectionVars false
namespace Go.Proofs.YtagdmghmblplbaaGreat.Ev
open Go Go.Proofs
variable [Anchor]
abbrev Zbp (x0:List Zm) (x1:Int) (r:Int):Y:=(20,[.tr (x0.map Zm.enc),il x1],il r,[.undef,.undef])
theorem Z9g {x0:List Zm} {x1:Int} {r:Int}:∀{m:Nat} {v0:Int} {v1:Int},Zok x0 x1 m v0 v1=some r->CS (Zbp x0 x1 r) Tryz.f20 [1,0,1,0] [(0,.tr (x0.map Zm.enc)),(1,il v0),(5,il v1)] []:=by
 intro m
 induction m with
 | zero=>intro v0 v1 h;cases h
 | succ m ih=>exactλ{v0} {v1} h=>have p1 {q p} (k:Scr q p):=(lr Zm.enc x0 k);itK h (λg1 h=>bnK h λa0 Z2 h=>have p2 {q p} (k:Scr q p):=(p1 (gg g1 (xb Zm.enc Z2 k)));itK h (λg2 h=>rtK h (p2 (gg g2 ee))) λg2 h=>have p3 {q p} (k:Scr q p):=(p2 (gg g2 (xb Zm.enc Z2 k)));itK h (λg3 h=>rtK h (p3 (gg g3 ee))) λg3 h=>have p4 {q p} (k:Scr q p):=(p3 (gg g3 (xb Zm.enc Z2 (kk 1 k))));itK h (λg4 h=>rtK h (p4 (gg g4 ee))) λg4 h=>have p5 {q p} (k:Scr q p):=(p4 (gg g4 (xb Zm.enc Z2 k)));itK h (λg5 h=>rtK h (p5 (gg g5 ee))) λg5 h=>have p6 {q p} (k:Scr q p):=(p5 (gg g5 (xb Zm.enc Z2 k)));itK h (λg6 h=>rtK h (p6 (gg g6 ee))) λg6 h=>itK h (λg7 h=>rtK h (p6 (gg g6 (xb Zm.enc Z2 (gg g7 ee))))) λg7 h=>itK h (λg8 h=>rtK h (p6 (gg g6 (xb Zm.enc Z2 (gg g7 (xb Zm.enc Z2 (gg g8 ee))))))) λg8 h=>Zi [] 58 (p6 (gg g6 (xb Zm.enc Z2 (gg g7 (xb Zm.enc Z2 (gg g8 ee)))))) (ih h)) λg1 h=>rtK h (p1 (gg g1 ee))
theorem Z5t {x0:List Zm} {x1:Int} {r:Int} (h:Zpo x0 x1=some r):Zt Tryz.prog Mo (Zbp x0 x1 r):=
 Zs Tryz.func20 (Zi [] 6 ee (Z9g h))
end Go.Proofs.YtagdmghmblplbaaGreat.Ev
