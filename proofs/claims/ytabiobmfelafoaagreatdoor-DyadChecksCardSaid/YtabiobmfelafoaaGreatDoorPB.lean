import Derived.Test.YtabiobmfelafoaaGreatDoorPA
namespace Go.Proofs.Pq
set_option linter.unusedVariables false
set_option linter.unusedSimpArgs false
set_option maxRecDepth 4000
open Go.Proofs Go.Sb Go.Proofs.Sbn Go.Proofs.Lf
end Go.Proofs.Pq
namespace Go.Proofs.Pq
set_option linter.unusedVariables false
set_option linter.unusedSimpArgs false
set_option maxRecDepth 4000
open Go.Proofs Go.Sb Go.Proofs.Sbn Go.Proofs.Lf
theorem cmpV (x y:An) (hx:bl x.m.Abs≤20000) (hy:bl y.m.Abs≤20000) (h1 : -1000000≤x.e) (h2:x.e≤1000000) (h3 : -1000000≤y.e) (h4:y.e≤1000000) :
  ∃c,Ca x y=some c∧(¬c<0↔LeV y x)∧(¬0<c↔LeV x y):=by
 obtain ⟨⟨s,n⟩,e⟩:=x
 obtain ⟨⟨t,m⟩,f⟩:=y
 obtain ⟨c,hc,h⟩:=cmp s t n m e f hx hy h1 h2 h3 h4
 refine ⟨c,hc,?_,?_⟩
 ·constructor
  ·intro hh i j hij
   have:=(h j i (by simp only at hij;omega)).1
   exact Int.not_lt.1 fun h5=>hh (this.2 h5)
  ·intro hh
   have h5:=hh (f - e).toNat (-(f - e)).toNat (by simp only;omega)
   have:=(h (-(f - e)).toNat (f - e).toNat (by omega)).1
   rw [this]
   exact Int.not_lt.2 h5
 ·constructor
  ·intro hh i j hij
   have:=(h i j hij).2
   exact Int.not_lt.1 fun h5=>hh (this.2 h5)
  ·intro hh
   have h5:=hh (e - f).toNat (-(e - f)).toNat (by simp only;omega)
   have:=(h (e - f).toNat (-(e - f)).toNat (by omega)).2
   rw [this]
   exact Int.not_lt.2 h5
end Go.Proofs.Pq
namespace Go.Proofs.Pq
set_option linter.unusedVariables false
set_option linter.unusedSimpArgs false
set_option maxRecDepth 4000
open Go.Proofs Go.Sb Go.Proofs.Sbn Go.Proofs.Lf
structure Ok (x:Ak):Prop where
 c:Cs x.Man.Neg x.Man.Abs
 s:bl x.Man.Abs≤20000
 l : -5000≤x.Exp
 u:x.Exp≤5000
def Cb (r:An):Prop:=bl r.m.Abs≤20000∧-1000000≤r.e∧r.e≤1000000∧∃s M e,r=nz s M e
end Go.Proofs.Pq
namespace Go.Proofs.Pq
set_option linter.unusedVariables false
set_option linter.unusedSimpArgs false
set_option maxRecDepth 4000
open Go.Proofs Go.Sb Go.Proofs.Sbn Go.Proofs.Lf
end Go.Proofs.Pq
namespace Go.Proofs.Pq
set_option linter.unusedVariables false
set_option linter.unusedSimpArgs false
set_option maxRecDepth 4000
open Go.Proofs Go.Sb Go.Proofs.Sbn Go.Proofs.Lf
end Go.Proofs.Pq
namespace Go.Proofs.Pq
set_option linter.unusedVariables false
set_option linter.unusedSimpArgs false
set_option maxRecDepth 4000
open Go.Proofs Go.Sb Go.Proofs.Sbn Go.Proofs.Lf
end Go.Proofs.Pq
namespace Go.Proofs.Pq
set_option linter.unusedVariables false
set_option linter.unusedSimpArgs false
set_option maxRecDepth 4000
open Go.Proofs Go.Sb Go.Proofs.Sbn Go.Proofs.Lf
end Go.Proofs.Pq
namespace Go.Proofs.Pq
set_option linter.unusedVariables false
set_option linter.unusedSimpArgs false
set_option maxRecDepth 4000
open Go.Proofs Go.Sb Go.Proofs.Sbn Go.Proofs.Lf
end Go.Proofs.Pq
