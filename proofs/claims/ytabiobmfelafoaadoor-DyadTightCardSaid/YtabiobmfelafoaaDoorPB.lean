import Derived.Test.YtabiobmfelafoaaDoorPA
namespace Go.Proofs.Pq
set_option linter.unusedVariables false
set_option linter.unusedSimpArgs false
set_option maxRecDepth 4000
open Go.Proofs Go.Sb Go.Proofs.Sbn Go.Proofs.Lf
theorem LB {n m:Nat} : (Z false n≤Z false m↔n≤m)∧(Z true n≤Z true m↔m≤n):=by
 constructor<;>simp only [Z,if_true,Bool.false_eq_true,if_false]<;>omega
theorem Z_tf (n m:Nat):Z true n≤Z false m:=by simp only [Z,if_true,Bool.false_eq_true,if_false];omega
theorem LK {s:Bool} {n:Nat} (h:n≠0):(0≤Z s n↔s=false)∧(Z s n≤0↔s=true):=by
 cases s<;>simp only [Z,if_true,Bool.false_eq_true,if_false]<;>constructor<;>simp<;>omega
end Go.Proofs.Pq
namespace Go.Proofs.Pq
set_option linter.unusedVariables false
set_option linter.unusedSimpArgs false
set_option maxRecDepth 4000
open Go.Proofs Go.Sb Go.Proofs.Sbn Go.Proofs.Lf
theorem Mx (x y:Aj) (hx:bl x.m.Abs≤20000) (hy:bl y.m.Abs≤20000) (h1 : -1000000≤x.e) (h2:x.e≤1000000) (h3 : -1000000≤y.e) (h4:y.e≤1000000) :
  ∃c,Bb x y=some c∧(¬c<0↔LeV y x)∧(¬0<c↔LeV x y):=by
 obtain ⟨⟨s,n⟩,e⟩:=x
 obtain ⟨⟨t,m⟩,f⟩:=y
 obtain ⟨c,hc,h⟩:=cmp s t n m e f hx hy h1 h2 h3 h4
 refine ⟨c,hc,?_,?_⟩
 ·constructor
  ·intro hh i j hij
   have:=(h j i (by simp only at hij;omega)).1
   exact Int.not_lt.1 fun h5=>hh (this.2 h5)
  ·intro hh
   have h5:=hh (f - e).toNat (-(f - e)).toNat (by simp only;omega)
   have:=(h (-(f - e)).toNat (f - e).toNat (by omega)).1
   rw [this]
   exact Int.not_lt.2 h5
 ·constructor
  ·intro hh i j hij
   have:=(h i j hij).2
   exact Int.not_lt.1 fun h5=>hh (this.2 h5)
  ·intro hh
   have h5:=hh (e - f).toNat (-(e - f)).toNat (by simp only;omega)
   have:=(h (e - f).toNat (-(e - f)).toNat (by omega)).2
   rw [this]
   exact Int.not_lt.2 h5
end Go.Proofs.Pq
namespace Go.Proofs.Pq
set_option linter.unusedVariables false
set_option linter.unusedSimpArgs false
set_option maxRecDepth 4000
open Go.Proofs Go.Sb Go.Proofs.Sbn Go.Proofs.Lf
structure Ok (x:Af):Prop where
 c:Cs x.Man.Neg x.Man.Abs
 s:bl x.Man.Abs≤20000
 l : -5000≤x.Exp
 u:x.Exp≤5000
theorem pickn {p:Prop} [Decidable p] (r r':Aj):(if p then some (r'.m.Neg,r'.m.Abs,r'.e) else some (r.m.Neg,r.m.Abs,r.e))=some ((if p then r' else r).m.Neg,(if p then r' else r).m.Abs,(if p then r' else r).e):=by split<;>rfl
theorem Ky {p:Prop} [Decidable p]:(if p then some () else some ())=some ():=by split<;>rfl
def Cb (r:Aj):Prop:=bl r.m.Abs≤20000∧-1000000≤r.e∧r.e≤1000000∧∃s M e,r=nz s M e
end Go.Proofs.Pq
namespace Go.Proofs.Pq
set_option linter.unusedVariables false
set_option linter.unusedSimpArgs false
set_option maxRecDepth 4000
open Go.Proofs Go.Sb Go.Proofs.Sbn Go.Proofs.Lf
end Go.Proofs.Pq
namespace Go.Proofs.Pq
set_option linter.unusedVariables false
set_option linter.unusedSimpArgs false
set_option maxRecDepth 4000
open Go.Proofs Go.Sb Go.Proofs.Sbn Go.Proofs.Lf
end Go.Proofs.Pq
namespace Go.Proofs.Pq
set_option linter.unusedVariables false
set_option linter.unusedSimpArgs false
set_option maxRecDepth 4000
open Go.Proofs Go.Sb Go.Proofs.Sbn Go.Proofs.Lf
end Go.Proofs.Pq
namespace Go.Proofs.Pq
set_option linter.unusedVariables false
set_option linter.unusedSimpArgs false
set_option maxRecDepth 4000
open Go.Proofs Go.Sb Go.Proofs.Sbn Go.Proofs.Lf
theorem Ll {n k:Nat} (h:n≠0):bl (n*2^k)=bl n+k:=by
 obtain ⟨h1,h2,h3⟩:=Fh h
 refine Nat.le_antisymm (Hp n k) ?_
 refine Nat.le_of_not_lt fun h4=>?_
 have h5:n*2^k<2^(bl n+k - 1):=EK.1 (by omega)
 have h6:2^(bl n+k - 1)=2^(bl n - 1)*2^k:=by rw [←Nat.pow_add];congr 1;omega
 rw [h6] at h5
 have:=Nat.mul_le_mul_right (2^k) h1
 omega
end Go.Proofs.Pq
namespace Go.Proofs.Pq
set_option linter.unusedVariables false
set_option linter.unusedSimpArgs false
set_option maxRecDepth 4000
open Go.Proofs Go.Sb Go.Proofs.Sbn Go.Proofs.Lf
end Go.Proofs.Pq
