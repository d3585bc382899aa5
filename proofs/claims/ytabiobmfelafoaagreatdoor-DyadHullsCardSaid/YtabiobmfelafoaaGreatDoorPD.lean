import Derived.Test.YtabiobmfelafoaaGreatDoorPC
namespace Go.Proofs.Pq
set_option linter.unusedVariables false
set_option linter.unusedSimpArgs false
set_option maxRecDepth 4000
open Go.Proofs Go.Sb Go.Proofs.Sbn Go.Proofs.Lf
def VEq (r:An) (N:Int) (E:Int):Prop:=(∃s M F,r=nz s M F)∧∀i j:Nat,r.e - E=(i:Int) - j→Z r.m.Neg r.m.Abs*(2^i:Nat)=N*(2^j:Nat)
theorem p2 (k:Nat):(0:Int)<(2^k:Nat):=by have:=Nat.two_pow_pos k;omega
theorem p2add (a b:Nat):((2^(a+b):Nat):Int)=(2^a:Nat)*(2^b:Nat):=by rw [Nat.pow_add,Int.natCast_mul]
theorem Z0 (s:Bool):Z s 0=0:=by cases s<;>rfl
theorem Pl (s:Bool) (M:Nat) (F:Int):VEq (nz s M F) (Z s M) F:=by
 refine ⟨⟨s,M,F,rfl⟩,fun i j hij=>?_⟩
 unfold nz at hij ⊢
 by_cases h0:M=0
 ·subst h0
  rw [if_pos rfl] at hij ⊢
  rw [Z0,Z0,Int.zero_mul,Int.zero_mul]
 ·rw [if_neg h0] at hij ⊢
  simp only at hij ⊢
  obtain ⟨q,hq⟩:=OE M
  have hqd:M/2^tz M=q:=by generalize tz M=z at *;rw [hq,Nat.mul_div_cancel _ (Nat.two_pow_pos z)]
  rw [hqd]
  generalize tz M=z at *
  rw [hq,RB,show i=z+j by omega,p2add,Int.mul_assoc]
theorem Kl (a b:Int):∃i j:Nat,a - b=(i:Int) - j:=⟨(a - b).toNat,(-(a - b)).toNat,by omega⟩
theorem VEq.base {r:An} {N N' E E':Int} {p q:Nat} (h:VEq r N E) (hpq:E - E'=(p:Int) - q) (hN:N*(2^p:Nat)=N' * (2^q:Nat)):VEq r N' E':=by
 refine ⟨h.1,fun i j hij=>?_⟩
 obtain ⟨a,b,hab⟩:=Kl r.e E
 have h1:=h.2 a b hab
 have h2:=p2 b
 have h3:=p2 p
 have h4:=p2 q
 have e1:Z r.m.Neg r.m.Abs*(2^(a+p):Nat)=N' * (2^(b+q):Nat):=by
  rw [p2add,p2add,←Int.mul_assoc,h1,Int.mul_assoc,Int.mul_comm ((2^b:Nat):Int) ((2^p:Nat):Int),←Int.mul_assoc,hN,Int.mul_assoc,Int.mul_comm ((2^q:Nat):Int)]
 have k1:=(Ki (X:=Z r.m.Neg r.m.Abs) (Y:=N') (a:=a+p) (c:=b+q) (i:=i) (j:=j) (by omega)).1 (Int.le_of_eq e1)
 have k2:=(Ki (X:=N') (Y:=Z r.m.Neg r.m.Abs) (a:=b+q) (c:=a+p) (i:=j) (j:=i) (by omega)).1 (Int.le_of_eq e1.symm)
 exact Int.le_antisymm k1 k2
theorem VEq.cross {r r':An} {N N' E:Int} (h:VEq r N E) (h':VEq r' N' E) {i j:Nat} (hij:r.e - r'.e=(i:Int) - j) :
  (Z r.m.Neg r.m.Abs*(2^i:Nat)≤Z r'.m.Neg r'.m.Abs*(2^j:Nat)↔N≤N'):=by
 obtain ⟨a,b,hab⟩:=Kl r.e E
 obtain ⟨c,d,hcd⟩:=Kl r'.e E
 have h1:=h.2 a b hab
 have h2:=h'.2 c d hcd
 rw [Ki (a:=i) (c:=j) (i:=a+d) (j:=c+b) (by omega),p2add,p2add,←Int.mul_assoc,h1,←Int.mul_assoc,h2,Int.mul_assoc,Int.mul_assoc,Int.mul_comm ((2^d:Nat):Int)]
 have hp:(0:Int)<(2^b:Nat)*(2^d:Nat):=Int.mul_pos (p2 b) (p2 d)
 constructor
 ·intro h;exact Int.le_of_mul_le_mul_right h hp
 ·intro h;exact Int.mul_le_mul_of_nonneg_right h (Int.le_of_lt hp)
theorem VEq.cmp {x y:An} {N N' E:Int} (hx:VEq x N E) (hy:VEq y N' E) (bx:bl x.m.Abs≤20000∧-1000000≤x.e∧x.e≤1000000) (by':bl y.m.Abs≤20000∧-1000000≤y.e∧y.e≤1000000) :
  ∃c,AH x y=some c∧(c<0↔N<N')∧(0<c↔N' < N):=by
 obtain ⟨c,hc,h⟩:=Pq.cmp x.m.Neg y.m.Neg x.m.Abs y.m.Abs x.e y.e bx.1 by'.1 bx.2.1 bx.2.2 by'.2.1 by'.2.2
 obtain ⟨i,j,hij⟩:=Kl x.e y.e
 have h1:=h i j hij
 have h2:=hx.cross hy hij
 have h3:=hy.cross hx (i:=j) (j:=i) (by omega)
 refine ⟨c,hc,?_,?_⟩
 ·rw [h1.1,←Int.not_le,h3,Int.not_le]
 ·rw [h1.2,←Int.not_le,h2,Int.not_le]
theorem VT.veq {d:Ag} (h:VT d):VEq (ofD d) (Z d.Man.Neg d.Man.Abs) d.Exp:=by
 rw [canonV h];exact Pl _ _ _
theorem VT.of {r:An} (h:Cb r):VT (toD r):=(outOK h).2
end Go.Proofs.Pq
