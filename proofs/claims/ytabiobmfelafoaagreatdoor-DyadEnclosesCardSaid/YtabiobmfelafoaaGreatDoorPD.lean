import Derived.Test.YtabiobmfelafoaaGreatDoorPC
namespace Go.Proofs.Pq
set_option linter.unusedVariables false
set_option linter.unusedSimpArgs false
set_option maxRecDepth 4000
open Go.Proofs Go.Sb Go.Proofs.Sbn Go.Proofs.Lf
def VEq (r:Aj) (N:Int) (E:Int):Prop:=(∃s M F,r=nz s M F)∧∀i j:Nat,r.e - E=(i:Int) - j→Z r.m.Neg r.m.Abs*(2^i:Nat)=N*(2^j:Nat)
theorem p2 (k:Nat):(0:Int)<(2^k:Nat):=by have:=Nat.two_pow_pos k;omega
theorem p2add (a b:Nat):((2^(a+b):Nat):Int)=(2^a:Nat)*(2^b:Nat):=by rw [Nat.pow_add,Int.natCast_mul]
theorem Z0 (s:Bool):Z s 0=0:=by cases s<;>rfl
theorem Lz (s:Bool) (M:Nat) (F:Int):VEq (nz s M F) (Z s M) F:=by
 refine ⟨⟨s,M,F,rfl⟩,fun i j hij=>?_⟩
 unfold nz at hij ⊢
 by_cases h0:M=0
 ·subst h0
  rw [if_pos rfl] at hij ⊢
  rw [Z0,Z0,Int.zero_mul,Int.zero_mul]
 ·rw [if_neg h0] at hij ⊢
  simp only at hij ⊢
  obtain ⟨q,hq⟩:=LU M
  have hqd:M/2^tz M=q:=by generalize tz M=z at *;rw [hq,Nat.mul_div_cancel _ (Nat.two_pow_pos z)]
  rw [hqd]
  generalize tz M=z at *
  rw [hq,GB,show i=z+j by omega,p2add,Int.mul_assoc]
theorem Ll (a b:Int):∃i j:Nat,a - b=(i:Int) - j:=⟨(a - b).toNat,(-(a - b)).toNat,by omega⟩
theorem VEq.base {r:Aj} {N N' E E':Int} {p q:Nat} (h:VEq r N E) (hpq:E - E'=(p:Int) - q) (hN:N*(2^p:Nat)=N' * (2^q:Nat)):VEq r N' E':=by
 refine ⟨h.1,fun i j hij=>?_⟩
 obtain ⟨a,b,hab⟩:=Ll r.e E
 have h1:=h.2 a b hab
 have h2:=p2 b
 have h3:=p2 p
 have h4:=p2 q
 have e1:Z r.m.Neg r.m.Abs*(2^(a+p):Nat)=N' * (2^(b+q):Nat):=by
  rw [p2add,p2add,←Int.mul_assoc,h1,Int.mul_assoc,Int.mul_comm ((2^b:Nat):Int) ((2^p:Nat):Int),←Int.mul_assoc,hN,Int.mul_assoc,Int.mul_comm ((2^q:Nat):Int)]
 have k1:=(Ks (X:=Z r.m.Neg r.m.Abs) (Y:=N') (a:=a+p) (c:=b+q) (i:=i) (j:=j) (by omega)).1 (Int.le_of_eq e1)
 have k2:=(Ks (X:=N') (Y:=Z r.m.Neg r.m.Abs) (a:=b+q) (c:=a+p) (i:=j) (j:=i) (by omega)).1 (Int.le_of_eq e1.symm)
 exact Int.le_antisymm k1 k2
theorem VEq.cross {r r':Aj} {N N' E:Int} (h:VEq r N E) (h':VEq r' N' E) {i j:Nat} (hij:r.e - r'.e=(i:Int) - j) :
  (Z r.m.Neg r.m.Abs*(2^i:Nat)≤Z r'.m.Neg r'.m.Abs*(2^j:Nat)↔N≤N'):=by
 obtain ⟨a,b,hab⟩:=Ll r.e E
 obtain ⟨c,d,hcd⟩:=Ll r'.e E
 have h1:=h.2 a b hab
 have h2:=h'.2 c d hcd
 rw [Ks (a:=i) (c:=j) (i:=a+d) (j:=c+b) (by omega),p2add,p2add,←Int.mul_assoc,h1,←Int.mul_assoc,h2,Int.mul_assoc,Int.mul_assoc,Int.mul_comm ((2^d:Nat):Int)]
 have hp:(0:Int)<(2^b:Nat)*(2^d:Nat):=Int.mul_pos (p2 b) (p2 d)
 constructor
 ·intro h;exact Int.le_of_mul_le_mul_right h hp
 ·intro h;exact Int.mul_le_mul_of_nonneg_right h (Int.le_of_lt hp)
theorem VEq.cmp {x y:Aj} {N N' E:Int} (hx:VEq x N E) (hy:VEq y N' E) (bx:bl x.m.Abs≤20000∧-1000000≤x.e∧x.e≤1000000) (by':bl y.m.Abs≤20000∧-1000000≤y.e∧y.e≤1000000) :
  ∃c,Bb x y=some c∧(c<0↔N<N')∧(0<c↔N' < N):=by
 obtain ⟨c,hc,h⟩:=Pq.cmp x.m.Neg y.m.Neg x.m.Abs y.m.Abs x.e y.e bx.1 by'.1 bx.2.1 bx.2.2 by'.2.1 by'.2.2
 obtain ⟨i,j,hij⟩:=Ll x.e y.e
 have h1:=h i j hij
 have h2:=hx.cross hy hij
 have h3:=hy.cross hx (i:=j) (j:=i) (by omega)
 refine ⟨c,hc,?_,?_⟩
 ·rw [h1.1,←Int.not_le,h3,Int.not_le]
 ·rw [h1.2,←Int.not_le,h2,Int.not_le]
theorem VT.veq {d:Al} (h:VT d):VEq (ofD d) (Z d.Man.Neg d.Man.Abs) d.Exp:=by
 rw [canonV h];exact Lz _ _ _
theorem VT.of {r:Aj} (h:Cb r):VT (toD r):=(outOK h).2
theorem wholeValid (s:Bool) (n:Nat) (hn:Sbn.sz n≤1024) (hz:n=0→s=false):CT ⟨s,limbs n⟩=some true:=by
 obtain ⟨v,_,h2,_⟩:=NR ⟨s,limbs n⟩ (As n)
 have h:=wholeArgs s n hn hz
 cases v
 ·unfold Kd CE Dg Fz at h
  simp only at h
  rw [h2] at h
  cases h
 ·exact h2
theorem ratio_true (s:Bool) (n d:Nat) (hz:n=0→s=false) (hn:Sbn.sz n≤1024) (hd:Sbn.sz d≤1024) (hd0:d≠0) (hg:Nat.gcd n d=1):BN ⟨⟨s,limbs n⟩,limbs d⟩=some true:=by
 have hln:((limbs d).length:Int)≠0:=by
  intro h;exact hd0 (GS (by have:Sbn.sz d=(limbs d).length:=rfl;omega))
 have h1:=natGcd n d hn hd hd0
 have h2:=Qy (Nat.gcd n d)
 rw [hg] at h1 h2
 unfold BN
 simp only
 rw [wholeValid s n hn hz,sB,nValid (As d),Ax,decide_eq_true ⟨hd,rfl⟩]
 simp only [not_true_eq_false,if_false,sB,decide_false,Bool.false_eq_true,decide_eq_false hln,IG,h1]
 exact h2
theorem PB (s:Bool) (n d:Nat) (h1:Sm n) (h2:Sm d):Ia ⟨⟨s,n⟩,d⟩=some (nz s n 0,nz false d 0):=by
 unfold Ia
 show (((some (⟨s,n⟩:Ae)).bind fun r28=>(Cz r28 0).bind fun r37=>(Cz ((⟨false,d⟩:Ae)) 0).bind fun r46=>some (r37,r46)))=_
 rw [sB,normal s n 0 h1 (by omega) (by omega),sB,normal false d 0 h2 (by omega) (by omega),sB]
theorem Ov (s t:Bool) (n k:Nat) (e f:Int) (hn:bl n≤9000) (hk:bl k≤9000) (h1 : -100000≤e) (h2:e≤100000) (h3 : -100000≤f) (h4:f≤100000) :
  CV ⟨⟨s,n⟩,e⟩ ⟨⟨t,k⟩,f⟩=some (nz (decide (¬s=t)) (n*k) (e+f)):=by
 have hb:=MT n k
 unfold CV IW
 simp only
 rw [wMul (by unfold Sm;omega) (by unfold Sm;omega),sB,sB,w64 (x:=e+f) (by omega) (by omega),normal _ _ _ (by unfold Sm;omega) (by omega) (by omega),sB]
theorem SB (s:Bool) (n m:Nat):Z s (n*m)=Z s n*m:=by
 unfold Z;split<;>simp [Int.natCast_mul,Int.neg_mul]
theorem wholeOwn (s:Bool) (n:Nat) (h:Sbn.sz n≤1024):JI ⟨s,n⟩=some ⟨s,n⟩:=by
 unfold JI FU
 simp only
 rw [gdB (by omega)];rfl
theorem wholeSigned (s:Bool) (n:Nat):Gl s n=some ⟨s && decide (n≠0),n⟩:=by
 unfold Gl
 simp only [Mt]
 cases s<;>rfl
theorem RO (n:Nat):Ij n 0=some (.ok n):=rfl
end Go.Proofs.Pq
