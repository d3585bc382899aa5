import Derived.Test.YtabiobmfelafoaaDoorGenBase
namespace Go.Proofs.Pq
set_option linter.unusedVariables false
set_option linter.unusedSimpArgs false
set_option maxRecDepth 4000
open Go.Proofs Go.Sb Go.Proofs.Sbn Go.Proofs.Lf
def Sm (n:Nat):Prop:=bl n≤1000000
theorem Sm.sz {n:Nat} (h:Sm n):sz n<1073741824:=by
 have h1:Sbn.sz n≤31250:=HG (by unfold Sm at h;omega)
 show Sbn.sz n<_
 omega
theorem Jj {a b:Nat} (h:a≤b):bl a≤bl b:=Fe.2 (Nat.lt_of_le_of_lt h (Fe.1 (Nat.le_refl _)))
theorem bl_mul2 (a b:Nat):bl (a*b)≤bl a+bl b:=by rw [Fe,Nat.pow_add];exact Nat.mul_lt_mul'' (Fe.1 (Nat.le_refl _)) (Fe.1 (Nat.le_refl _))
theorem Jf {a b k:Nat} (ha:bl a≤k) (hb:bl b≤k):bl (a+b)≤k+1:=by
 have h1:=Fe.1 ha
 have h2:=Fe.1 hb
 rw [Fe,Nat.pow_succ];omega
theorem KB {a b:Nat} (h:a≤b) (hb:Sm b):Sm a:=Nat.le_trans (Jj h) hb
theorem sz0 (n:Nat):((Sbn.sz n:Int)=0)=(n=0):=by
 apply propext;constructor
 ·intro h;exact GK (by have:(limbs n).length=Sbn.sz n:=rfl;omega)
 ·intro h;rw [h];rfl
theorem KD (n:Nat):(0<(Sbn.sz n:Int))=(n≠0):=by
 have:=sz0 n
 apply propext;constructor
 ·intro h h0;rw [h0] at h;exact absurd h (by decide)
 ·intro h;have h2:¬(Sbn.sz n:Int)=0:=by rw [this];exact h
  omega
theorem wZeros {x:Nat} (h:Sm x):Cc x=some (tz x:Int):=by unfold Cc;exact gdB h.sz _
theorem wShr {x k:Nat} (h:Sm x) (hk:k<9223372036854775808):BS x (k:Int)=some (x/2^k):=by
 unfold BS;rw [gdB ⟨h.sz,by omega,by omega⟩];rfl
theorem wShl {x k:Nat} (h:Sm x) (hk:k<34359738368):Bf x (k:Int)=some (x*2^k):=by
 unfold Bf;rw [gdB ⟨h.sz,by omega,by omega⟩];rfl
theorem wSub {x y:Nat} (h:Sm x) (hy:y≤x):BP x y=some (x - y):=by
 unfold BP;exact gdB ⟨h.sz,(KB hy h).sz,hy⟩ _
theorem wCmp {x y:Nat} (h:Sm x) (hy:Sm y):BN x y=some (cmpw x y):=by
 unfold BN;exact gdB ⟨h.sz,hy.sz⟩ _
theorem wAdd {x y:Nat} (h:Sm x) (hy:Sm y):Ca x y=some (x+y):=by
 unfold Ca;exact gdB ⟨h.sz,hy.sz⟩ _
theorem wMul {x y:Nat} (h:Sm x) (hy:Sm y):Cj x y=some (x*y):=by
 unfold Cj;exact gdB ⟨h.sz,hy.sz⟩ _
theorem wDiv {x y:Nat} (h:Sm x) (hy:Sm y) (h0:y≠0):Cq x y=some (x/y,x%y):=by
 unfold Cq;exact gdB ⟨h.sz,hy.sz,h0⟩ _
theorem wBits {x:Nat} (h:Sm x):Bk x=some (bl x:Int):=by unfold Bk;exact gdB h.sz _
theorem wClone {x:Nat} (h:Sm x):Ch x=some x:=by unfold Ch;exact gdB h.sz _
theorem rZeros {x:Nat} (h:Sm x):Bq x=some (tz x:Int):=by unfold Bq;exact gdB h.sz _
theorem rShr {x k:Nat} (h:Sm x) (hk:k<9223372036854775808):BJ x (k:Int)=some (x/2^k):=by
 unfold BJ;rw [gdB ⟨h.sz,by omega,by omega⟩];rfl
def nz (s:Bool) (n:Nat) (e:Int):An:=if n=0 then ⟨⟨false,0⟩,0⟩ else ⟨⟨s,n/2^tz n⟩,e+tz n⟩
def toD (x:An):Af:=⟨x.m,x.e⟩
theorem Lq {n:Nat} (h:Sm n):tz n≤1000000:=by
 by_cases h0:n=0
 ·subst h0;decide
 ·obtain ⟨m,_,h1⟩:=EV h0;unfold Sm at h;omega
theorem Kk (n:Nat):∃q,n=q*2^tz n:=by
 by_cases h0:n=0
 ·exact ⟨0,by simp [h0]⟩
 ·obtain ⟨m,h1,_⟩:=EV h0;exact ⟨2*m+1,by rw [Nat.mul_comm];exact h1⟩
theorem normal (s:Bool) (n:Nat) (e:Int) (h:Sm n) (he : -1000000000000≤e) (he':e≤1000000000000):CS ⟨s,n⟩ e=some (nz s n e):=by
 have hz:=Lq h
 unfold CS nz
 simp only [sz0]
 split
 ·rfl
 ·rw [wZeros h,sB,wShr h (by omega),sB,w64 (by omega) (by omega)]
theorem refOf (s:Bool) (n:Nat) (e:Int) (h:Sm n) (he : -1000000000000≤e) (he':e≤1000000000000):DW ⟨s,n⟩ e=some (toD (nz s n e)):=by
 have hz:=Lq h
 unfold DW nz toD
 simp only [sz0]
 split
 ·rfl
 ·rw [rZeros h,sB,rShr h (by omega),sB,w64 (by omega) (by omega)]
end Go.Proofs.Pq
namespace Go.Proofs.Pq
set_option linter.unusedVariables false
set_option linter.unusedSimpArgs false
set_option maxRecDepth 4000
open Go.Proofs Go.Sb Go.Proofs.Sbn Go.Proofs.Lf
end Go.Proofs.Pq
namespace Go.Proofs.Pq
set_option linter.unusedVariables false
set_option linter.unusedSimpArgs false
set_option maxRecDepth 4000
open Go.Proofs Go.Sb Go.Proofs.Sbn Go.Proofs.Lf
end Go.Proofs.Pq
namespace Go.Proofs.Pq
set_option linter.unusedVariables false
set_option linter.unusedSimpArgs false
set_option maxRecDepth 4000
open Go.Proofs Go.Sb Go.Proofs.Sbn Go.Proofs.Lf
theorem IX {n:Nat} (h:n≠0):2^(bl n - 1)≤n∧n<2^bl n∧1≤bl n:=by
  obtain ⟨k,h1,h2,h3⟩:=IB h
  rw [h1];exact ⟨h2,h3,by omega⟩
theorem HX (n k:Nat):bl (n*2^k)≤bl n+k:=by
  rw [Fe,Nat.pow_add];exact Nat.mul_lt_mul_of_pos_right (Fe.1 (Nat.le_refl _)) (Nat.two_pow_pos k)
end Go.Proofs.Pq
namespace Go.Proofs.Pq
set_option linter.unusedVariables false
set_option linter.unusedSimpArgs false
set_option maxRecDepth 4000
open Go.Proofs Go.Sb Go.Proofs.Sbn Go.Proofs.Lf
theorem sign (s:Bool) (n:Nat) (e:Int):Bl ⟨⟨s,n⟩,e⟩=some (if n=0 then 0 else if s=true then -1 else 1):=by
 unfold Bl Fg
 simp only [sz0]
 split
 ·rfl
 ·split<;>rfl
theorem same (a b:Nat) (h:Sm a):BD (limbs a) (limbs b)=some (decide (a=b)):=by
 have hs:=h.sz
 have hl:(limbs a).length<4294967296:=by show Sbn.sz a<_;omega
 show Lf.BD _ _=_
 rw [rSame (AP a) (AP b) hl]
 simp only [AZ]
 congr 1
 apply decide_eq_decide.2
 constructor
 ·exact fun h=>h.2
 ·intro h;subst h;exact ⟨rfl,rfl⟩
def Cs (s:Bool) (n:Nat):Prop:=n=0→s=false
theorem Cs.and {s:Bool} {n m:Nat} (h:Cs s n) (hm:m=0→n=0):(s && decide (m≠0))=s:=by
 cases s
 ·rfl
 ·have:m≠0:=fun h0=>by have:=h (hm h0);cases this
  simp [this]
end Go.Proofs.Pq
namespace Go.Proofs.Pq
set_option linter.unusedVariables false
set_option linter.unusedSimpArgs false
set_option maxRecDepth 4000
open Go.Proofs Go.Sb Go.Proofs.Sbn Go.Proofs.Lf
theorem Jm (n k:Nat):bl (n/k)≤bl n:=Fe.2 (Nat.lt_of_le_of_lt (Nat.div_le_self _ _) (Fe.1 (Nat.le_refl _)))
end Go.Proofs.Pq
namespace Go.Proofs.Pq
set_option linter.unusedVariables false
set_option linter.unusedSimpArgs false
set_option maxRecDepth 4000
open Go.Proofs Go.Sb Go.Proofs.Sbn Go.Proofs.Lf
def Z (s:Bool) (n:Nat):Int:=if s=true then -(n:Int) else n
def sv (s:Bool) (n:Nat):Int:=if n=0 then 0 else if s=true then -1 else 1
end Go.Proofs.Pq
namespace Go.Proofs.Pq
set_option linter.unusedVariables false
set_option linter.unusedSimpArgs false
set_option maxRecDepth 4000
open Go.Proofs Go.Sb Go.Proofs.Sbn Go.Proofs.Lf
theorem Kn (s:Bool) (n:Nat):Z s n=0↔n=0:=by unfold Z;cases s<;>simp
end Go.Proofs.Pq
namespace Go.Proofs.Pq
set_option linter.unusedVariables false
set_option linter.unusedSimpArgs false
set_option maxRecDepth 4000
open Go.Proofs Go.Sb Go.Proofs.Sbn Go.Proofs.Lf
theorem HD {X Y:Int} {a c i j:Nat} (h:(a:Int) - c=(i:Int) - j):X*(2^a:Nat)≤Y*(2^c:Nat)↔X*(2^i:Nat)≤Y*(2^j:Nat):=by
 have key:∀ {a c k:Nat},X*(2^(a+k):Nat)≤Y*(2^(c+k):Nat)↔X*(2^a:Nat)≤Y*(2^c:Nat):=by
  intro a c k
  have hk:(0:Int)<(2^k:Nat):=by have:=Nat.two_pow_pos k;omega
  rw [Nat.pow_add,Nat.pow_add,Int.natCast_mul,Int.natCast_mul,←Int.mul_assoc,←Int.mul_assoc]
  constructor
  ·intro h;exact Int.le_of_mul_le_mul_right h hk
  ·intro h;exact Int.mul_le_mul_of_nonneg_right h (Int.le_of_lt hk)
 rw [←key (k:=i),←key (a:=i) (c:=j) (k:=a),Nat.add_comm i a,show c+i=j+a by omega]
def LeV (r r':An):Prop:=∀i j:Nat,r.e - r'.e=(i:Int) - j→Z r.m.Neg r.m.Abs*(2^i:Nat)≤Z r'.m.Neg r'.m.Abs*(2^j:Nat)
theorem HO (s:Bool) (n k:Nat):Z s (n*k)=Z s n*k:=by unfold Z;split<;>simp [Int.natCast_mul,Int.neg_mul]
theorem Z_inj {s t:Bool} {A C:Nat} (hA:0<A) (hC:0<C) (h:Z s A=Z t C):s=t∧A=C:=by
 cases s<;>cases t<;>simp only [Z,if_true,Bool.false_eq_true,if_false] at h
 ·exact ⟨rfl,by omega⟩
 ·omega
 ·omega
 ·exact ⟨rfl,by omega⟩
theorem nz_eq {s t:Bool} {M M':Nat} {e e':Int} (h:LeV (nz s M e) (nz t M' e')) (h':LeV (nz t M' e') (nz s M e)):nz s M e=nz t M' e':=by
 obtain ⟨i,j,hij⟩:∃i j:Nat,(nz s M e).e - (nz t M' e').e=(i:Int) - j:=⟨((nz s M e).e - (nz t M' e').e).toNat,(-((nz s M e).e - (nz t M' e').e)).toNat,by omega⟩
 have hq:=Int.le_antisymm (h i j hij) (h' j i (by omega))
 have hp:=Nat.two_pow_pos
 unfold nz at *
 by_cases h0:M=0<;>by_cases h1:M'=0
 ·rw [if_pos h0,if_pos h1]
 ·exfalso
  rw [if_pos h0,if_neg h1] at hq
  obtain ⟨m,hm,_⟩:=EV h1
  have:M' / 2^tz M'=2*m+1:=by generalize tz M'=z at *;rw [hm,Nat.mul_div_cancel_left _ (hp z)]
  rw [this] at hq
  simp only at hq
  rw [←HO,←HO,Nat.zero_mul,show Z false 0=0 from rfl] at hq
  have h3:=(Kn _ _).1 hq.symm
  rcases Nat.mul_eq_zero.1 h3 with h3 | h3
  ·omega
  ·have:=hp j;omega
 ·exfalso
  rw [if_neg h0,if_pos h1] at hq
  obtain ⟨m,hm,_⟩:=EV h0
  have:M/2^tz M=2*m+1:=by generalize tz M=z at *;rw [hm,Nat.mul_div_cancel_left _ (hp z)]
  rw [this] at hq
  simp only at hq
  rw [←HO,←HO,Nat.zero_mul,show Z false 0=0 from rfl] at hq
  have h3:=(Kn _ _).1 hq
  rcases Nat.mul_eq_zero.1 h3 with h3 | h3
  ·omega
  ·have:=hp i;omega
 ·rw [if_neg h0,if_neg h1] at hq hij ⊢
  simp only at hq hij
  obtain ⟨m,hm,_⟩:=EV h0
  obtain ⟨m',hm',_⟩:=EV h1
  have e1:M/2^tz M=2*m+1:=by generalize tz M=z at *;rw [hm,Nat.mul_div_cancel_left _ (hp z)]
  have e2:M' / 2^tz M'=2*m' + 1:=by generalize tz M'=z at *;rw [hm',Nat.mul_div_cancel_left _ (hp z)]
  rw [e1,e2] at hq ⊢
  rw [←HO,←HO] at hq
  have hpos1:0<(2*m+1)*2^i:=Nat.mul_pos (by omega) (hp i)
  have hpos2:0<(2*m' + 1)*2^j:=Nat.mul_pos (by omega) (hp j)
  have hst:s=t∧(2*m+1)*2^i=(2*m' + 1)*2^j:=Z_inj hpos1 hpos2 hq
  obtain ⟨rfl,hmm⟩:=hst
  have hi:i=j:=by
   have a1:=JE (n:=(2*m+1)*2^i) (k:=i) (m:=m) (Nat.mul_comm _ _)
   have a2:=JE (n:=(2*m' + 1)*2^j) (k:=j) (m:=m') (Nat.mul_comm _ _)
   rw [hmm] at a1;omega
  subst hi
  have:=Nat.eq_of_mul_eq_mul_right (hp i) hmm
  rw [this]
  congr 1
  omega
end Go.Proofs.Pq
