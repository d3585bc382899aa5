import Derived.Test.YtabiobmfelafoaaGreatDoorGenBase
namespace Go.Proofs.Pq
set_option linter.unusedVariables false
set_option linter.unusedSimpArgs false
set_option maxRecDepth 4000
open Go.Proofs Go.Sb Go.Proofs.Sbn Go.Proofs.Lf
def Sm (n:Nat):Prop:=bl n≤1000000
theorem Sm.sz {n:Nat} (h:Sm n):sz n<1073741824:=by
 have h1:Sbn.sz n≤31250:=IF (by unfold Sm at h;omega)
 show Sbn.sz n<_
 omega
theorem Le {a b:Nat} (h:a≤b):bl a≤bl b:=Ge.2 (Nat.lt_of_le_of_lt h (Ge.1 (Nat.le_refl _)))
theorem bl_mul2 (a b:Nat):bl (a*b)≤bl a+bl b:=by rw [Ge,Nat.pow_add];exact Nat.mul_lt_mul'' (Ge.1 (Nat.le_refl _)) (Ge.1 (Nat.le_refl _))
theorem Li {a b k:Nat} (ha:bl a≤k) (hb:bl b≤k):bl (a+b)≤k+1:=by
 have h1:=Ge.1 ha
 have h2:=Ge.1 hb
 rw [Ge,Nat.pow_succ];omega
theorem Ib {a b:Nat} (h:a≤b) (hb:Sm b):Sm a:=Nat.le_trans (Le h) hb
theorem sz0 (n:Nat):((Sbn.sz n:Int)=0)=(n=0):=by
 apply propext;constructor
 ·intro h;exact Hm (by have:(limbs n).length=Sbn.sz n:=rfl;omega)
 ·intro h;rw [h];rfl
theorem Kf (n:Nat):(0<(Sbn.sz n:Int))=(n≠0):=by
 have:=sz0 n
 apply propext;constructor
 ·intro h h0;rw [h0] at h;exact absurd h (by decide)
 ·intro h;have h2:¬(Sbn.sz n:Int)=0:=by rw [this];exact h
  omega
theorem wZeros {x:Nat} (h:Sm x):CD x=some (tz x:Int):=by unfold CD;exact gdB h.sz _
theorem wShr {x k:Nat} (h:Sm x) (hk:k<9223372036854775808):Cm x (k:Int)=some (x/2^k):=by
 unfold Cm;rw [gdB ⟨h.sz,by omega,by omega⟩];rfl
theorem wShl {x k:Nat} (h:Sm x) (hk:k<34359738368):Bq x (k:Int)=some (x*2^k):=by
 unfold Bq;rw [gdB ⟨h.sz,by omega,by omega⟩];rfl
theorem wSub {x y:Nat} (h:Sm x) (hy:y≤x):Co x y=some (x - y):=by
 unfold Co;exact gdB ⟨h.sz,(Ib hy h).sz,hy⟩ _
theorem wCmp {x y:Nat} (h:Sm x) (hy:Sm y):Cn x y=some (cmpw x y):=by
 unfold Cn;exact gdB ⟨h.sz,hy.sz⟩ _
theorem wAdd {x y:Nat} (h:Sm x) (hy:Sm y):CC x y=some (x+y):=by
 unfold CC;exact gdB ⟨h.sz,hy.sz⟩ _
theorem wMul {x y:Nat} (h:Sm x) (hy:Sm y):CS x y=some (x*y):=by
 unfold CS;exact gdB ⟨h.sz,hy.sz⟩ _
theorem wDiv {x y:Nat} (h:Sm x) (hy:Sm y) (h0:y≠0):CR x y=some (x/y,x%y):=by
 unfold CR;exact gdB ⟨h.sz,hy.sz,h0⟩ _
theorem wBits {x:Nat} (h:Sm x):Bw x=some (bl x:Int):=by unfold Bw;exact gdB h.sz _
theorem wClone {x:Nat} (h:Sm x):CL x=some x:=by unfold CL;exact gdB h.sz _
theorem rZeros {x:Nat} (h:Sm x):BC x=some (tz x:Int):=by unfold BC;exact gdB h.sz _
theorem rShr {x k:Nat} (h:Sm x) (hk:k<9223372036854775808):Ca x (k:Int)=some (x/2^k):=by
 unfold Ca;rw [gdB ⟨h.sz,by omega,by omega⟩];rfl
theorem rShl {x k:Nat} (h:Sm x) (hk:k<34359738368):Cd x (k:Int)=some (x*2^k):=by
 unfold Cd;rw [gdB ⟨h.sz,by omega,by omega⟩];rfl
theorem rSub {x y:Nat} (h:Sm x) (hy:y≤x):BN x y=some (x - y):=by
 unfold BN;exact gdB ⟨h.sz,(Ib hy h).sz,hy⟩ _
theorem rCmp {x y:Nat} (h:Sm x) (hy:Sm y):BL x y=some (sgnc x y):=by
 unfold BL;exact gdB ⟨h.sz,hy.sz⟩ _
theorem rAdd {x y:Nat} (h:Sm x) (hy:Sm y):Bv x y=some (x+y):=by
 unfold Bv;exact gdB ⟨h.sz,hy.sz⟩ _
theorem rMul {x y:Nat} (h:Sm x) (hy:Sm y):Cc x y=some (x*y):=by
 unfold Cc;exact gdB ⟨h.sz,hy.sz⟩ _
def nz (s:Bool) (n:Nat) (e:Int):Ao:=if n=0 then ⟨⟨false,0⟩,0⟩ else ⟨⟨s,n/2^tz n⟩,e+tz n⟩
def toD (x:Ao):Af:=⟨x.m,x.e⟩
theorem MF {n:Nat} (h:Sm n):tz n≤1000000:=by
 by_cases h0:n=0
 ·subst h0;decide
 ·obtain ⟨m,_,h1⟩:=Ir h0;unfold Sm at h;omega
theorem tz_dvd (n:Nat):∃q,n=q*2^tz n:=by
 by_cases h0:n=0
 ·exact ⟨0,by simp [h0]⟩
 ·obtain ⟨m,h1,_⟩:=Ir h0;exact ⟨2*m+1,by rw [Nat.mul_comm];exact h1⟩
theorem normal (s:Bool) (n:Nat) (e:Int) (h:Sm n) (he : -1000000000000≤e) (he':e≤1000000000000):DB ⟨s,n⟩ e=some (nz s n e):=by
 have hz:=MF h
 unfold DB nz
 simp only [sz0]
 split
 ·rfl
 ·rw [wZeros h,sB,wShr h (by omega),sB,w64 (by omega) (by omega)]
theorem refOf (s:Bool) (n:Nat) (e:Int) (h:Sm n) (he : -1000000000000≤e) (he':e≤1000000000000):Db ⟨s,n⟩ e=some (toD (nz s n e)):=by
 have hz:=MF h
 unfold Db nz toD
 simp only [sz0]
 split
 ·rfl
 ·rw [rZeros h,sB,rShr h (by omega),sB,w64 (by omega) (by omega)]
end Go.Proofs.Pq
namespace Go.Proofs.Pq
set_option linter.unusedVariables false
set_option linter.unusedSimpArgs false
set_option maxRecDepth 4000
open Go.Proofs Go.Sb Go.Proofs.Sbn Go.Proofs.Lf
def up (z:Bool) (h:Int) (o s:Bool) (dir:Int):Bool:=
 if z then false else if dir=1 then (decide (0<h) || (decide (h=0) && o)) else if dir=2 then decide (0≤h) else if dir=4 then !s else if dir=5 then s else false
def rn (s:Bool) (N D:Nat) (e:Int) (dir:Int):Ao:=
 nz s (N/D+if up (decide (N%D=0)) (sgnc (2*(N%D)) D) (decide (N/D%2=1)) s dir=true then 1 else 0) e
end Go.Proofs.Pq
namespace Go.Proofs.Pq
set_option linter.unusedVariables false
set_option linter.unusedSimpArgs false
set_option maxRecDepth 4000
open Go.Proofs Go.Sb Go.Proofs.Sbn Go.Proofs.Lf
theorem nth0 (x:Int) (l:List Int):nth (x::l) 0=some x:=by
 unfold nth;rw [if_pos ⟨by omega,by simp only [List.length_cons];omega⟩];rfl
theorem odd_r (q:Nat):(if 0<(Sbn.sz q:Int) then (nth (limbs q) 0).bind fun u=>some (decide (u.tmod 2=1)) else some false)=some (decide (q%2=1)):=by
 simp only [Kf]
 by_cases h:q=0
 ·subst h;rfl
 ·rw [if_pos h,EL h,nth0]
  show some (decide (((q%4294967296%2:Nat):Int)=1))=_
  congr 1
  apply decide_eq_decide.2
  omega
theorem sm1:Sm 1:=by unfold Sm;decide
end Go.Proofs.Pq
namespace Go.Proofs.Pq
set_option linter.unusedVariables false
set_option linter.unusedSimpArgs false
set_option maxRecDepth 4000
open Go.Proofs Go.Sb Go.Proofs.Sbn Go.Proofs.Lf
theorem rounded (q r den:Nat) (s:Bool) (dir:Int) (hq:Sm q) (hr:Sm r) (hr2:Sm (r+r)) (hd:Sm den) :
    EX q r den s dir=some (q+if up (decide (r=0)) (sgnc (2*r) den) (decide (q%2=1)) s dir=true then 1 else 0):=by
  unfold EX
  simp only [sz0]
  by_cases h0:r=0
  · rw [if_pos h0];unfold up;simp [h0]
  · rw [if_neg h0]
    simp only [rAdd hr hr,rCmp hr2 hd,Hg,rAdd hq sm1,sB]
    rw [odd_r]
    rw [show r+r=2*r by omega]
    unfold up
    simp only [decide_eq_false h0]
    generalize sgnc (2*r) den=h
    generalize hgo:decide (q%2=1)=o
    by_cases h1:0<h<;>by_cases h2:h=0<;>by_cases h3:(0:Int)≤h<;>cases o<;>cases s<;>(by_cases d1:dir=1)<;>(by_cases d2:dir=2)<;>(by_cases d4:dir=4)<;>(by_cases d5:dir=5)<;>simp_all [sB]<;>first | omega | rfl | (rw [if_neg (show ¬0<h by omega),if_neg (show ¬0<h by omega)];rfl) | (rw [if_neg (show ¬0<h by omega),if_neg (show ¬0≤h by omega)];rfl)
theorem signed_pos (s:Bool) {m:Nat} (h:m≠0):AQ s m=some ⟨s,m⟩:=by
  unfold AQ
  simp only [Kf]
  cases s
  · rfl
  · rw [if_pos rfl,decide_eq_true h];rfl
theorem part (N D:Nat) (s:Bool) (dir e:Int) (hD:0<D) (hN:Sm N) (hDs:Sm (D+D)) (h1:N/D≠0) (he : -100000000000≤e) (he':e≤100000000000) (hq1:Sm (N/D+1)) :
    GP (N/D) (N%D) D s dir e=some (toD (rn s N D e dir)):=by
  have hm:=Nat.mod_lt N hD
  unfold GP
  rw [rounded _ _ _ _ _ (Ib (Nat.div_le_self _ _) hN) (Ib (Nat.mod_le _ _) hN) (Ib (by omega) hDs) (Ib (by omega) hDs),sB,signed_pos,sB,refOf,sB]
  · rfl
  · apply Ib _ hq1;split<;>omega
  · omega
  · omega
  · exact Nat.ne_of_gt (Nat.lt_of_lt_of_le (Nat.pos_of_ne_zero h1) (Nat.le_add_right _ _))
theorem Jf (n k:Nat):bl (n*2^k)≤bl n+k:=by
  rw [Ge,Nat.pow_add];exact Nat.mul_lt_mul_of_pos_right (Ge.1 (Nat.le_refl _)) (Nat.two_pow_pos k)
end Go.Proofs.Pq
namespace Go.Proofs.Pq
set_option linter.unusedVariables false
set_option linter.unusedSimpArgs false
set_option maxRecDepth 4000
open Go.Proofs Go.Sb Go.Proofs.Sbn Go.Proofs.Lf
theorem sign (s:Bool) (n:Nat) (e:Int):Bu ⟨⟨s,n⟩,e⟩=some (if n=0 then 0 else if s=true then -1 else 1):=by
 unfold Bu FM
 simp only [sz0]
 split
 ·rfl
 ·split<;>rfl
theorem same (a b:Nat) (h:Sm a):BR (limbs a) (limbs b)=some (decide (a=b)):=by
 have hs:=h.sz
 have hl:(limbs a).length<4294967296:=by show Sbn.sz a<_;omega
 show Lf.BR _ _=_
 rw [rSame (AL a) (AL b) hl]
 simp only [AM]
 congr 1
 apply decide_eq_decide.2
 constructor
 ·exact fun h=>h.2
 ·intro h;subst h;exact ⟨rfl,rfl⟩
theorem signed (s:Bool) (m:Nat):AQ s m=some ⟨s && decide (m≠0),m⟩:=by
 unfold AQ
 simp only [Kf]
 cases s<;>rfl
def Cs (s:Bool) (n:Nat):Prop:=n=0→s=false
theorem Cs.and {s:Bool} {n m:Nat} (h:Cs s n) (hm:m=0→n=0):(s && decide (m≠0))=s:=by
 cases s
 ·rfl
 ·have:m≠0:=fun h0=>by have:=h (hm h0);cases this
  simp [this]
end Go.Proofs.Pq
namespace Go.Proofs.Pq
set_option linter.unusedVariables false
set_option linter.unusedSimpArgs false
set_option maxRecDepth 4000
open Go.Proofs Go.Sb Go.Proofs.Sbn Go.Proofs.Lf
theorem bl_div (n k:Nat):bl (n/k)≤bl n:=Ge.2 (Nat.lt_of_le_of_lt (Nat.div_le_self _ _) (Ge.1 (Nat.le_refl _)))
end Go.Proofs.Pq
namespace Go.Proofs.Pq
set_option linter.unusedVariables false
set_option linter.unusedSimpArgs false
set_option maxRecDepth 4000
open Go.Proofs Go.Sb Go.Proofs.Sbn Go.Proofs.Lf
def sv (s:Bool) (n:Nat):Int:=if n=0 then 0 else if s=true then -1 else 1
end Go.Proofs.Pq
namespace Go.Proofs.Pq
set_option linter.unusedVariables false
set_option linter.unusedSimpArgs false
set_option maxRecDepth 4000
open Go.Proofs Go.Sb Go.Proofs.Sbn Go.Proofs.Lf
end Go.Proofs.Pq
namespace Go.Proofs.Pq
set_option linter.unusedVariables false
set_option linter.unusedSimpArgs false
set_option maxRecDepth 4000
open Go.Proofs Go.Sb Go.Proofs.Sbn Go.Proofs.Lf
end Go.Proofs.Pq
