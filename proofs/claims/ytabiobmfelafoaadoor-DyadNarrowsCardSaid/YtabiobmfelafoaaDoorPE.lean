import Derived.Test.YtabiobmfelafoaaDoorPD
namespace Go.Proofs.Pq
set_option linter.unusedVariables false
set_option linter.unusedSimpArgs false
set_option maxRecDepth 4000
open Go.Proofs Go.Sb Go.Proofs.Sbn Go.Proofs.Lf
theorem My {b:Nat} {s:Bool} {n d:Nat} {r:Ah} (hd:d≠0) {i j:Nat} (hij:r.e=(i:Int) - j) :
  (IsR b 5 s n d r→Z r.m.Neg r.m.Abs*(2^i:Nat)*d≤Z s n*(2^j:Nat))∧(IsR b 4 s n d r→Z s n*(2^j:Nat)≤Z r.m.Neg r.m.Abs*(2^i:Nat)*d):=by
 have key:∀(u v M:Nat),r=nz s M ((v:Int) - u)→Z r.m.Neg r.m.Abs*(2^i:Nat)*(2^u:Nat)=Z s M*(2^v:Nat)*(2^j:Nat):=by
  intro u v M hr
  have h1:=(Ij s M ((v:Int) - u)).2 (i+u) (j+v) (by rw [←hr];omega)
  rw [←hr,p2add,p2add] at h1
  rw [Int.mul_assoc,h1]
  simp only [Int.mul_assoc,Int.mul_comm,Int.mul_left_comm]
 have dm:∀N D:Nat,D≠0→N/D*D≤N∧N≤(N/D+(if N%D=0 then 0 else 1))*D:=by
  intro N D hD
  have h1:=Nat.div_add_mod N D
  have h2:=Nat.mod_lt N (Nat.pos_of_ne_zero hD)
  rw [Nat.mul_comm] at h1
  constructor
  ·omega
  ·rw [Nat.add_mul]
   by_cases h:N%D=0
   ·rw [if_pos h];omega
   ·rw [if_neg h];omega
 have fin:∀(u v M:Nat),r=nz s M ((v:Int) - u)→(Z s M*(d*2^v:Nat)≤Z s (n*2^u)→Z r.m.Neg r.m.Abs*(2^i:Nat)*d≤Z s n*(2^j:Nat))∧(Z s (n*2^u)≤Z s M*(d*2^v:Nat)→Z s n*(2^j:Nat)≤Z r.m.Neg r.m.Abs*(2^i:Nat)*d):=by
  intro u v M hr
  have k:=key u v M hr
  have e1:Z r.m.Neg r.m.Abs*(2^i:Nat)*d*(2^u:Nat)=Z s M*(d*2^v:Nat)*(2^j:Nat):=by
   have e2:Z r.m.Neg r.m.Abs*(2^i:Nat)*d*(2^u:Nat)=Z r.m.Neg r.m.Abs*(2^i:Nat)*(2^u:Nat)*d:=by simp only [Int.mul_assoc,Int.mul_comm,Int.mul_left_comm]
   rw [e2,k,Int.natCast_mul]
   simp only [Int.mul_assoc,Int.mul_comm,Int.mul_left_comm]
  have e3:Z s (n*2^u)*(2^j:Nat)=Z s n*(2^j:Nat)*(2^u:Nat):=by
   rw [Dc];simp only [Int.mul_assoc,Int.mul_comm,Int.mul_left_comm]
  constructor
  ·intro h
   refine Int.le_of_mul_le_mul_right (a:=((2^u:Nat):Int)) ?_ (p2 u)
   rw [e1,←e3]
   exact Int.mul_le_mul_of_nonneg_right h (Int.le_of_lt (p2 j))
  ·intro h
   refine Int.le_of_mul_le_mul_right (a:=((2^u:Nat):Int)) ?_ (p2 u)
   rw [e1,←e3]
   exact Int.mul_le_mul_of_nonneg_right h (Int.le_of_lt (p2 j))
 have zero:n=0∧r=⟨⟨false,0⟩,0⟩→Z r.m.Neg r.m.Abs*(2^i:Nat)*d=0∧Z s n*(2^j:Nat)=0:=by
  rintro ⟨h1,h2⟩
  rw [h1,h2]
  simp only
  rw [Z0,Z0,Int.zero_mul,Int.zero_mul,Int.zero_mul];exact ⟨rfl,rfl⟩
 have hZ:∀x y D:Nat,(Z false x*(D:Int)≤Z false y↔x*D≤y)∧(Z true x*(D:Int)≤Z true y↔y≤x*D)∧(Z false y≤Z false x*(D:Int)↔y≤x*D)∧(Z true y≤Z true x*(D:Int)↔x*D≤y):=by
  intro x y D
  rw [←Dc,←Dc]
  exact ⟨HR.1,HR.2,HR.1,HR.2⟩
 constructor
 ·rintro (h | ⟨h0,u,v,hr,_⟩)
  ·obtain ⟨a,b⟩:=zero h
   rw [a,b];exact Int.le_refl _
  ·rw [rn5] at hr
   refine (fin u v _ hr).1 ?_
   have hD:d*2^v≠0:=by have:=Nat.mul_pos (Nat.pos_of_ne_zero hd) (Nat.two_pow_pos v);omega
   have:=dm (n*2^u) (d*2^v) hD
   cases s
   ·exact (hZ _ _ _).1.2 this.1
   ·exact (hZ _ _ _).2.1.2 this.2
 ·rintro (h | ⟨h0,u,v,hr,_⟩)
  ·obtain ⟨a,b⟩:=zero h
   rw [a,b];exact Int.le_refl _
  ·rw [rn4] at hr
   refine (fin u v _ hr).2 ?_
   have hD:d*2^v≠0:=by have:=Nat.mul_pos (Nat.pos_of_ne_zero hd) (Nat.two_pow_pos v);omega
   have:=dm (n*2^u) (d*2^v) hD
   cases s
   ·exact (hZ _ _ _).2.2.1.2 this.2
   ·exact (hZ _ _ _).2.2.2.2 this.1
theorem Kt {r:Ah} {B i j:Nat} {dir:Int} (hr:r.m.Abs%2=1∨r=⟨⟨false,0⟩,0⟩) (hb:bl r.m.Abs≤B) (hB:B≤100000) (hij:r.e=(i:Int) - j) (hi:i≤100000) (hj:j≤100000):IsR B dir r.m.Neg (r.m.Abs*2^i) (2^j) r:=by
 rcases hr with hr | hr
 ·have h0:r.m.Abs≠0:=by omega
  refine Or.inr ⟨?_,j+(B - bl r.m.Abs),i,?_,?_,?_,by omega,by omega⟩
  ·have:=Nat.mul_pos (Nat.pos_of_ne_zero h0) (Nat.two_pow_pos i);omega
  all_goals
   have e1:r.m.Abs*2^i*2^(j+(B - bl r.m.Abs))=r.m.Abs*2^(B - bl r.m.Abs)*(2^j*2^i):=by
    rw [Nat.pow_add];simp only [Nat.mul_assoc,Nat.mul_comm,Nat.mul_left_comm]
   have hp:0<2^j*2^i:=Nat.mul_pos (Nat.two_pow_pos _) (Nat.two_pow_pos _)
   rw [e1]
  ·rw [HK,Ns (Nat.mul_mod_left _ _),Nat.mul_div_cancel _ hp,Nat.add_zero]
   have:=Lq r.m.Neg r.m.Abs (B - bl r.m.Abs) r.e ((i:Int) - ((j+(B - bl r.m.Abs):Nat):Int)) (by omega)
   rw [this,KK hr]
  ·rw [Nat.mul_div_cancel _ hp]
   have:=(Cc h0).2.1
   calc r.m.Abs*2^(B - bl r.m.Abs)<2^bl r.m.Abs*2^(B - bl r.m.Abs):=Nat.mul_lt_mul_of_pos_right this (Nat.two_pow_pos _)
    _=2^B:=by rw [←Nat.pow_add];congr 1;omega
  ·rw [Nat.mul_div_cancel _ hp]
   obtain ⟨a1,a2,a3⟩:=Cc h0
   calc 2^(B - 1)=2^(bl r.m.Abs - 1)*2^(B - bl r.m.Abs):=by rw [←Nat.pow_add];congr 1;omega
    _≤r.m.Abs*2^(B - bl r.m.Abs):=Nat.mul_le_mul_right _ a1
 ·subst hr
  refine Or.inl ⟨?_,rfl⟩
  simp
end Go.Proofs.Pq
namespace Go.Proofs.Pq
set_option linter.unusedVariables false
set_option linter.unusedSimpArgs false
set_option maxRecDepth 4000
open Go.Proofs Go.Sb Go.Proofs.Sbn Go.Proofs.Lf
theorem nz_bits {s:Bool} {M b:Nat} {e:Int} (hb:1≤b) (hM:M≤2^b):bl (nz s M e).m.Abs≤b∧((nz s M e).m.Abs%2=1∨nz s M e=⟨⟨false,0⟩,0⟩)∧(M≠0→e≤(nz s M e).e∧(nz s M e).e≤e+b+1):=by
 unfold nz
 by_cases hM0:M=0
 ·rw [if_pos hM0];exact ⟨by simp only;rw [Dg];omega,Or.inr rfl,fun h=>absurd hM0 h⟩
 ·rw [if_neg hM0]
  simp only
  obtain ⟨t,ht,hz⟩:=DW hM0
  have h8:M/2^tz M=2*t+1:=by
   generalize tz M=z at *
   rw [ht,Nat.mul_div_cancel_left _ (Nat.two_pow_pos z)]
  refine ⟨Dw.2 ?_,Or.inl (by rw [h8];omega),fun _=>?_⟩
  ·rcases Nat.lt_or_eq_of_le hM with h1 | h1
   ·exact Nat.lt_of_le_of_lt (Nat.div_le_self _ _) h1
   ·have htz:tz M≠0:=by
     intro h
     rw [h,Nat.pow_zero,Nat.one_mul] at ht
     have:2^b=2*2^(b - 1):=by rw [Nat.mul_comm,←Nat.pow_succ];congr 1;omega
     omega
    refine Nat.lt_of_lt_of_le (Nat.div_lt_self (by omega) ?_) hM
    exact Nat.lt_of_lt_of_le (by decide:1<2^1) (Nat.pow_le_pow_right (by decide) (by omega))
  ·have h9:bl M≤b+1:=Dw.2 (Nat.lt_of_le_of_lt hM (Nat.pow_lt_pow_right (by decide) (Nat.lt_succ_self b)))
   omega
theorem Nn {b:Nat} {dir:Int} {s:Bool} {n d:Nat} {r:Ah} (hb:1≤b) (hb':b≤10000) (hd:d≠0) (h1:bl n≤30000) (h2:bl d≤30000) (h:IsR b dir s n d r) :
  -50000≤r.e∧r.e≤60000∧bl r.m.Abs≤b∧(r.m.Abs%2=1∨r=⟨⟨false,0⟩,0⟩):=by
 rcases h with ⟨_,hr⟩ | ⟨h0,u,v,hr,h3,h4,_,_⟩
 ·subst hr;exact ⟨by decide,by decide,by simp only;rw [Dg];omega,Or.inr rfl⟩
 ·obtain ⟨a1,a2,a3⟩:=Cc h0
  obtain ⟨b1,b2,b3⟩:=Cc hd
  have hD:0<d*2^v:=Nat.mul_pos (by omega) (Nat.two_pow_pos v)
  have g1:2^(b - 1+(bl d - 1+v))<2^(bl n+u):=by
   rw [Nat.le_div_iff_mul_le hD] at h4
   calc 2^(b - 1+(bl d - 1+v))=2^(b - 1)*(2^(bl d - 1)*2^v):=by rw [Nat.pow_add,Nat.pow_add]
    _≤2^(b - 1)*(d*2^v):=Nat.mul_le_mul_left _ (Nat.mul_le_mul_right _ b1)
    _≤n*2^u:=h4
    _<2^bl n*2^u:=Nat.mul_lt_mul_of_pos_right a2 (Nat.two_pow_pos u)
    _=2^(bl n+u):=by rw [Nat.pow_add]
  have g2:2^(bl n - 1+u)<2^(b+(bl d+v)):=by
   rw [Nat.div_lt_iff_lt_mul hD] at h3
   calc 2^(bl n - 1+u)=2^(bl n - 1)*2^u:=by rw [Nat.pow_add]
    _≤n*2^u:=Nat.mul_le_mul_right _ a1
    _<2^b*(d*2^v):=h3
    _≤2^b*(2^bl d*2^v):=Nat.mul_le_mul_left _ (Nat.mul_le_mul_right _ (Nat.le_of_lt b2))
    _=2^(b+(bl d+v)):=by rw [Nat.pow_add,Nat.pow_add]
  have g3:=(Nat.pow_lt_pow_iff_right (by decide:1<2)).1 g1
  have g4:=(Nat.pow_lt_pow_iff_right (by decide:1<2)).1 g2
  have hi:=Kh (n*2^u) (d*2^v) s dir
  rw [HK] at hr
  have hM0:n*2^u/(d*2^v)+inc (n*2^u) (d*2^v) s dir≠0:=by
   have:=Nat.two_pow_pos (b - 1)
   intro h
   have:=(Nat.add_eq_zero_iff.1 h).1
   rw [this] at h4
   omega
  have hM:n*2^u/(d*2^v)+inc (n*2^u) (d*2^v) s dir≤2^b:=Nat.le_trans (Nat.add_le_add_left hi _) h3
  generalize n*2^u/(d*2^v)+inc (n*2^u) (d*2^v) s dir=M at *
  obtain ⟨c1,c2,c3⟩:=nz_bits (s:=s) (e:=(v:Int) - u) hb hM
  obtain ⟨c4,c5⟩:=c3 hM0
  rw [←hr] at c1 c2 c4 c5
  exact ⟨by omega,by omega,c1,c2⟩
theorem Mx {b m:Nat} {s t:Bool} {n d n' d':Nat} {r r':Ah} (hb:1≤b) (hbm:b+m≤10000) (h:IsR b 5 s n d r) (h':IsR (b+m) 5 t n' d' r') (hd:d≠0) (hd':d'≠0) (h1:bl n≤30000) (h2:bl d≤30000)
  (hle:Z s n*d'≤Z t n' * d):LeV r r':=by
 obtain ⟨e1,e2,e3,e4⟩:=Nn hb (by omega) hd h1 h2 h
 obtain ⟨i,hi⟩:∃i:Nat,i=r.e.toNat:=⟨_,rfl⟩
 obtain ⟨j,hj⟩:∃j:Nat,j=(-r.e).toNat:=⟨_,rfl⟩
 have hij:r.e=(i:Int) - j:=by omega
 have g:=(My hd hij).1 h
 have hs:=Kt (B:=b+m) (dir:=5) e4 (by omega) (by omega) hij (by omega) (by omega)
 refine KE (by omega) (Or.inl rfl) hs h' (by have:=Nat.two_pow_pos j;omega) hd' ?_
 have dp:(0:Int)<d:=by omega
 have dp':(0:Int)≤d':=by omega
 refine Int.le_of_mul_le_mul_right (a:=(d:Int)) ?_ dp
 have g2:=Int.mul_le_mul_of_nonneg_right g dp'
 have g3:=Int.mul_le_mul_of_nonneg_right hle (Int.le_of_lt (p2 j))
 rw [Dc]
 have a1:Z r.m.Neg r.m.Abs*((2^i:Nat):Int)*d' * d=Z r.m.Neg r.m.Abs*((2^i:Nat):Int)*d*d':=by simp only [Int.mul_assoc,Int.mul_comm,Int.mul_left_comm]
 have a2:Z s n*((2^j:Nat):Int)*d'=Z s n*d' * (2^j:Nat):=by simp only [Int.mul_assoc,Int.mul_comm,Int.mul_left_comm]
 have a3:Z t n' * (d:Int)*((2^j:Nat):Int)=Z t n' * ((2^j:Nat):Int)*d:=by simp only [Int.mul_assoc,Int.mul_comm,Int.mul_left_comm]
 rw [a1,←a3]
 rw [a2] at g2
 exact Int.le_trans g2 g3
theorem Mi {b m:Nat} {s t:Bool} {n d n' d':Nat} {r r':Ah} (hb:1≤b) (hbm:b+m≤10000) (h:IsR b 4 s n d r) (h':IsR (b+m) 4 t n' d' r') (hd:d≠0) (hd':d'≠0) (h1:bl n≤30000) (h2:bl d≤30000)
  (hle:Z t n' * d≤Z s n*d'):LeV r' r:=by
 obtain ⟨e1,e2,e3,e4⟩:=Nn hb (by omega) hd h1 h2 h
 obtain ⟨i,hi⟩:∃i:Nat,i=r.e.toNat:=⟨_,rfl⟩
 obtain ⟨j,hj⟩:∃j:Nat,j=(-r.e).toNat:=⟨_,rfl⟩
 have hij:r.e=(i:Int) - j:=by omega
 have g:=(My hd hij).2 h
 have hs:=Kt (B:=b+m) (dir:=4) e4 (by omega) (by omega) hij (by omega) (by omega)
 refine KE (by omega) (Or.inr rfl) h' hs hd' (by have:=Nat.two_pow_pos j;omega) ?_
 have dp:(0:Int)<d:=by omega
 have dp':(0:Int)≤d':=by omega
 refine Int.le_of_mul_le_mul_right (a:=(d:Int)) ?_ dp
 have g2:=Int.mul_le_mul_of_nonneg_right g dp'
 have g3:=Int.mul_le_mul_of_nonneg_right hle (Int.le_of_lt (p2 j))
 rw [Dc]
 have a1:Z r.m.Neg r.m.Abs*((2^i:Nat):Int)*d' * d=Z r.m.Neg r.m.Abs*((2^i:Nat):Int)*d*d':=by simp only [Int.mul_assoc,Int.mul_comm,Int.mul_left_comm]
 have a2:Z s n*((2^j:Nat):Int)*d'=Z s n*d' * (2^j:Nat):=by simp only [Int.mul_assoc,Int.mul_comm,Int.mul_left_comm]
 have a3:Z t n' * (d:Int)*((2^j:Nat):Int)=Z t n' * ((2^j:Nat):Int)*d:=by simp only [Int.mul_assoc,Int.mul_comm,Int.mul_left_comm]
 rw [a1,←a3]
 rw [a2] at g2
 exact Int.le_trans g3 g2
end Go.Proofs.Pq
namespace Go.Proofs.Pq
set_option linter.unusedVariables false
set_option linter.unusedSimpArgs false
set_option maxRecDepth 4000
open Go.Proofs Go.Sb Go.Proofs.Sbn Go.Proofs.Lf
theorem quotientB (s t:Bool) (n d:Nat) (e f:Int) (b:Nat) (dir:Int) (hn:n≠0) (hd:d≠0) (hb:1≤b) (hb':b≤10000) (hns:bl n≤10000) (hds:bl d≤10000)
  (he : -1000000≤e) (he':e≤1000000) (hf : -1000000≤f) (hf':f≤1000000) :
  ∃u v:Nat,AF ⟨⟨s,n⟩,e⟩ ⟨⟨t,d⟩,f⟩ (b:Int) dir=some (rn (decide (¬s=t)) (n*2^u) (d*2^v) (e - f+v - u) dir)∧
   n*2^u/(d*2^v)<2^b∧2^(b - 1)≤n*2^u/(d*2^v)∧u≤100000∧v≤100000:=by
 obtain ⟨k,hk⟩:∃k:Nat,max 0 (wi64 (wi64 (wi64 ((b:Int)+2)+(bl d:Int)) - (bl n:Int)))=(k:Int):=⟨(max 0 (wi64 (wi64 (wi64 ((b:Int)+2)+(bl d:Int)) - (bl n:Int)))).toNat,by omega⟩
 have hk2:max 0 ((b:Int)+2+(bl d:Int) - (bl n:Int))=(k:Int):=by
  rwa [w64 (x:=(b:Int)+2) (by omega) (by omega),w64 (x:=(b:Int)+2+(bl d:Int)) (by omega) (by omega),w64 (x:=(b:Int)+2+(bl d:Int) - (bl n:Int)) (by omega) (by omega)] at hk
 have hn1:Sm n:=by unfold Sm;omega
 have hd1:Sm d:=by unfold Sm;omega
 have hNs:Sm (n*2^k):=KT hns (by omega)
 obtain ⟨b',hb2⟩:∃b',b' + bl d=bl n+k:=⟨bl n+k - bl d,by omega⟩
 have hg:=floor_ge (b:=b') (u:=k) (v:=0) hd hn (by omega) (by omega)
 rw [Nat.pow_zero,Nat.mul_one] at hg
 have hQs:Sm (n*2^k/d):=GC (Nat.div_le_self _ _) hNs
 have hbQ:b+2≤bl (n*2^k/d):=by
  refine Nat.le_of_not_lt fun h=>?_
  have h2:=Dw.1 (show bl (n*2^k/d)≤b' - 1 by omega)
  omega
 have hbd:=Cc (n:=n*2^k/d) (by intro h;rw [h,Dg] at hbQ;omega)
 have hQn:bl (n*2^k/d)≤1000000:=hQs
 have hQk:bl (n*2^k/d)≤bl n+k:=Nat.le_trans (Ik _ _) (GB n k)
 refine ⟨k,bl (n*2^k/d) - b,?_,?_,?_,by omega,by omega⟩
 ·unfold AF
  rw [sign,sB,if_neg (by rw [if_neg hn];split<;>decide),wBits hd1,sB,wBits hn1,sB]
  simp only [hk]
  rw [wShl hn1 (by omega),sB,wDiv hNs hd1 hd,sB]
  simp only [Ko]
  rw [w64 (x:=e - f) (by omega) (by omega),w64 (x:=e - f - k) (by omega) (by omega)]
  rw [Ju _ _ _ b dir (n*2^k) d hQs (by omega) rfl hb hbQ (by omega) (by omega),sB]
  congr 2
  omega
 ·rw [←Nat.div_div_eq_div_mul,Nat.div_lt_iff_lt_mul (Nat.two_pow_pos _),←Nat.pow_add,show b+(bl (n*2^k/d) - b)=bl (n*2^k/d) by omega]
  exact hbd.2.1
 ·rw [←Nat.div_div_eq_div_mul,Nat.le_div_iff_mul_le (Nat.two_pow_pos _),←Nat.pow_add,show b - 1+(bl (n*2^k/d) - b)=bl (n*2^k/d) - 1 by omega]
  exact hbd.1
theorem Ly (s t:Bool) (n d:Nat) (e f:Int) (b i j:Nat) (dir:Int) (hd:d≠0) (hb:1≤b) (hb':b≤10000) (hns:bl n≤10000) (hds:bl d≤10000)
  (he : -5000≤e) (he':e≤5000) (hf : -5000≤f) (hf':f≤5000) (hi:i≤20000) (hj:j≤20000) (hij:e - f=(i:Int) - j) :
  ∃r,AF ⟨⟨s,n⟩,e⟩ ⟨⟨t,d⟩,f⟩ (b:Int) dir=some r∧IsR b dir (decide (¬s=t)) (n*2^i) (d*2^j) r:=by
 by_cases h0:n=0
 ·subst h0
  refine ⟨⟨⟨false,0⟩,0⟩,?_,Or.inl ⟨Nat.zero_mul _,rfl⟩⟩
  unfold AF;rw [sign,sB];rfl
 ·obtain ⟨u,v,hp,h1,h2,h3,h4⟩:=quotientB s t n d e f b dir h0 hd hb hb' hns hds (by omega) (by omega) (by omega) (by omega)
  have hn0:n*2^i≠0:=by have:=Nat.mul_pos (Nat.pos_of_ne_zero h0) (Nat.two_pow_pos i);omega
  have e1:n*2^i*2^(u+j)=n*2^u*2^(i+j):=by simp only [Nat.pow_add,Nat.mul_assoc,Nat.mul_comm,Nat.mul_left_comm]
  have e2:d*2^j*2^(v+i)=d*2^v*2^(i+j):=by simp only [Nat.pow_add,Nat.mul_assoc,Nat.mul_comm,Nat.mul_left_comm]
  have e3:n*2^i*2^(u+j)/(d*2^j*2^(v+i))=n*2^u/(d*2^v):=by
   rw [e1,e2,Nat.mul_div_mul_right _ _ (Nat.two_pow_pos _)]
  have dv:0<d*2^v:=Nat.mul_pos (Nat.pos_of_ne_zero hd) (Nat.two_pow_pos v)
  refine ⟨_,hp,Or.inr ⟨hn0,u+j,v+i,?_,by rw [e3];exact h1,by rw [e3];exact h2,by omega,by omega⟩⟩
  rw [show ((v+i:Nat):Int) - ((u+j:Nat):Int)=e - f+v - u by omega,e1,e2]
  refine Ka _ _ dv (Nat.mul_pos dv (Nat.two_pow_pos _)) ?_
  simp only [Nat.mul_assoc,Nat.mul_comm,Nat.mul_left_comm]
theorem Kb (s t:Bool) (n:Nat):Z (decide (¬s=t)) n=if t=true then - Z s n else Z s n:=by
 cases s<;>cases t<;>simp [Z]
theorem KC {d:Af} (hd:VT d) (h:Lt3 d):∃i:Nat,d.Exp+800=(i:Int)∧i≤1600∧VEq (ofD d) (Z d.Man.Neg (d.Man.Abs*2^i)) (-800)∧bl (d.Man.Abs*2^i)≤2240:=by
 obtain ⟨h1,h2,h3⟩:=h
 obtain ⟨i,hi⟩:∃i:Nat,d.Exp+800=(i:Int):=⟨(d.Exp+800).toNat,by omega⟩
 refine ⟨i,hi,by omega,?_,by have:=GB d.Man.Abs i;omega⟩
 refine hd.veq.base (p:=i) (q:=0) (by omega) ?_
 rw [Dc,Nat.pow_zero]
 simp
theorem HH {k m:Nat} {x w y:Af} (hk:1≤k) (hk':k+m≤4096) (vx:VT x) (vw:VT w) (lx:Lt3 x) (lw:Lt3 w) (ly:Lt3 y) (y0:y.Man.Abs≠0) :
  ∃l l' u u',AF (ofD w) (ofD y) (k:Int) 5=some l∧AF (ofD x) (ofD y) ((k+m:Nat):Int) 5=some l'∧
   AF (ofD w) (ofD y) (k:Int) 4=some u∧AF (ofD x) (ofD y) ((k+m:Nat):Int) 4=some u'∧Cb l∧Cb l'∧Cb u∧Cb u'∧
   ((y.Man.Neg=false→LeV (ofD w) (ofD x))→(y.Man.Neg=true→LeV (ofD x) (ofD w))→LeV l l')∧
   ((y.Man.Neg=false→LeV (ofD x) (ofD w))→(y.Man.Neg=true→LeV (ofD w) (ofD x))→LeV u' u):=by
 obtain ⟨i,hi,hi',ex,bx⟩:=KC vx lx
 obtain ⟨j,hj,hj',ew,bw⟩:=KC vw lw
 obtain ⟨g,hg⟩:∃g:Nat,y.Exp+800=(g:Int):=⟨(y.Exp+800).toNat,by have:=ly.2.1;omega⟩
 have iff1:=CC ew ex
 have iff2:=CC ex ew
 obtain ⟨⟨s,n⟩,e⟩:=x
 obtain ⟨⟨s',n'⟩,e'⟩:=w
 obtain ⟨⟨t,d⟩,f⟩:=y
 obtain ⟨x1,x2,x3⟩:=lx
 obtain ⟨w1,w2,w3⟩:=lw
 obtain ⟨y1,y2,y3⟩:=ly
 simp only at *
 obtain ⟨l,a1,a2⟩:=Ly s' t n' d e' f k j g 5 y0 hk (by omega) (by omega) (by omega) (by omega) (by omega) (by omega) (by omega) (by omega) (by omega) (by omega)
 obtain ⟨u,b1,b2⟩:=Ly s' t n' d e' f k j g 4 y0 hk (by omega) (by omega) (by omega) (by omega) (by omega) (by omega) (by omega) (by omega) (by omega) (by omega)
 obtain ⟨l',c1,c2⟩:=Ly s t n d e f (k+m) i g 5 y0 (by omega) (by omega) (by omega) (by omega) (by omega) (by omega) (by omega) (by omega) (by omega) (by omega) (by omega)
 obtain ⟨u',d1,d2⟩:=Ly s t n d e f (k+m) i g 4 y0 (by omega) (by omega) (by omega) (by omega) (by omega) (by omega) (by omega) (by omega) (by omega) (by omega) (by omega)
 have hd0:d*2^g≠0:=by have:=Nat.mul_pos (Nat.pos_of_ne_zero y0) (Nat.two_pow_pos g);omega
 have hbd:bl (d*2^g)≤30000:=by have:=GB d g;omega
 have hp:(0:Int)≤(d*2^g:Nat):=by omega
 refine ⟨l,l',u,u',a1,c1,b1,d1,HJ (by omega) a2,HJ (by omega) c2,HJ (by omega) b2,HJ (by omega) d2,fun h1 h2=>?_,fun h1 h2=>?_⟩
 ·refine Mx hk (by omega) a2 c2 hd0 hd0 (by omega) hbd (Int.mul_le_mul_of_nonneg_right ?_ hp)
  rw [Kb,Kb]
  cases t
  ·exact iff1.1 (h1 rfl)
  ·have:=iff2.1 (h2 rfl)
   simp only [if_true];omega
 ·refine Mi hk (by omega) b2 d2 hd0 hd0 (by omega) hbd (Int.mul_le_mul_of_nonneg_right ?_ hp)
  rw [Kb,Kb]
  cases t
  ·exact iff2.1 (h1 rfl)
  ·have:=iff1.1 (h2 rfl)
   simp only [if_true];omega
end Go.Proofs.Pq
namespace Go.Proofs.Pq
set_option linter.unusedVariables false
set_option linter.unusedSimpArgs false
set_option maxRecDepth 4000
open Go.Proofs Go.Sb Go.Proofs.Sbn Go.Proofs.Lf
abbrev overF (X Y:Aq) (b:Int) (x0 x1 y0 y1:Ah):Option Aq:=
 (FQ X Y b x0 y0).bind fun s84=>(Dm X Y b s84 x0 y1).bind fun s85=>(Dm X Y b s85 x1 y0).bind fun s86=>Dm X Y b s86 x1 y1
theorem KH (X Y:Aq) (b:Int) (x0 x1 y0 y1:Ah) {l1 l2 l3 l4 u1 u2 u3 u4:Ah}
  (a1:AF x0 y0 b 5=some l1) (a2:AF x0 y0 b 4=some u1) (b1:AF x0 y1 b 5=some l2) (b2:AF x0 y1 b 4=some u2)
  (c1:AF x1 y0 b 5=some l3) (c2:AF x1 y0 b 4=some u3) (d1:AF x1 y1 b 5=some l4) (d2:AF x1 y1 b 4=some u4)
  (g1:Cb l1) (g2:Cb l2) (g3:Cb l3) (g4:Cb l4) (h1:Cb u1) (h2:Cb u2) (h3:Cb u3) (h4:Cb u4) :
  ∃L H,overF X Y b x0 x1 y0 y1=some ⟨L,H⟩∧(L=l1∨L=l2∨L=l3∨L=l4)∧(H=u1∨H=u2∨H=u3∨H=u4)∧
   (LeV L l1∧LeV L l2∧LeV L l3∧LeV L l4)∧(LeV u1 H∧LeV u2 H∧LeV u3 H∧LeV u4 H):=by
 obtain ⟨z1,hz1,_⟩:=HQ g1 g1
 obtain ⟨z2,hz2,_⟩:=HQ h1 h1
 obtain ⟨e2,he2,i2⟩:=HQ g2 g1
 obtain ⟨f2,hf2,j2⟩:=HQ h2 h1
 have el2:(if e2<0 then l2 else l1)=l1∨(if e2<0 then l2 else l1)=l2:=by split<;>simp
 have eh2:(if 0<f2 then u2 else u1)=u1∨(if 0<f2 then u2 else u1)=u2:=by split<;>simp
 have bl2:Cb (if e2<0 then l2 else l1):=by split<;>assumption
 have bh2:Cb (if 0<f2 then u2 else u1):=by split<;>assumption
 have pl2:=Im i2
 have ph2:=Il j2
 generalize gL2:(if e2<0 then l2 else l1)=L2 at el2 bl2 pl2
 generalize gH2:(if 0<f2 then u2 else u1)=H2 at eh2 bh2 ph2
 obtain ⟨e3,he3,i3⟩:=HQ g3 bl2
 obtain ⟨f3,hf3,j3⟩:=HQ h3 bh2
 have el3:(if e3<0 then l3 else L2)=L2∨(if e3<0 then l3 else L2)=l3:=by split<;>simp
 have eh3:(if 0<f3 then u3 else H2)=H2∨(if 0<f3 then u3 else H2)=u3:=by split<;>simp
 have bl3:Cb (if e3<0 then l3 else L2):=by split<;>assumption
 have bh3:Cb (if 0<f3 then u3 else H2):=by split<;>assumption
 have pl3:=Im i3
 have ph3:=Il j3
 generalize gL3:(if e3<0 then l3 else L2)=L3 at el3 bl3 pl3
 generalize gH3:(if 0<f3 then u3 else H2)=H3 at eh3 bh3 ph3
 obtain ⟨e4,he4,i4⟩:=HQ g4 bl3
 obtain ⟨f4,hf4,j4⟩:=HQ h4 bh3
 have el4:(if e4<0 then l4 else L3)=L3∨(if e4<0 then l4 else L3)=l4:=by split<;>simp
 have eh4:(if 0<f4 then u4 else H3)=H3∨(if 0<f4 then u4 else H3)=u4:=by split<;>simp
 have pl4:=Im i4
 have ph4:=Il j4
 generalize gL4:(if e4<0 then l4 else L3)=L4 at el4 pl4
 generalize gH4:(if 0<f4 then u4 else H3)=H4 at eh4 ph4
 refine ⟨L4,H4,?_,?_,?_,⟨(pl4.1.trans pl3.1).trans pl2.1,(pl4.1.trans pl3.1).trans pl2.2,pl4.1.trans pl3.2,pl4.2⟩,⟨(ph2.1.trans ph3.1).trans ph4.1,(ph2.2.trans ph3.1).trans ph4.1,ph3.2.trans ph4.1,ph4.2⟩⟩
 ·unfold overF FQ
  rw [a1,sB,a2,sB,hz1,sB,Jb,sB,hz2,sB,Jb,sB,sB]
  unfold Dm
  simp only
  rw [b1,sB,b2,sB,he2,sB,pickn,sB,hf2,sB,pickn,sB,sB,gL2,gH2]
  simp only
  rw [c1,sB,c2,sB,he3,sB,pickn,sB,hf3,sB,pickn,sB,sB,gL3,gH3]
  simp only
  rw [d1,sB,d2,sB,he4,sB,pickn,sB,hf4,sB,pickn,sB,gL4,gH4]
 ·rcases el4 with h | h
  ·rcases el3 with h3 | h3
   ·rcases el2 with h2 | h2
    ·left;rw [h,h3,h2]
    ·right;left;rw [h,h3,h2]
   ·right;right;left;rw [h,h3]
  ·right;right;right;exact h
 ·rcases eh4 with h | h
  ·rcases eh3 with h3 | h3
   ·rcases eh2 with h2 | h2
    ·left;rw [h,h3,h2]
    ·right;left;rw [h,h3,h2]
   ·right;right;left;rw [h,h3]
  ·right;right;right;exact h
theorem narrowOver (A W C:Aq) (a0 a1 w0 w1 c0 c1:Af) (k m:Nat) (hk:1≤k) (hk':k+m≤4096) (va0:VT a0) (va1:VT a1) (vw0:VT w0) (vw1:VT w1)
  (la0:Lt3 a0) (la1:Lt3 a1) (lw0:Lt3 w0) (lw1:Lt3 w1) (lc0:Lt3 c0) (lc1:Lt3 c1) (n0:c0.Man.Abs≠0) (n1:c1.Man.Abs≠0) (h0:LeV (ofD w0) (ofD a0)) (h1:LeV (ofD a1) (ofD w1)) (ha:LeV (ofD a0) (ofD a1)) :
  ∃r5 r4 s5 s4,overF A C ((k+m:Nat):Int) (ofD a0) (ofD a1) (ofD c0) (ofD c1)=some ⟨r5,r4⟩∧overF W C (k:Int) (ofD w0) (ofD w1) (ofD c0) (ofD c1)=some ⟨s5,s4⟩∧
   Cb r5∧Cb r4∧Cb s5∧Cb s4∧LeV s5 r5∧LeV r4 s4:=by
 have k0:LeV (ofD w0) (ofD a1):=h0.trans ha
 have k1:LeV (ofD a0) (ofD w1):=ha.trans h1
 obtain ⟨p1,q1,p1',q1',A1,A2,A3,A4,B1,B2,B3,B4,u1,v1⟩:=HH (y:=c0) hk hk' va0 vw0 la0 lw0 lc0 n0
 obtain ⟨p2,q2,p2',q2',C1,C2,C3,C4,D1,D2,D3,D4,u2,v2⟩:=HH (y:=c1) hk hk' va0 vw0 la0 lw0 lc1 n1
 obtain ⟨p3,q3,p3',q3',E1,E2,E3,E4,F1,F2,F3,F4,u3,v3⟩:=HH (y:=c0) hk hk' va1 vw1 la1 lw1 lc0 n0
 obtain ⟨p4,q4,p4',q4',G1,G2,G3,G4,H1,H2,H3,H4,u4,v4⟩:=HH (y:=c1) hk hk' va1 vw1 la1 lw1 lc1 n1
 obtain ⟨_,_,_,_,I1,I2,I3,I4,_,_,_,_,u5,v5⟩:=HH (y:=c0) hk hk' va0 vw1 la0 lw1 lc0 n0
 obtain ⟨_,_,_,_,J1,J2,J3,J4,_,_,_,_,u6,v6⟩:=HH (y:=c1) hk hk' va0 vw1 la0 lw1 lc1 n1
 obtain ⟨_,_,_,_,K1,K2,K3,K4,_,_,_,_,u7,v7⟩:=HH (y:=c0) hk hk' va1 vw0 la1 lw0 lc0 n0
 obtain ⟨_,_,_,_,L1,L2,L3,L4,_,_,_,_,u8,v8⟩:=HH (y:=c1) hk hk' va1 vw0 la1 lw0 lc1 n1
 obtain rfl:=Option.some.inj (I1.symm.trans E1)
 obtain rfl:=Option.some.inj (I2.symm.trans A2)
 obtain rfl:=Option.some.inj (I3.symm.trans E3)
 obtain rfl:=Option.some.inj (I4.symm.trans A4)
 obtain rfl:=Option.some.inj (J1.symm.trans G1)
 obtain rfl:=Option.some.inj (J2.symm.trans C2)
 obtain rfl:=Option.some.inj (J3.symm.trans G3)
 obtain rfl:=Option.some.inj (J4.symm.trans C4)
 obtain rfl:=Option.some.inj (K1.symm.trans A1)
 obtain rfl:=Option.some.inj (K2.symm.trans E2)
 obtain rfl:=Option.some.inj (K3.symm.trans A3)
 obtain rfl:=Option.some.inj (K4.symm.trans E4)
 obtain rfl:=Option.some.inj (L1.symm.trans C1)
 obtain rfl:=Option.some.inj (L2.symm.trans G2)
 obtain rfl:=Option.some.inj (L3.symm.trans C3)
 obtain rfl:=Option.some.inj (L4.symm.trans G4)
 obtain ⟨L,H,f1,f2,f3,f4,f5⟩:=KH A C ((k+m:Nat):Int) (ofD a0) (ofD a1) (ofD c0) (ofD c1) A2 A4 C2 C4 E2 E4 G2 G4 B2 D2 F2 H2 B4 D4 F4 H4
 obtain ⟨L',H',g1,g2,g3,g4,g5⟩:=KH W C (k:Int) (ofD w0) (ofD w1) (ofD c0) (ofD c1) A1 A3 C1 C3 E1 E3 G1 G3 B1 D1 F1 H1 B3 D3 F3 H3
 refine ⟨L,H,L',H',f1,g1,?_,?_,?_,?_,?_,?_⟩
 ·rcases f2 with h | h | h | h<;>rw [h]<;>assumption
 ·rcases f3 with h | h | h | h<;>rw [h]<;>assumption
 ·rcases g2 with h | h | h | h<;>rw [h]<;>assumption
 ·rcases g3 with h | h | h | h<;>rw [h]<;>assumption
 ·rcases f2 with h | h | h | h<;>rw [h]
  ·cases hs:c0.Man.Neg
   ·exact g4.1.trans (u1 (fun _=>h0) (fun h=>by rw [hs] at h;cases h))
   ·exact g4.2.2.1.trans (u5 (fun h=>by rw [hs] at h;cases h) (fun _=>k1))
  ·cases hs:c1.Man.Neg
   ·exact g4.2.1.trans (u2 (fun _=>h0) (fun h=>by rw [hs] at h;cases h))
   ·exact g4.2.2.2.trans (u6 (fun h=>by rw [hs] at h;cases h) (fun _=>k1))
  ·cases hs:c0.Man.Neg
   ·exact g4.1.trans (u7 (fun _=>k0) (fun h=>by rw [hs] at h;cases h))
   ·exact g4.2.2.1.trans (u3 (fun h=>by rw [hs] at h;cases h) (fun _=>h1))
  ·cases hs:c1.Man.Neg
   ·exact g4.2.1.trans (u8 (fun _=>k0) (fun h=>by rw [hs] at h;cases h))
   ·exact g4.2.2.2.trans (u4 (fun h=>by rw [hs] at h;cases h) (fun _=>h1))
 ·rcases f3 with h | h | h | h<;>rw [h]
  ·cases hs:c0.Man.Neg
   ·exact (v5 (fun _=>k1) (fun h=>by rw [hs] at h;cases h)).trans g5.2.2.1
   ·exact (v1 (fun h=>by rw [hs] at h;cases h) (fun _=>h0)).trans g5.1
  ·cases hs:c1.Man.Neg
   ·exact (v6 (fun _=>k1) (fun h=>by rw [hs] at h;cases h)).trans g5.2.2.2
   ·exact (v2 (fun h=>by rw [hs] at h;cases h) (fun _=>h0)).trans g5.2.1
  ·cases hs:c0.Man.Neg
   ·exact (v3 (fun _=>h1) (fun h=>by rw [hs] at h;cases h)).trans g5.2.2.1
   ·exact (v7 (fun h=>by rw [hs] at h;cases h) (fun _=>k0)).trans g5.1
  ·cases hs:c1.Man.Neg
   ·exact (v4 (fun _=>h1) (fun h=>by rw [hs] at h;cases h)).trans g5.2.2.2
   ·exact (v8 (fun h=>by rw [hs] at h;cases h) (fun _=>k0)).trans g5.2.1
end Go.Proofs.Pq
namespace Go.Proofs.Pq
set_option linter.unusedVariables false
set_option linter.unusedSimpArgs false
set_option maxRecDepth 4000
open Go.Proofs Go.Sb Go.Proofs.Sbn Go.Proofs.Lf
def rootN (X s:Nat):Nat:=2*s+(if X - s*s=0 then 0 else 1)
theorem JD {X Y s t:Nat} (h1:s*s≤X) (h2:X<(s+1)*(s+1)) (h1':t*t≤Y) (h2':Y<(t+1)*(t+1)) (h:X≤Y):rootN X s≤rootN Y t:=by
 unfold rootN
 have hst:s<t+1:=HW.2 (by omega)
 rcases Nat.lt_or_eq_of_le (Nat.le_of_lt_succ hst) with h3 | h3
 ·split<;>split<;>omega
 ·subst h3
  by_cases h4:Y - s*s=0
  ·rw [if_pos h4,if_pos (by omega)];omega
  ·rw [if_neg h4];split<;>omega
theorem Na (s:Bool) (n b T X:Nat) (e dir:Int) (hn:n≠0) (hns:bl n≤2000) (hb:1≤b) (hb':b≤2000) (he : -800≤e) (he':e≤800) (hT:T=4000) (i0:Nat) (hi0:(i0:Int)=e+2*T) (hX:X=n*2^i0) :
  ∃r u,BN ⟨⟨s,n⟩,e⟩ (b:Int) dir=some r∧u*u≤X∧X<(u+1)*(u+1)∧bl u≤20001∧IsR b dir false (rootN X u) (2^(T+1)) r:=by
 have hnS:Sm n:=by unfold Sm;omega
 obtain ⟨i,hi,hi1,hi2,hi3,hi4⟩:∃i:Nat,(if ¬(((wi64 (e - ((max 0 ((wi64 (((wi64 (((wi64 (2*(b:Int))))+4))) - (bl n:Int)))))))))%2)=0 then some ((wi64 (((max 0 ((wi64 (((wi64 (((wi64 (2*(b:Int))))+4))) - (bl n:Int))))))+1))) else some ((max 0 ((wi64 (((wi64 (((wi64 (2*(b:Int))))+4))) - (bl n:Int)))))))=some (i:Int)∧
   (e - i)%2=0∧2*b+4≤bl n+i∧i≤5000∧0≤i:=by
  rw [w64 (x:=2*(b:Int)) (by omega) (by omega),w64 (x:=2*(b:Int)+4) (by omega) (by omega),w64 (x:=2*(b:Int)+4 - (bl n:Int)) (by omega) (by omega)]
  obtain ⟨u,hu⟩:∃u:Nat,max 0 (2*(b:Int)+4 - (bl n:Int))=(u:Int):=⟨(max 0 (2*(b:Int)+4 - (bl n:Int))).toNat,by omega⟩
  rw [hu,w64 (x:=e - (u:Int)) (by omega) (by omega),w64 (x:=(u:Int)+1) (by omega) (by omega)]
  by_cases h:(e - (u:Int))%2=0
  ·exact ⟨u,by rw [if_neg (by simp [h])],h,by omega,by omega,by omega⟩
  ·exact ⟨u+1,by rw [if_pos h];rfl,by omega,by omega,by omega,by omega⟩
 have hbn:=(Cc hn).2.2
 have hbi:=Jl (k:=i) hn
 have hni:n*2^i≠0:=by have:=Nat.mul_pos (Nat.pos_of_ne_zero hn) (Nat.two_pow_pos i);omega
 obtain ⟨u,u1,u2⟩:=Ll (n*2^i)
 obtain ⟨v,v1,v2⟩:=Ll X
 have size:∀ {X s k:Nat},s*s≤X→X<(s+1)*(s+1)→2*k+1≤bl X→bl X≤40000→k+1≤bl s∧bl s≤20001:=by
  intro X s k h1 h2 h3 h4
  have hX0:X≠0:=by intro h;subst h;rw [Dg] at h3;omega
  obtain ⟨b1,b2,b3⟩:=Cc hX0
  constructor
  ·refine Nat.le_of_not_lt fun h=>?_
   have h5:s<2^k:=Dw.1 (by omega)
   have h6:(s+1)*(s+1)≤2^k*2^k:=Nat.mul_le_mul h5 h5
   rw [←Nat.pow_add] at h6
   have h7:2^(k+k)≤2^(bl X - 1):=Nat.pow_le_pow_right (by decide) (by omega)
   omega
  ·have:∀k,bl X≤k+k→bl s≤k:=fun k hk=>Dw.2 (HW.2 (Nat.lt_of_le_of_lt h1 (Nat.lt_of_lt_of_le b2 (by rw [←Nat.pow_add];exact Nat.pow_le_pow_right (by decide) hk))))
   exact this 20001 (by omega)
 have hu:=size u1 u2 (k:=b+1) (by omega) (by omega)
 have hst:∀ {X s:Nat},s*s≤X→Sm X→(decide (0<(Sbn.sz (X - s*s):Int)))=decide ((2*s+if X - s*s=0 then 0 else 1)%2≠0):=by
  intro X s h1 h2
  apply decide_eq_decide.2
  rw [Ko]
  split<;>omega
 obtain ⟨ei,hei⟩:∃ei,e - (i:Int)=2*ei:=⟨(e - (i:Int))/2,by omega⟩
 have hprog:BN ⟨⟨s,n⟩,e⟩ (b:Int) dir=some (RT (n*2^i) u b ei dir):=by
  unfold BN
  rw [sign,sB,if_neg (by rw [if_neg hn];split<;>decide),wBits hnS,sB]
  simp only
  rw [hi,sB,wShl hnS (by omega),sB,wRoot _ u (by omega) hni u1 u2,sB]
  simp only
  rw [w64 (x:=e - (i:Int)) (by omega) (by omega),hei,show (2*ei).tdiv 2=ei from Int.mul_tdiv_cancel_left _ (by decide),w64 (x:=ei) (by omega) (by omega)]
  rw [hst u1 (by unfold Sm;omega)]
  have hodd:(2*u+if n*2^i - u*u=0 then 0 else 1)/2=u:=by split<;>omega
  rw [Ju false u ei b dir (2*u+if n*2^i - u*u=0 then 0 else 1) 2 (by unfold Sm;omega) (by decide) hodd.symm hb (by omega) (by omega) (by omega),sB]
  unfold RT
  congr 2
  rw [show bl u+1 - b=(bl u - b)+1 by omega,Nat.pow_succ,Nat.mul_comm]
 obtain ⟨j,hj⟩:∃j,i0=i+2*j:=⟨(i0 - i)/2,by omega⟩
 have hXi:X=n*2^i*2^(2*j):=by rw [hX,hj,Nat.pow_add,Nat.mul_assoc]
 have hbX:bl X=bl n+i0:=by rw [hX];exact Jl hn
 have hv:=size v1 v2 (k:=b+1) (by omega) (by omega)
 have hs:=RT_shift (e:=ei) (dir:=dir) (b:=b) (j:=j) u1 u2 (hXi▸v1) (hXi▸v2) (by omega)
 rw [←hXi,show ei - (j:Int) = -(T:Int) by omega] at hs
 refine ⟨_,v,hprog,v1,v2,hv.2,?_⟩
 rw [←hs]
 have hv0:v≠0:=by intro h;subst h;rw [Dg] at hv;omega
 have hN:bl (rootN X v)=bl v+1:=by
  have:=JM (n:=v) (k:=1) (c:=if X - v*v=0 then 0 else 1) hv0 (by split<;>decide)
  rw [Nat.pow_one,Nat.mul_comm] at this;exact this
 have hN0:rootN X v≠0:=by unfold rootN;omega
 obtain ⟨g1,g2,_⟩:=Cc hN0
 have e1:rootN X v*2^T/(2^(T+1)*2^(bl v - b))=rootN X v/2^(bl v+1 - b):=by
  rw [←Nat.pow_add,show T+1+(bl v - b)=(bl v+1 - b)+T by omega,Nat.pow_add,Nat.mul_div_mul_right _ _ (Nat.two_pow_pos _)]
 refine Or.inr ⟨hN0,T,bl v - b,?_,?_,?_,by omega,by omega⟩
 ·show rn false (rootN X v) (2^(bl v+1 - b)) (-(T:Int)+((bl v - b:Nat):Int)) dir=_
  rw [show ((bl v - b:Nat):Int) - (T:Int) = -(T:Int)+((bl v - b:Nat):Int) by omega]
  refine Ka _ _ (Nat.two_pow_pos _) (Nat.mul_pos (Nat.two_pow_pos _) (Nat.two_pow_pos _)) ?_
  rw [←Nat.pow_add,Nat.mul_assoc,←Nat.pow_add]
  congr 2
  omega
 ·rw [e1,Nat.div_lt_iff_lt_mul (Nat.two_pow_pos _),←Nat.pow_add,show b+(bl v+1 - b)=bl v+1 by omega,←hN]
  exact g2
 ·rw [e1,Nat.le_div_iff_mul_le (Nat.two_pow_pos _),←Nat.pow_add,show b - 1+(bl v+1 - b)=bl (rootN X v) - 1 by omega]
  exact g1
theorem Lp {d:Af} (hd:VT d) (ld:Lt3 d) (h0:0≤sv d.Man.Neg d.Man.Abs) (b T:Nat) (hb:1≤b) (hb':b≤2000) (hT:T=4000) :
  ∃(X u:Nat) (r5 r4:Ah),VEq (ofD d) (X:Int) (-(2*T:Nat))∧u*u≤X∧X<(u+1)*(u+1)∧bl u≤20001∧BN (ofD d) (b:Int) 5=some r5∧BN (ofD d) (b:Int) 4=some r4∧
   IsR b 5 false (rootN X u) (2^(T+1)) r5∧IsR b 4 false (rootN X u) (2^(T+1)) r4:=by
 have hv:=hd.veq
 obtain ⟨l1,l2,l3⟩:=ld
 obtain ⟨⟨s,n⟩,e⟩:=d
 simp only at *
 obtain ⟨i0,hi0⟩:∃i0:Nat,(i0:Int)=e+2*T:=⟨(e+2*T).toNat,by omega⟩
 have hs:Z s n=n:=by
  cases s
  ·rfl
  ·unfold sv at h0
   by_cases hn:n=0
   ·subst hn;rfl
   ·rw [if_neg hn] at h0;exact absurd h0 (by decide)
 have hX:VEq (ofD ⟨⟨s,n⟩,e⟩) ((n*2^i0:Nat):Int) (-(2*T:Nat)):=by
  refine hv.base (p:=i0) (q:=0) (by omega) ?_
  rw [hs,Nat.pow_zero,Int.natCast_mul];simp
 by_cases hn:n=0
 ·subst hn
  rw [Nat.zero_mul] at hX
  refine ⟨0,0,⟨⟨false,0⟩,0⟩,⟨⟨false,0⟩,0⟩,hX,by decide,by decide,by decide,?_,?_,Or.inl ⟨rfl,rfl⟩,Or.inl ⟨rfl,rfl⟩⟩
  ·unfold BN ofD;rw [sign,sB];rfl
  ·unfold BN ofD;rw [sign,sB];rfl
 ·obtain ⟨r5,u,a1,a2,a3,a4,a5⟩:=Na s n b T _ e 5 hn (by omega) hb hb' l2 l3 hT i0 hi0 rfl
  obtain ⟨r4,u',b1,b2,b3,b4,b5⟩:=Na s n b T _ e 4 hn (by omega) hb hb' l2 l3 hT i0 hi0 rfl
  have h1:u<u' + 1:=HW.2 (Nat.lt_of_le_of_lt a2 b3)
  have h2:u' < u+1:=HW.2 (Nat.lt_of_le_of_lt b2 a3)
  obtain rfl:u=u':=by omega
  exact ⟨_,u,r5,r4,hX,a2,a3,a4,a1,b1,a5,b5⟩
theorem JG (a0 a1 w0 w1:Af) (k m:Nat) (hk:1≤k) (hk':k+m≤2000) (va0:VT a0) (va1:VT a1) (vw0:VT w0) (vw1:VT w1)
  (la0:Lt3 a0) (la1:Lt3 a1) (lw0:Lt3 w0) (lw1:Lt3 w1) (h0:LeV (ofD w0) (ofD a0)) (h1:LeV (ofD a1) (ofD w1)) (ha:LeV (ofD a0) (ofD a1)) (hs:0≤sv w0.Man.Neg w0.Man.Abs) :
  ∃r5 r4 s5 s4,BN (ofD a0) ((k+m:Nat):Int) 5=some r5∧BN (ofD a1) ((k+m:Nat):Int) 4=some r4∧BN (ofD w0) (k:Int) 5=some s5∧BN (ofD w1) (k:Int) 4=some s4∧
   Cb r5∧Cb r4∧Cb s5∧Cb s4∧LeV s5 r5∧LeV r4 s4∧0≤sv a0.Man.Neg a0.Man.Abs:=by
 have up:∀ {x y:Af},LeV (ofD x) (ofD y)→0≤sv x.Man.Neg x.Man.Abs→0≤sv y.Man.Neg y.Man.Abs:=fun {x y} h hx=>Int.not_lt.1 fun hy=>by have:=(signs h).2 hy;omega
 have s1:=up h0 hs
 have s2:=up ha s1
 have s3:=up h1 s2
 obtain ⟨T,hT⟩:∃T:Nat,T=4000:=⟨_,rfl⟩
 obtain ⟨X,u,r5,_,x1,x2,x3,x4,x5,_,x7,_⟩:=Lp va0 la0 s1 (k+m) T (by omega) (by omega) hT
 obtain ⟨Y,v,_,r4,y1,y2,y3,y4,_,y6,_,y8⟩:=Lp va1 la1 s2 (k+m) T (by omega) (by omega) hT
 obtain ⟨X',u',s5,_,z1,z2,z3,z4,z5,_,z7,_⟩:=Lp vw0 lw0 hs k T (by omega) (by omega) hT
 obtain ⟨Y',v',_,s4,t1,t2,t3,t4,_,t6,_,t8⟩:=Lp vw1 lw1 s3 k T (by omega) (by omega) hT
 have hd:2^(T+1)≠0:=by have:=Nat.two_pow_pos (T+1);omega
 have hdb:bl (2^(T+1))≤30000:=Nat.le_trans (Dw.2 (Nat.pow_lt_pow_right (by decide) (Nat.lt_succ_self (T+1)))) (by omega)
 have hp:(0:Int)≤(2^(T+1):Nat):=Int.natCast_nonneg _
 have nbc:∀ {X u c:Nat},bl u≤c→bl (rootN X u)≤c+1:=by
  intro X u c hu
  have h3:=Dw.1 hu
  refine Dw.2 ?_
  rw [Nat.pow_succ]
  generalize 2^c=P at *
  unfold rootN
  split<;>omega
 have nb:∀ {X u:Nat},bl u≤20001→bl (rootN X u)≤30000:=fun hu=>Nat.le_trans (nbc hu) (by decide)
 have le0:X'≤X:=by have:=(CC z1 x1).1 h0;omega
 have le1:Y≤Y':=by have:=(CC y1 t1).1 h1;omega
 refine ⟨r5,r4,s5,s4,x5,y6,z5,t6,HJ (by omega) x7,HJ (by omega) y8,HJ (by omega) z7,HJ (by omega) t8,?_,?_,s1⟩
 ·refine Mx hk (by omega) z7 x7 hd hd (nb z4) hdb (Int.mul_le_mul_of_nonneg_right ?_ hp)
  exact HR.1.2 (JD z2 z3 x2 x3 le0)
 ·refine Mi hk (by omega) t8 y8 hd hd (nb t4) hdb (Int.mul_le_mul_of_nonneg_right ?_ hp)
  exact HR.1.2 (JD y2 y3 t2 t3 le1)
end Go.Proofs.Pq
namespace Go.Proofs.Pq
set_option linter.unusedVariables false
set_option linter.unusedSimpArgs false
set_option maxRecDepth 4000
open Go.Proofs Go.Sb Go.Proofs.Sbn Go.Proofs.Lf
theorem Jt {lo hi:Af} (vl:VT lo) (vh:VT hi) (l:Lt3 lo) (h:Lt3 hi) (hle:LeV (ofD lo) (ofD hi)):AJ ⟨toL lo,toL hi⟩=some true:=by
 obtain ⟨c,hc,_,hc2⟩:=MB (ofD lo) (ofD hi) (l.lt vl).bm.1 (h.lt vh).bm.1 (l.lt vl).bm.2.1 (l.lt vl).bm.2.2 (h.lt vh).bm.2.1 (h.lt vh).bm.2.2
 have h0:=hc2.2 hle
 unfold AJ
 simp only
 rw [(validT vl).2,sB,if_pos rfl,(validT vh).2,sB,if_pos rfl,toNT,sB,inT,sB,toNT,sB,inT,sB,hc,sB,decide_eq_true (show c≤0 by omega)]
theorem Cb.of3 {d:Af} (vd:VT d) (ld:Lt3 d):Cb (ofD d):=
 ⟨(ld.lt vd).bm.1,(ld.lt vd).bm.2.1,(ld.lt vd).bm.2.2,_,_,_,canonV vd⟩
theorem hull_err (x y:An) (v0 v1:Bool) (p0:AJ x=some v0) (p1:AJ y=some v1) (h:(v0 && v1)=false):Fa x y=some (zS,1):=by
 unfold Fa BK CE Ba
 rw [p0,p1,fineP]
 cases v0
 ·rfl
 ·cases v1
  ·rfl
  ·cases h
theorem hull_ok (a0 a1 c0 c1:Af) (va0:VT a0) (va1:VT a1) (vc0:VT c0) (vc1:VT c1) (la0:Lt3 a0) (la1:Lt3 a1) (lc0:Lt3 c0) (lc1:Lt3 c1)
  (ha:LeV (ofD a0) (ofD a1)) (hc:LeV (ofD c0) (ofD c1)) :
  ∃w0 w1,Fa ⟨toL a0,toL a1⟩ ⟨toL c0,toL c1⟩=some (⟨w0,w1⟩,0)∧VT w0∧VT w1∧Lt3 w0∧Lt3 w1∧LeV (ofD w0) (ofD a0)∧LeV (ofD a1) (ofD w1):=by
 obtain ⟨k,hk,ik⟩:=HQ (Cb.of3 vc0 lc0) (Cb.of3 va0 la0)
 obtain ⟨m,hm,im⟩:=HQ (Cb.of3 vc1 lc1) (Cb.of3 va1 la1)
 have p0:=Jt va0 va1 la0 la1 ha
 have p1:=Jt vc0 vc1 lc0 lc1 hc
 have pl:=Im ik
 have ph:=Il im
 have e0:(if k<0 then ofD c0 else ofD a0)=ofD (if k<0 then c0 else a0):=by split<;>rfl
 have e1:(if 0<m then ofD c1 else ofD a1)=ofD (if 0<m then c1 else a1):=by split<;>rfl
 rw [e0] at pl
 rw [e1] at ph
 have v0:VT (if k<0 then c0 else a0):=by split<;>assumption
 have v1:VT (if 0<m then c1 else a1):=by split<;>assumption
 have l0:Lt3 (if k<0 then c0 else a0):=by split<;>assumption
 have l1:Lt3 (if 0<m then c1 else a1):=by split<;>assumption
 refine ⟨if k<0 then c0 else a0,if 0<m then c1 else a1,?_,v0,v1,l0,l1,pl.1,ph.1⟩
 have hH:ER ⟨ofD a0,ofD a1⟩ ⟨ofD c0,ofD c1⟩ 1=some (.ok ⟨if k<0 then c0 else a0,if 0<m then c1 else a1⟩):=by
  unfold ER
  simp only
  rw [hk,sB,pickn,sB,hm,sB,pickn,sB,e0,e1]
  show mb (Cu ⟨ofD (if k<0 then c0 else a0),ofD (if 0<m then c1 else a1)⟩) _=_
  rw [Gx (Cb.of3 v0 l0) (Cb.of3 v1 l1)];rfl
 unfold Fa BK CE Ba
 rw [p0,p1,fineP,if_pos (by decide)]
 unfold toL
 simp only [Gw]
 show ((mb (ER ⟨ofD a0,ofD a1⟩ ⟨ofD c0,ofD c1⟩ 1) _).bind _).bind _=_
 rw [hH];rfl
theorem HN {r5 r4 s5 s4:Ah} (h1:Cb r5) (h2:Cb r4) (h3:Cb s5) (h4:Cb s4) (hl:LeV s5 r5) (hh:LeV r4 s4):AH ⟨toD r5,toD r4⟩ 0 ⟨toD s5,toD s4⟩ 0=some true:=by
 obtain ⟨v,hv,_,_,kv⟩:=Kv (toD s5) (toD r5) (outOK h3).2 (outOK h1).2 h3.bm h1.bm
 obtain ⟨u,hu,_,_,ku⟩:=Kv (toD r4) (toD s4) (outOK h2).2 (outOK h4).2 h2.bm h4.bm
 have e1:=kv hl
 have e2:=ku hh
 subst e1 e2
 unfold AH
 simp only
 rw [hv,hu];rfl
theorem Ku {a b:Ao} {e f:Int} (h:e≠0):AH a e b f=some true:=by
 unfold AH
 rw [if_pos h];rfl
theorem within_f {a b:Ao} {e f:Int} (h:f≠0):AH a e b f=some true:=by
 unfold AH
 by_cases h2:e=0
 ·rw [if_neg (fun k=>k h2),sB,decide_eq_true h];rfl
 ·rw [if_pos h2];rfl
theorem Mg (x y:Ao) (b:Int) (p0:AJ ⟨toL x.Lo,toL x.Hi⟩=some true) (p1:AJ ⟨toL y.Lo,toL y.Hi⟩=some true) (h:1≤b∧b≤4096)
  (hs:¬0<wi64 (sv y.Lo.Man.Neg y.Lo.Man.Abs*sv y.Hi.Man.Neg y.Hi.Man.Abs)):Dv ⟨toL x.Lo,toL x.Hi⟩ ⟨toL y.Lo,toL y.Hi⟩ b=some (zS,8):=by
 rw [LA x y b _ _ rfl rfl p0 p1 h]
 unfold Ec
 rw [show AE (Aq.lo ⟨ofD y.Lo,ofD y.Hi⟩)=some (sv y.Lo.Man.Neg y.Lo.Man.Abs) from sign _ _ _,sB,show AE (Aq.hi ⟨ofD y.Lo,ofD y.Hi⟩)=some (sv y.Hi.Man.Neg y.Hi.Man.Abs) from sign _ _ _,sB,decide_eq_false hs]
 rfl
theorem LO (x y:Ao) (b:Int) (p0:AJ ⟨toL x.Lo,toL x.Hi⟩=some true) (p1:AJ ⟨toL y.Lo,toL y.Hi⟩=some true) (h:1≤b∧b≤4096)
  (hs:0<wi64 (sv y.Lo.Man.Neg y.Lo.Man.Abs*sv y.Hi.Man.Neg y.Hi.Man.Abs)) {L H:Ah} (cL:Cb L) (cH:Cb H)
  (hf:overF ⟨ofD x.Lo,ofD x.Hi⟩ ⟨ofD y.Lo,ofD y.Hi⟩ b (ofD x.Lo) (ofD x.Hi) (ofD y.Lo) (ofD y.Hi)=some ⟨L,H⟩):Dv ⟨toL x.Lo,toL x.Hi⟩ ⟨toL y.Lo,toL y.Hi⟩ b=some (⟨toD L,toD H⟩,0):=by
 rw [LA x y b _ _ rfl rfl p0 p1 h]
 unfold Ec
 rw [show AE (Aq.lo ⟨ofD y.Lo,ofD y.Hi⟩)=some (sv y.Lo.Man.Neg y.Lo.Man.Abs) from sign _ _ _,sB,show AE (Aq.hi ⟨ofD y.Lo,ofD y.Hi⟩)=some (sv y.Hi.Man.Neg y.Hi.Man.Abs) from sign _ _ _,sB,decide_eq_true hs]
 have e1:∀ {α β:Type} (a:α) (f:α→M β),mb (some (.ok a)) f=f a:=fun _ _=>rfl
 rw [show Bw true 8=some (.ok ()) from rfl,e1]
 obtain ⟨t1,u1,u2⟩:=Option.bind_eq_some_iff.1 hf
 obtain ⟨t2,u3,u4⟩:=Option.bind_eq_some_iff.1 u2
 obtain ⟨t3,u5,u6⟩:=Option.bind_eq_some_iff.1 u4
 simp only
 rw [u1,sB,u3,sB,u5,sB,u6,sB,Gx cL cH]
 rfl
theorem KP (x:Ao) (b:Int) (p0:AJ ⟨toL x.Lo,toL x.Hi⟩=some true) (h:1≤b∧b≤4096) (hs:sv x.Lo.Man.Neg x.Lo.Man.Abs<0):DP ⟨toL x.Lo,toL x.Hi⟩ b=some (zS,3):=by
 rw [Lg x b _ rfl p0 h]
 unfold Ed
 rw [show AE (Aq.lo ⟨ofD x.Lo,ofD x.Hi⟩)=some (sv x.Lo.Man.Neg x.Lo.Man.Abs) from sign _ _ _,sB,decide_eq_false (by omega)]
 rfl
theorem Ld (x:Ao) (b:Int) (p0:AJ ⟨toL x.Lo,toL x.Hi⟩=some true) (h:1≤b∧b≤4096) (hs:0≤sv x.Lo.Man.Neg x.Lo.Man.Abs) {L H:Ah} (cL:Cb L) (cH:Cb H)
  (h1:BN (ofD x.Lo) b 5=some L) (h2:BN (ofD x.Hi) b 4=some H):DP ⟨toL x.Lo,toL x.Hi⟩ b=some (⟨toD L,toD H⟩,0):=by
 rw [Lg x b _ rfl p0 h]
 unfold Ed
 rw [show AE (Aq.lo ⟨ofD x.Lo,ofD x.Hi⟩)=some (sv x.Lo.Man.Neg x.Lo.Man.Abs) from sign _ _ _,sB,decide_eq_true hs]
 have e1:∀ {α β:Type} (a:α) (f:α→M β),mb (some (.ok a)) f=f a:=fun _ _=>rfl
 rw [show Bw true 3=some (.ok ()) from rfl,e1]
 simp only
 rw [h1,sB,h2,sB,Gx cL cH]
 rfl
theorem lawNarrows (x0 x1 x2:An) (x3 x4:Int) (h0:Dig x0.Lo.Man.Abs) (h1:Dig x0.Hi.Man.Abs) (h2:Dig x1.Lo.Man.Abs) (h3:Dig x1.Hi.Man.Abs) (h4:Dig x2.Lo.Man.Abs) (h5:Dig x2.Hi.Man.Abs):Dn x0 x1 x2 x3 x4=some true:=by
 obtain ⟨w0,fe0,fk0⟩:=Nx x0 h0 h1
 obtain ⟨w1,fe1,fk1⟩:=Nx x1 h2 h3
 obtain ⟨w2,fe2,fk2⟩:=Nx x2 h4 h5
 unfold Dn
 rw [fe0,sB,sanity]
 cases w0
 ·rfl
 rw [if_neg (by simp),fe1,sB,sB]
 cases w1
 ·rfl
 rw [if_neg (by simp),fe2,sB,sB]
 cases w2
 ·rfl
 rw [if_neg (by simp),sB]
 by_cases c1:x3<1
 ·rw [decide_eq_true c1];rfl
 rw [decide_eq_false c1,if_neg (by simp),sB]
 by_cases c2:x4<0
 ·rw [decide_eq_true c2];rfl
 rw [decide_eq_false c2,if_neg (by simp),sB]
 by_cases c3:500<x3
 ·rw [decide_eq_true c3];rfl
 rw [decide_eq_false c3,if_neg (by simp),sB]
 by_cases c4:500<x4
 ·rw [decide_eq_true c4];rfl
 rw [decide_eq_false c4,if_neg (by simp)]
 obtain ⟨ka,kb⟩:=fk0 rfl
 obtain ⟨kc,kd⟩:=fk1 rfl
 obtain ⟨ke,kf⟩:=fk2 rfl
 obtain ⟨v0,pe0,pk0⟩:=Kc x0 h0 h1 ka kb
 obtain ⟨v1,pe1,pk1⟩:=Kc x1 h2 h3 kc kd
 obtain ⟨v2,pe2,pk2⟩:=Kc x2 h4 h5 ke kf
 by_cases hv:(v0 && v2)=false
 ·rw [hull_err x0 x2 v0 v2 pe0 pe2 hv,sB];rfl
 have hv':(v0 && v2)=true:=by simpa using hv
 rw [Bool.and_eq_true] at hv'
 obtain ⟨hv0,hv2⟩:=hv'
 subst hv0 hv2
 obtain ⟨a0,a1,hx0,va0,va1,la0,la1,ha⟩:=pk0 rfl
 obtain ⟨d0,d1,hx2,vd0,vd1,ld0,ld1,hd⟩:=pk2 rfl
 subst hx0 hx2
 obtain ⟨u0,u1,hh,vu0,vu1,lu0,lu1,hu0,hu1⟩:=hull_ok a0 a1 d0 d1 va0 va1 vd0 vd1 la0 la1 ld0 ld1 ha hd
 rw [hh,sB,pe1,sB]
 cases v1
 ·rfl
 obtain ⟨b0,b1,hx1,vb0,vb1,lb0,lb1,hb⟩:=pk1 rfl
 subst hx1
 obtain ⟨k,rfl⟩:∃k:Nat,x3=(k:Int):=⟨x3.toNat,by omega⟩
 obtain ⟨m,rfl⟩:∃m:Nat,x4=(m:Int):=⟨x4.toNat,by omega⟩
 have hwk:wi64 ((k:Int)+(m:Int))=((k+m:Nat):Int):=by rw [w64 (by omega) (by omega)];omega
 rw [if_neg (by simp),sB,if_neg (by simp),hwk]
 have pw:=Jt vu0 vu1 lu0 lu1 ((hu0.trans ha).trans hu1)
 have eL:(⟨⟨⟨u0.Man.Neg,limbs u0.Man.Abs⟩,u0.Exp⟩,⟨⟨u1.Man.Neg,limbs u1.Man.Abs⟩,u1.Exp⟩⟩:An)=⟨toL u0,toL u1⟩:=rfl
 simp only [eL]
 have hk:1≤k:=by omega
 have hk':k+m≤2000:=by omega
 have f1:1≤((k+m:Nat):Int)∧((k+m:Nat):Int)≤4096:=by omega
 have f2:1≤(k:Int)∧(k:Int)≤4096:=by omega
 obtain ⟨r5,r4,s5,s4,g1,g2,g3,g4,g5,g6,g7,g8⟩:=narrowPlus a0 a1 u0 u1 b0 b1 k m hk (by omega) va0 va1 vu0 vu1 vb0 vb1 la0 la1 lu0 lu1 lb0 lb1 hu0 hu1
 rw [Ks.2 ⟨a0,a1⟩ ⟨b0,b1⟩ _ _ _ rfl rfl pe0 pe1 f1 _ _ g1,sB,Ks.2 ⟨u0,u1⟩ ⟨b0,b1⟩ _ _ _ rfl rfl pw pe1 f2 _ _ g2,sB,HN g3 g4 g5 g6 g7 g8,sB,if_neg (by simp)]
 clear g1 g2 g3 g4 g5 g6 g7 g8
 obtain ⟨r5,r4,s5,s4,g1,g2,g3,g4,g5,g6,g7,g8⟩:=narrowTimes a0 a1 u0 u1 b0 b1 k m hk (by omega) va0 va1 vu0 vu1 vb0 vb1 la0 la1 lu0 lu1 lb0 lb1 hu0 hu1 ha
 rw [JL.2 ⟨a0,a1⟩ ⟨b0,b1⟩ _ _ _ rfl rfl pe0 pe1 f1 _ _ g1,sB,JL.2 ⟨u0,u1⟩ ⟨b0,b1⟩ _ _ _ rfl rfl pw pe1 f2 _ _ g2,sB,HN g3 g4 g5 g6 g7 g8,sB,if_neg (by simp)]
 clear g1 g2 g3 g4 g5 g6 g7 g8
 have over:∃r e s f,Dv ⟨toL a0,toL a1⟩ ⟨toL b0,toL b1⟩ ((k+m:Nat):Int)=some (r,e)∧Dv ⟨toL u0,toL u1⟩ ⟨toL b0,toL b1⟩ (k:Int)=some (s,f)∧AH r e s f=some true:=by
  by_cases hs:0<wi64 (sv b0.Man.Neg b0.Man.Abs*sv b1.Man.Neg b1.Man.Abs)
  ·have n0:b0.Man.Abs≠0:=by intro h;rw [show sv b0.Man.Neg b0.Man.Abs=0 by unfold sv;rw [if_pos h],Int.zero_mul] at hs;exact absurd hs (by decide)
   have n1:b1.Man.Abs≠0:=by intro h;rw [show sv b1.Man.Neg b1.Man.Abs=0 by unfold sv;rw [if_pos h],Int.mul_zero] at hs;exact absurd hs (by decide)
   obtain ⟨r5,r4,s5,s4,g1,g2,g3,g4,g5,g6,g7,g8⟩:=narrowOver ⟨ofD a0,ofD a1⟩ ⟨ofD u0,ofD u1⟩ ⟨ofD b0,ofD b1⟩ a0 a1 u0 u1 b0 b1 k m hk (by omega) va0 va1 vu0 vu1 la0 la1 lu0 lu1 lb0 lb1 n0 n1 hu0 hu1 ha
   exact ⟨_,_,_,_,LO ⟨a0,a1⟩ ⟨b0,b1⟩ _ pe0 pe1 f1 hs g3 g4 g1,LO ⟨u0,u1⟩ ⟨b0,b1⟩ _ pw pe1 f2 hs g5 g6 g2,HN g3 g4 g5 g6 g7 g8⟩
  ·exact ⟨_,_,_,_,Mg ⟨a0,a1⟩ ⟨b0,b1⟩ _ pe0 pe1 f1 hs,Mg ⟨u0,u1⟩ ⟨b0,b1⟩ _ pw pe1 f2 hs,Ku (by decide)⟩
 obtain ⟨r,e,s,f,o1,o2,o3⟩:=over
 rw [o1,sB,o2,sB,o3,sB,if_neg (by simp)]
 clear o1 o2 o3 r e s f
 have root:∃r e s f,DP ⟨toL a0,toL a1⟩ ((k+m:Nat):Int)=some (r,e)∧DP ⟨toL u0,toL u1⟩ (k:Int)=some (s,f)∧AH r e s f=some true:=by
  by_cases hs:0≤sv u0.Man.Neg u0.Man.Abs
  ·obtain ⟨r5,r4,s5,s4,g1,g2,g3,g4,g5,g6,g7,g8,g9,g10,g11⟩:=JG a0 a1 u0 u1 k m hk hk' va0 va1 vu0 vu1 la0 la1 lu0 lu1 hu0 hu1 ha hs
   exact ⟨_,_,_,_,Ld ⟨a0,a1⟩ _ pe0 f1 g11 g5 g6 g1 g2,Ld ⟨u0,u1⟩ _ pw f2 hs g7 g8 g3 g4,HN g5 g6 g7 g8 g9 g10⟩
  ·by_cases hs':0≤sv a0.Man.Neg a0.Man.Abs
   ·obtain ⟨r5,r4,s5,s4,g1,g2,g3,g4,g5,g6,g7,g8,g9,g10,g11⟩:=JG a0 a1 a0 a1 k m hk hk' va0 va1 va0 va1 la0 la1 la0 la1 (Gf _) (Gf _) ha hs'
    exact ⟨_,_,_,_,Ld ⟨a0,a1⟩ _ pe0 f1 hs' g5 g6 g1 g2,KP ⟨u0,u1⟩ _ pw f2 (Int.not_le.1 hs),within_f (by decide)⟩
   ·exact ⟨_,_,_,_,KP ⟨a0,a1⟩ _ pe0 f1 (Int.not_le.1 hs'),KP ⟨u0,u1⟩ _ pw f2 (Int.not_le.1 hs),Ku (by decide)⟩
 obtain ⟨r,e,s,f,o1,o2,o3⟩:=root
 rw [o1,sB,o2,sB,sB,if_pos rfl,o3]
 rfl
end Go.Proofs.Pq
