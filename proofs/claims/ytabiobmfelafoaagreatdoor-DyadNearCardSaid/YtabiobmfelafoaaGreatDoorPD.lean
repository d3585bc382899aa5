import Derived.Test.YtabiobmfelafoaaGreatDoorPC
namespace Go.Proofs.Pq
set_option linter.unusedVariables false
set_option linter.unusedSimpArgs false
set_option maxRecDepth 4000
open Go.Proofs Go.Sb Go.Proofs.Sbn Go.Proofs.Lf
def VEq (r:Ao) (N:Int) (E:Int):Prop:=(∃s M F,r=nz s M F)∧∀i j:Nat,r.e - E=(i:Int) - j→Z r.m.Neg r.m.Abs*(2^i:Nat)=N*(2^j:Nat)
theorem p2 (k:Nat):(0:Int)<(2^k:Nat):=by have:=Nat.two_pow_pos k;omega
theorem p2add (a b:Nat):((2^(a+b):Nat):Int)=(2^a:Nat)*(2^b:Nat):=by rw [Nat.pow_add,Int.natCast_mul]
theorem Z0 (s:Bool):Z s 0=0:=by cases s<;>rfl
theorem Jr (s:Bool) (M:Nat) (F:Int):VEq (nz s M F) (Z s M) F:=by
 refine ⟨⟨s,M,F,rfl⟩,fun i j hij=>?_⟩
 unfold nz at hij ⊢
 by_cases h0:M=0
 ·subst h0
  rw [if_pos rfl] at hij ⊢
  rw [Z0,Z0,Int.zero_mul,Int.zero_mul]
 ·rw [if_neg h0] at hij ⊢
  simp only at hij ⊢
  obtain ⟨q,hq⟩:=IC M
  have hqd:M/2^tz M=q:=by generalize tz M=z at *;rw [hq,Nat.mul_div_cancel _ (Nat.two_pow_pos z)]
  rw [hqd]
  generalize tz M=z at *
  rw [hq,FT,show i=z+j by omega,p2add,Int.mul_assoc]
theorem GP (a b:Int):∃i j:Nat,a - b=(i:Int) - j:=⟨(a - b).toNat,(-(a - b)).toNat,by omega⟩
theorem VEq.base {r:Ao} {N N' E E':Int} {p q:Nat} (h:VEq r N E) (hpq:E - E'=(p:Int) - q) (hN:N*(2^p:Nat)=N' * (2^q:Nat)):VEq r N' E':=by
 refine ⟨h.1,fun i j hij=>?_⟩
 obtain ⟨a,b,hab⟩:=GP r.e E
 have h1:=h.2 a b hab
 have h2:=p2 b
 have h3:=p2 p
 have h4:=p2 q
 have e1:Z r.m.Neg r.m.Abs*(2^(a+p):Nat)=N' * (2^(b+q):Nat):=by
  rw [p2add,p2add,←Int.mul_assoc,h1,Int.mul_assoc,Int.mul_comm ((2^b:Nat):Int) ((2^p:Nat):Int),←Int.mul_assoc,hN,Int.mul_assoc,Int.mul_comm ((2^q:Nat):Int)]
 have k1:=(Ic (X:=Z r.m.Neg r.m.Abs) (Y:=N') (a:=a+p) (c:=b+q) (i:=i) (j:=j) (by omega)).1 (Int.le_of_eq e1)
 have k2:=(Ic (X:=N') (Y:=Z r.m.Neg r.m.Abs) (a:=b+q) (c:=a+p) (i:=j) (j:=i) (by omega)).1 (Int.le_of_eq e1.symm)
 exact Int.le_antisymm k1 k2
theorem VEq.cross {r r':Ao} {N N' E:Int} (h:VEq r N E) (h':VEq r' N' E) {i j:Nat} (hij:r.e - r'.e=(i:Int) - j) :
  (Z r.m.Neg r.m.Abs*(2^i:Nat)≤Z r'.m.Neg r'.m.Abs*(2^j:Nat)↔N≤N'):=by
 obtain ⟨a,b,hab⟩:=GP r.e E
 obtain ⟨c,d,hcd⟩:=GP r'.e E
 have h1:=h.2 a b hab
 have h2:=h'.2 c d hcd
 rw [Ic (a:=i) (c:=j) (i:=a+d) (j:=c+b) (by omega),p2add,p2add,←Int.mul_assoc,h1,←Int.mul_assoc,h2,Int.mul_assoc,Int.mul_assoc,Int.mul_comm ((2^d:Nat):Int)]
 have hp:(0:Int)<(2^b:Nat)*(2^d:Nat):=Int.mul_pos (p2 b) (p2 d)
 constructor
 ·intro h;exact Int.le_of_mul_le_mul_right h hp
 ·intro h;exact Int.mul_le_mul_of_nonneg_right h (Int.le_of_lt hp)
theorem VEq.uniq {r r':Ao} {N E:Int} (h:VEq r N E) (h':VEq r' N E):r=r':=by
 obtain ⟨s,M,F,hr⟩:=h.1
 obtain ⟨t,M',F',hr'⟩:=h'.1
 subst hr hr'
 exact nz_eq (fun i j hij=>(h.cross h' hij).2 (Int.le_refl _)) (fun i j hij=>(h'.cross h hij).2 (Int.le_refl _))
def Bd (r:Ao):Prop:=bl r.m.Abs≤9000∧-9000≤r.e∧r.e≤9000
theorem VEq.plus {x y:Ao} {N N' E:Int} (hx:VEq x N E) (hy:VEq y N' E) (bx:Bd x) (by':Bd y):∃r,BD x y=some r∧VEq r (N+N') E∧bl r.m.Abs≤30000∧-9000≤r.e∧r.e≤60000:=by
 have bnz:∀(σ:Bool) (M:Nat) (F:Int),bl M≤30000→-9000≤F→F≤9000→bl (nz σ M F).m.Abs≤30000∧-9000≤(nz σ M F).e∧(nz σ M F).e≤60000:=by
  intro σ M F h1 h2 h3
  unfold nz
  by_cases h0:M=0
  ·rw [if_pos h0];simp only;rw [EP];omega
  ·rw [if_neg h0];simp only
   have:=Kt M (2^tz M)
   obtain ⟨_,_,hq⟩:=EQ h0
   omega
 obtain ⟨⟨s,n⟩,e⟩:=x
 obtain ⟨⟨t,m⟩,f⟩:=y
 obtain ⟨b1,b2,b3⟩:=bx
 obtain ⟨c1,c2,c3⟩:=by'
 simp only at b1 b2 b3 c1 c2 c3
 have zero:∀ {r:Ao} {N:Int},VEq r N E→r.m.Abs=0→N=0:=by
  intro r N h h0
  obtain ⟨a,b,hab⟩:=GP r.e E
  have h1:=h.2 a b hab
  rw [h0,Z0,Int.zero_mul] at h1
  rcases Int.mul_eq_zero.1 h1.symm with h2 | h2
  ·exact h2
  ·have:=p2 b;omega
 by_cases hn:n=0
 ·have:=zero hx hn
  subst hn this
  have hc:nz t m f=⟨⟨t,m⟩,f⟩:=(Jr t m f).uniq (by
   refine ⟨hy.1,fun i j hij=>?_⟩
   simp only at hij ⊢
   rw [show i=j by omega])
  refine ⟨_,plus0l s t m e f (by omega) (by omega) (by omega) (by omega) (by omega),?_,bnz _ _ _ (by omega) (by omega) (by omega)⟩
  rw [hc,Int.zero_add];exact hy
 ·by_cases hm:m=0
  ·have:=zero hy hm
   subst hm this
   have hc:nz s n e=⟨⟨s,n⟩,e⟩:=(Jr s n e).uniq (by
    refine ⟨hx.1,fun i j hij=>?_⟩
    simp only at hij ⊢
    rw [show i=j by omega])
   refine ⟨_,plus0r s t n e f hn (by omega) (by omega) (by omega),?_,bnz _ _ _ (by omega) (by omega) (by omega)⟩
   rw [hc,Int.add_zero];exact hx
  ·obtain ⟨a,ha⟩:∃a:Nat,(e - min e f).toNat=a:=⟨_,rfl⟩
   obtain ⟨c,hc⟩:∃c:Nat,(f - min e f).toNat=c:=⟨_,rfl⟩
   have hp:=plusP s t n m e f hn hm (by omega) (by omega) (by omega) (by omega) (by omega) (by omega) (by omega) (by omega) _ _ rfl rfl
   rw [ha,hc] at hp
   refine ⟨_,hp,?_,bnz _ _ _ ?_ (by omega) (by omega)⟩
   ·obtain ⟨p,q,hpq⟩:=GP (min e f) E
    refine (Jr _ _ _).base hpq ?_
    rw [addZ_Z,FT,FT,Int.add_mul,Int.add_mul,Int.mul_assoc,Int.mul_assoc,←p2add,←p2add]
    have h1:=hx.2 (a+p) q (by simp only;omega)
    have h2:=hy.2 (c+p) q (by simp only;omega)
    simp only at h1 h2
    rw [h1,h2]
   ·have e1:bl (n*2^a)≤29000:=by have:=HU n a;omega
    have e2:bl (m*2^c)≤29000:=by have:=HU m c;omega
    have l0:=KM e1 e2
    have hsum:∀X:Nat,X≤n*2^a+m*2^c→bl X≤30000:=fun X hX=>by have:=KT hX;omega
    apply hsum
    unfold addZ
    generalize n*2^a=A
    generalize m*2^c=C
    split
    ·exact Nat.le_refl _
    ·split<;>simp only<;>omega
theorem VEq.cmp {x y:Ao} {N N' E:Int} (hx:VEq x N E) (hy:VEq y N' E) (bx:bl x.m.Abs≤20000∧-1000000≤x.e∧x.e≤1000000) (by':bl y.m.Abs≤20000∧-1000000≤y.e∧y.e≤1000000) :
  ∃c,Bu x y=some c∧(c<0↔N<N')∧(0<c↔N' < N):=by
 obtain ⟨c,hc,h⟩:=Pq.cmp x.m.Neg y.m.Neg x.m.Abs y.m.Abs x.e y.e bx.1 by'.1 bx.2.1 bx.2.2 by'.2.1 by'.2.2
 obtain ⟨i,j,hij⟩:=GP x.e y.e
 have h1:=h i j hij
 have h2:=hx.cross hy hij
 have h3:=hy.cross hx (i:=j) (j:=i) (by omega)
 refine ⟨c,hc,?_,?_⟩
 ·rw [h1.1,←Int.not_le,h3,Int.not_le]
 ·rw [h1.2,←Int.not_le,h2,Int.not_le]
theorem VT.veq {d:Ae} (h:VT d):VEq (ofD d) (Z d.Man.Neg d.Man.Abs) d.Exp:=by
 rw [canonV h];exact Jr _ _ _
theorem VT.of {r:Ao} (h:Cb r):VT (toD r):=(outOK h).2
end Go.Proofs.Pq
namespace Go.Proofs.Pq
set_option linter.unusedVariables false
set_option linter.unusedSimpArgs false
set_option maxRecDepth 4000
open Go.Proofs Go.Sb Go.Proofs.Sbn Go.Proofs.Lf
def inc (N D:Nat) (s:Bool) (dir:Int):Nat:=if up (decide (N%D=0)) (sgnc (2*(N%D)) D) (decide (N/D%2=1)) s dir=true then 1 else 0
theorem LD (N D:Nat) (s:Bool) (dir:Int):inc N D s dir≤1:=by unfold inc;split<;>decide
theorem inc_0 {N D:Nat} {s:Bool} {dir:Int} (h:N%D=0):inc N D s dir=0:=by
 unfold inc;rw [decide_eq_true h];rfl
theorem Ij (s:Bool) (N D:Nat) (e dir:Int):rn s N D e dir=nz s (N/D+inc N D s dir) e:=rfl
theorem up_mono {z z':Bool} {h h':Int} {o s:Bool} {dir:Int} (hz:z'=true→z=true) (hh:h≤h') (hu:up z h o s dir=true):up z' h' o s dir=true:=by
 have hz0:z=false:=by
  cases z
  ·rfl
  ·unfold up at hu;cases hu
 have hz1:z'=false:=by
  cases z'
  ·rfl
  ·rw [hz rfl] at hz0;cases hz0
 subst hz0 hz1
 unfold up at hu ⊢
 simp only [Bool.false_eq_true,if_false] at hu ⊢
 by_cases d1:dir=1
 ·rw [if_pos d1] at hu ⊢
  simp only [Bool.or_eq_true,Bool.and_eq_true,decide_eq_true_eq] at hu ⊢
  rcases hu with h1 | ⟨h1,h2⟩
  ·left;omega
  ·rcases Int.lt_or_eq_of_le (show (0:Int)≤h' by omega) with h3 | h3
   ·left;exact h3
   ·right;exact ⟨h3.symm,h2⟩
 ·rw [if_neg d1] at hu ⊢
  by_cases d2:dir=2
  ·rw [if_pos d2] at hu ⊢
   simp only [decide_eq_true_eq] at hu ⊢;omega
  ·rw [if_neg d2] at hu ⊢;exact hu
theorem LO (a b:Nat) : -1≤sgnc a b∧sgnc a b≤1∧(sgnc a b<0↔a<b)∧(0<sgnc a b↔b<a):=by unfold sgnc;split<;>(try split)<;>omega
theorem sgnc_le {a b c d:Nat} (h:a*d≤c*b) (hb:0<b) (hd:0<d):sgnc a b≤sgnc c d:=by
 have x1:=LO a b
 have x2:=LO c d
 have y1:b≤a→d≤c:=fun h1=>by
  have h3:b*d≤a*d:=Nat.mul_le_mul_right _ h1
  have h4:d*b≤c*b:=by rw [Nat.mul_comm d b];omega
  exact Nat.le_of_mul_le_mul_right h4 hb
 have y2:b<a→d<c:=fun h5=>by
  refine Nat.lt_of_not_le fun h7=>?_
  have h8:c=d:=Nat.le_antisymm h7 (y1 (Nat.le_of_lt h5))
  subst h8
  have h9:b*c<a*c:=Nat.mul_lt_mul_of_pos_right h5 hd
  rw [Nat.mul_comm b c] at h9;omega
 omega
theorem KJ {N D N' D' b k k' i j:Nat} {e e' dir:Int} {s:Bool} (hD:0<D) (hD':0<D') (hb:0<b)
  (h1:N/D<2^b) (h2:2^(b - 1)≤N/D) (h1':N' / D' < 2^b) (h2':2^(b - 1)≤N' / D')
  (he:e - k=e' - k') (h:N*D' * 2^k≤N' * D*2^k') (hij:e - e'=(i:Int) - j) :
  (N/D+inc N D s dir)*2^i≤(N' / D' + inc N' D' s dir)*2^j:=by
 have hm:=Nat.div_add_mod N D
 have hm':=Nat.div_add_mod N' D'
 have hr:=Nat.mod_lt N hD
 have hr':=Nat.mod_lt N' hD'
 have hi:=LD N D s dir
 have hmono:=mag_mono hD hD' hb h1 h2 h1' h2' he h hij
 rcases Int.lt_trichotomy e e' with hl | hl | hl
 ·refine Nat.le_trans (Nat.mul_le_mul_right _ (Nat.add_le_add_left hi _)) (Nat.le_trans ?_ (Nat.mul_le_mul_right _ (Nat.le_add_right _ _)))
  obtain ⟨q,hq⟩:∃q,j=i+1+q:=⟨j - i - 1,by omega⟩
  calc (N/D+1)*2^i≤2^b*2^i:=Nat.mul_le_mul_right _ h1
   _=2^(b - 1)*2^(i+1):=by rw [←Nat.pow_add,←Nat.pow_add];congr 1;omega
   _≤2^(b - 1)*2^j:=Nat.mul_le_mul_left _ (Nat.pow_le_pow_right (by decide) (by omega))
   _≤N' / D' * 2^j:=Nat.mul_le_mul_right _ h2'
 ·have hk:k=k':=by omega
  have hij2:i=j:=by omega
  subst hk hij2
  have h3:N*D'≤N' * D:=Nat.le_of_mul_le_mul_right h (Nat.two_pow_pos k)
  have h4:N/D≤N' / D':=Nat.le_of_mul_le_mul_right hmono.1 (Nat.two_pow_pos i)
  refine Nat.mul_le_mul_right _ ?_
  rcases Nat.lt_or_eq_of_le h4 with h5 | h5
  ·exact Nat.le_trans (Nat.add_le_add_left hi _) (Nat.le_trans h5 (Nat.le_add_right _ _))
  ·rw [←h5]
   refine Nat.add_le_add_left ?_ _
   have h6:N%D*D'≤N' % D' * D:=by
    have e1:N*D'=D*(N/D)*D' + N%D*D':=by rw [←Nat.add_mul,hm]
    have e2:N' * D=D' * (N' / D')*D+N' % D' * D:=by rw [←Nat.add_mul,hm']
    have e3:D*(N/D)*D'=D' * (N' / D')*D:=by rw [←h5];simp only [Nat.mul_assoc,Nat.mul_comm,Nat.mul_left_comm]
    omega
   unfold inc
   by_cases hu:up (decide (N%D=0)) (sgnc (2*(N%D)) D) (decide (N/D%2=1)) s dir=true
   ·have hu2:=up_mono (z':=decide (N' % D'=0)) (h':=sgnc (2*(N' % D')) D') (fun hz=>by
     have hz:=of_decide_eq_true hz
     rw [hz,Nat.zero_mul] at h6
     rcases Nat.mul_eq_zero.1 (Nat.le_zero.1 h6) with h7 | h7
     ·exact decide_eq_true h7
     ·omega) (sgnc_le (by rw [Nat.mul_assoc,Nat.mul_assoc];exact Nat.mul_le_mul_left _ h6) hD hD') hu
    rw [if_pos hu,←h5,if_pos hu2];exact Nat.le_refl _
   ·rw [if_neg hu];exact Nat.zero_le _
 ·have h9:=hmono.1
  exfalso
  obtain ⟨q,hq⟩:∃q,k=k' + (q+1):=⟨k - k' - 1,by omega⟩
  rw [hq,Nat.pow_add,Nat.mul_comm (2^k') (2^(q+1)),←Nat.mul_assoc] at h
  have h3:=Nat.le_of_mul_le_mul_right h (Nat.two_pow_pos k')
  have a1:N' < 2^b*D':=by rwa [Nat.div_lt_iff_lt_mul hD'] at h1'
  have a2:2^(b - 1)*D≤N:=by rwa [Nat.le_div_iff_mul_le hD] at h2
  have a4:N' * D<2^b*D' * D:=Nat.mul_lt_mul_of_pos_right a1 hD
  have a5:2^(b - 1)*D*D' * 2≤N*D' * 2^(q+1):=by
   apply Nat.mul_le_mul (Nat.mul_le_mul_right _ a2)
   rw [Nat.pow_succ];have:=Nat.two_pow_pos q;omega
  have a3:2^b=2^(b - 1)*2:=by rw [←Nat.pow_succ];congr 1;omega
  rw [a3] at a4
  generalize 2^(b - 1)=P at *
  have:P*2*D' * D=P*D*D' * 2:=by simp only [Nat.mul_assoc,Nat.mul_comm,Nat.mul_left_comm]
  omega
def RO (d:Ae) (k:Nat) (dir:Int):Ao:=
 if d.Man.Abs=0 then ⟨⟨false,0⟩,0⟩ else rn d.Man.Neg (d.Man.Abs*2^(k - bl d.Man.Abs)) (2^(bl d.Man.Abs - k)) (d.Exp+((bl d.Man.Abs - k:Nat):Int) - ((k - bl d.Man.Abs:Nat):Int)) dir
theorem Iy {d:Ae} {k:Nat} {dir:Int} (hd:VT d) (h:bl d.Man.Abs≤k):RO d k dir=ofD d:=by
 unfold RO
 by_cases h0:d.Man.Abs=0
 ·obtain ⟨h1,h2⟩:=hd.z h0
  obtain ⟨⟨s,n⟩,e⟩:=d
  simp only at h0 h1 h2
  subst h0 h1 h2;rfl
 ·rw [if_neg h0,Ij,show bl d.Man.Abs - k=0 by omega,Nat.pow_zero,Nat.div_one,inc_0 (Nat.mod_one _),Nat.add_zero,canonV hd]
  exact LT _ _ _ _ _ (by omega)
theorem HY {n k:Nat} (h0:n≠0) (hk:1≤k):n*2^(k - bl n)/2^(bl n - k)<2^k∧2^(k - 1)≤n*2^(k - bl n)/2^(bl n - k):=by
 obtain ⟨a1,a2,a3⟩:=FX h0
 constructor
 ·rw [Nat.div_lt_iff_lt_mul (Nat.two_pow_pos _),←Nat.pow_add]
  calc n*2^(k - bl n)<2^bl n*2^(k - bl n):=Nat.mul_lt_mul_of_pos_right a2 (Nat.two_pow_pos _)
   _=2^(k+(bl n - k)):=by rw [←Nat.pow_add];congr 1;omega
 ·rw [Nat.le_div_iff_mul_le (Nat.two_pow_pos _),←Nat.pow_add]
  calc 2^(k - 1+(bl n - k))=2^(bl n - 1)*2^(k - bl n):=by rw [←Nat.pow_add];congr 1;omega
   _≤n*2^(k - bl n):=Nat.mul_le_mul_right _ a1
theorem Kc (d:Ae) (k:Nat) (dir:Int) (hd:VT d) (ld:Lt d) (hk:1≤k) (hk':k≤4096) (hdir:1≤dir∧dir≤5):EI (toL d) (k:Int) dir=some (toD (RO d k dir),0)∧Cb (RO d k dir):=by
 have key:AZ (ofD d) (k:Int) dir false=some (RO d k dir)∧Cb (RO d k dir):=by
  obtain ⟨r,r1,r2,r3⟩:=roundEq d.Man.Neg d.Man.Abs k d.Exp dir (by have:=ld.2;omega) hk hk' (by have:=ld.1.l;omega) (by have:=ld.1.u;omega)
  rw [←canonV hd] at r1
  have hr:r=RO d k dir:=by
   by_cases h:bl d.Man.Abs≤k
   ·rw [Iy hd h]
    have h1:AZ (ofD d) (k:Int) dir false=some (ofD d):=by
     unfold AZ ofD
     rw [wBits (show Sm d.Man.Abs from hd.sm),sB,w64 (x:=(bl d.Man.Abs:Int) - (k:Int)) (by have:=ld.2;omega) (by have:=ld.2;omega),if_pos (by omega),sB,if_pos (by decide),normal _ _ _ hd.sm (by have:=ld.1.l;simp only;omega) (by have:=ld.1.u;simp only;omega)]
     have:=canonV hd
     unfold ofD at this
     show some (nz d.Man.Neg d.Man.Abs d.Exp)=_
     rw [this]
    exact Option.some.inj (r1.symm.trans h1)
   ·have h0:d.Man.Abs≠0:=by intro h0;rw [h0,EP] at h;omega
    have h1:=MV d.Man.Neg d.Man.Abs k d.Exp dir (by have:=ld.2;omega) hk (by omega) (by have:=ld.1.l;omega) (by have:=ld.1.u;omega)
    have h2:r=_:=Option.some.inj (r1.symm.trans h1)
    rw [h2]
    unfold RO
    rw [if_neg h0,show k - bl d.Man.Abs=0 by omega,Nat.pow_zero,Nat.mul_one]
    congr 1
    omega
  rw [hr] at r1 r3
  exact ⟨r1,r3⟩
 refine ⟨?_,key.2⟩
 have hf:=fineP (k:Int)
 rw [if_pos (show 1≤(k:Int)∧(k:Int)≤4096 by omega)] at hf
 have hdr:Fu dir=some (.ok ()):=by
  unfold Fu
  rw [if_pos hdir.1,sB,decide_eq_true hdir.2];rfl
 unfold EI HO
 rw [LM hd,mbo,hf,mbo,hdr,mbo,toNT,sB,inT,sB,key.1,sB,(outOK key.2).1,mbo]
 rfl
end Go.Proofs.Pq
namespace Go.Proofs.Pq
set_option linter.unusedVariables false
set_option linter.unusedSimpArgs false
set_option maxRecDepth 4000
open Go.Proofs Go.Sb Go.Proofs.Sbn Go.Proofs.Lf
def Bm (r:Ao):Prop:=bl r.m.Abs≤20000∧-1000000≤r.e∧r.e≤1000000
theorem Cb.bm {r:Ao} (h:Cb r):Bm r:=⟨h.1,h.2.1,h.2.2.1⟩
theorem Lt.bm {d:Ae} (h:Lt d):Bm (ofD d):=⟨by have:=h.2;show bl d.Man.Abs≤_;omega,by have:=h.1.l;show _≤d.Exp;omega,by have:=h.1.u;show d.Exp≤_;omega⟩
theorem MW (x y:Ae) (hx:VT x) (hy:VT y) {c:Int} (h:Bu (ofD x) (ofD y)=some c):FV (toL x) (toL y)=some (c,0):=by
 unfold FV Iw
 rw [Lj hx hy,mbo,toNT,sB,inT,sB,toNT,sB,inT,sB,h,sB];rfl
theorem Jm (x y:Ae) (hx:VT x) (hy:VT y) (bx:Bm (ofD x)) (by':Bm (ofD y)):∃v,Bj x y=some v∧(v=true→LeV (ofD x) (ofD y))∧(v=false→LeV (ofD y) (ofD x))∧(LeV (ofD x) (ofD y)→v=true):=by
 obtain ⟨c,hc,c1,c2⟩:=cmpV (ofD x) (ofD y) bx.1 by'.1 bx.2.1 bx.2.2 by'.2.1 by'.2.2
 refine ⟨decide (c≤0),?_,fun h=>c2.1 (by have:=of_decide_eq_true h;omega),fun h=>c1.1 (by have:=of_decide_eq_false h;omega),fun h=>decide_eq_true (by have:=c2.2 h;omega)⟩
 unfold Bj
 rw [show FV ⟨⟨x.Man.Neg,limbs x.Man.Abs⟩,x.Exp⟩ ⟨⟨y.Man.Neg,limbs y.Man.Abs⟩,y.Exp⟩=_ from MW x y hx hy hc]
 rfl
theorem RO_mono (x y:Ae) (hx:VT x) (hy:VT y) (k:Nat) (dir:Int) (hk:1≤k) (h:LeV (ofD x) (ofD y)):LeV (RO x k dir) (RO y k dir):=by
 obtain ⟨⟨s,n⟩,e⟩:=x
 obtain ⟨⟨t,m⟩,f⟩:=y
 have h:∀i j:Nat,e - f=(i:Int) - j→Z s n*(2^i:Nat)≤Z t m*(2^j:Nat):=h
 have nz0:∀(σ:Bool) (F:Int),nz σ 0 F=⟨⟨false,0⟩,0⟩:=fun _ _=>rfl
 unfold RO
 simp only
 by_cases hn:n=0<;>by_cases hm:m=0
 ·rw [if_pos hn,if_pos hm]
  intro i j _
  show Z false 0*_≤Z false 0*_
  rw [Z0,Int.zero_mul,Int.zero_mul];exact Int.le_refl _
 ·obtain ⟨i,j,hij⟩:=GP e f
  have h1:=h i j hij
  rw [hn,Z0,Int.zero_mul,(IT t (Nat.two_pow_pos j)).1,(NE hm).1] at h1
  rw [if_pos hn,if_neg hm,Ij,h1,←nz0 false (f+((bl m - k:Nat):Int) - ((k - bl m:Nat):Int))]
  refine Ke (i:=0) (j:=0) (by omega) ?_
  rw [Z0,Int.zero_mul]
  exact (IT false (Nat.two_pow_pos 0)).1.2 (by unfold Z;rw [if_neg (by decide)];exact Int.natCast_nonneg _)
 ·obtain ⟨i,j,hij⟩:=GP e f
  have h1:=h i j hij
  rw [hm,Z0,Int.zero_mul,(IT s (Nat.two_pow_pos i)).2,(NE hn).2] at h1
  rw [if_neg hn,if_pos hm,Ij,h1,←nz0 false (e+((bl n - k:Nat):Int) - ((k - bl n:Nat):Int))]
  refine Ke (i:=0) (j:=0) (by omega) ?_
  rw [Z0,Int.zero_mul]
  exact (IT true (Nat.two_pow_pos 0)).2.2 (by unfold Z;rw [if_pos rfl];exact Int.neg_nonpos_of_nonneg (Int.natCast_nonneg _))
 ·rw [if_neg hn,if_neg hm,Ij,Ij]
  obtain ⟨a1,a2⟩:=HY hn hk
  obtain ⟨b1,b2⟩:=HY hm hk
  obtain ⟨A,hA⟩:∃A,k - bl n=A:=⟨_,rfl⟩
  obtain ⟨B,hB⟩:∃B,bl n - k=B:=⟨_,rfl⟩
  obtain ⟨A',hA'⟩:∃A',k - bl m=A':=⟨_,rfl⟩
  obtain ⟨B',hB'⟩:∃B',bl m - k=B':=⟨_,rfl⟩
  rw [hA,hB] at a1 a2 ⊢
  rw [hA',hB'] at b1 b2 ⊢
  obtain ⟨p,q,hpq⟩:=GP (e+(B:Int) - (A:Int)) (f+(B':Int) - (A':Int))
  have h1:=h (A+B' + p) (A' + B+q) (by omega)
  have hD:=Nat.two_pow_pos B
  have hD':=Nat.two_pow_pos B'
  have e1:n*2^A*2^B' * 2^p=n*2^(A+B' + p):=by rw [Nat.pow_add,Nat.pow_add];simp only [Nat.mul_assoc]
  have e2:m*2^A' * 2^B*2^q=m*2^(A' + B+q):=by rw [Nat.pow_add,Nat.pow_add];simp only [Nat.mul_assoc]
  rw [←FT,←FT,←e1,←e2] at h1
  cases s
  ·cases t
   ·refine Ke hpq ?_
    rw [←FT,←FT]
    exact Np.1.2 (KJ hD hD' (by omega) a1 a2 b1 b2 (k:=p) (k':=q) (by omega) (Np.1.1 h1) hpq)
   ·exfalso
    have q1:0<n*2^A*2^B' * 2^p:=Nat.mul_pos (Nat.mul_pos (Nat.mul_pos (by omega) (Nat.two_pow_pos _)) hD') (Nat.two_pow_pos _)
    generalize n*2^A*2^B' * 2^p=X at *
    generalize m*2^A' * 2^B*2^q=Y at *
    simp only [Z,if_true,Bool.false_eq_true,if_false] at h1
    omega
  ·cases t
   ·refine Ke hpq ?_
    rw [←FT,←FT];exact Z_tf _ _
   ·refine Ke hpq ?_
    rw [←FT,←FT]
    exact Np.2.2 (KJ (e:=f+(B':Int) - (A':Int)) (e':=e+(B:Int) - (A:Int)) hD' hD (by omega) b1 b2 a1 a2 (k:=q) (k':=p) (by omega) (Np.2.1 h1) (by omega))
def mir (dir:Int):Int:=if dir=4 then 5 else if dir=5 then 4 else dir
theorem inc_mir (N D:Nat) (s:Bool) (dir:Int):inc N D (!s) (mir dir)=inc N D s dir:=by
 unfold inc
 congr 2
 unfold up mir
 by_cases d4:dir=4
 ·subst d4;cases s<;>rfl
 ·by_cases d5:dir=5
  ·subst d5;cases s<;>rfl
  ·rw [if_neg d4,if_neg d5]
   simp only [if_neg d4,if_neg d5]
theorem turn_ok (x z:Ae) (hx:VT x) (k:Nat) (dir:Int) (hk:1≤k) (hz:CC x=some z):∃y,CC (toD (RO x k dir))=some y∧y=toD (RO z k (mir dir)):=by
 obtain ⟨⟨s,n⟩,e⟩:=x
 rw [refMinus] at hz
 obtain rfl:=Option.some.inj hz
 by_cases hn:n=0
 ·subst hn
  exact ⟨_,refMinus _ _ _,by unfold RO;rfl⟩
 ·obtain ⟨b1,b2⟩:=HY hn hk
  have hM:∀c,n*2^(k - bl n)/2^(bl n - k)+c≠0:=fun c=>by
   have:=Nat.two_pow_pos (k - 1)
   omega
  unfold RO
  simp only
  rw [if_neg hn,if_neg hn,Ij,Ij,decide_eq_true hn,Bool.and_true,inc_mir]
  have hM:=hM (inc (n*2^(k - bl n)) (2^(bl n - k)) s dir)
  generalize n*2^(k - bl n)/2^(bl n - k)+inc (n*2^(k - bl n)) (2^(bl n - k)) s dir=M at *
  unfold nz toD
  rw [if_neg hM,if_neg hM]
  refine ⟨_,refMinus _ _ _,?_⟩
  have:M/2^tz M≠0:=by
   obtain ⟨q,hq⟩:=IC M
   intro h
   generalize tz M=z at *
   rw [hq,Nat.mul_div_cancel _ (Nat.two_pow_pos z)] at h
   rw [h,Nat.zero_mul] at hq;exact hM hq
  rw [decide_eq_true this,Bool.and_true]
theorem HF (d:Ae) (k:Nat) (dir:Int) (hd:VT d) (ld:Lt d) (hk:1≤k) (hk':k≤4096) (hdir:1≤dir∧dir≤5):As d (k:Int) dir=some (toD (RO d k dir),true):=by
 unfold As
 rw [show EI ⟨⟨d.Man.Neg,limbs d.Man.Abs⟩,d.Exp⟩ (k:Int) dir=_ from (Kc d k dir hd ld hk hk' hdir).1]
 rfl
theorem keptStep {x y:Ae} {k:Nat} (dir:Int) {K:Option Bool} (hx:VT x) (hy:VT y) (lx:Lt x) (ly:Lt y) (hk:1≤k) (hk':k≤4096) (hdir:1≤dir∧dir≤5) (h:LeV (ofD x) (ofD y)) :
  ((As x (k:Int) dir).bind fun r72=>
 (As y (k:Int) dir).bind fun r91=>
 (if ¬(r72.2=true) then some (true) else some ((decide (¬(r91.2=true))))).bind fun m117=>
 (if m117=true then some (true) else (Bj r72.1 r91.1).bind fun r157=>
 some ((decide (¬(r157=true))))).bind fun m142=>
 if m142=true then some false else K)=K:=by
 have cx:=(Kc x k dir hx lx hk hk' hdir).2
 have cy:=(Kc y k dir hy ly hk hk' hdir).2
 obtain ⟨v,hv,_,_,h3⟩:=Jm (toD (RO x k dir)) (toD (RO y k dir)) (outOK cx).2 (outOK cy).2 cx.bm cy.bm
 have hv1:=h3 (RO_mono x y hx hy k dir hk h)
 subst hv1
 rw [HF x k dir hx lx hk hk' hdir,HF y k dir hy ly hk hk' hdir,sB,sB,if_neg (by simp),sB]
 simp only [not_true_eq_false,decide_false,Bool.false_eq_true,if_false]
 rw [hv,sB,sB]
 simp only [not_true_eq_false,decide_false,Bool.false_eq_true,if_false]
theorem kept_ok (x y:Ae) (k:Nat) (hx:VT x) (hy:VT y) (lx:Lt x) (ly:Lt y) (hk:1≤k) (hk':k≤4096):Ch x y (k:Int)=some true:=by
 obtain ⟨v,hv,v1,v2,_⟩:=Jm x y hx hy lx.bm ly.bm
 unfold Ch
 rw [hv,sB]
 cases v
 ·have h:=v2 rfl
  rw [if_pos (by simp),sB]
  refine (keptStep (x:=y) (y:=x) 1 hy hx ly lx hk hk' (by decide) h).trans ?_
  refine (keptStep (x:=y) (y:=x) 2 hy hx ly lx hk hk' (by decide) h).trans ?_
  refine (keptStep (x:=y) (y:=x) 3 hy hx ly lx hk hk' (by decide) h).trans ?_
  refine (keptStep (x:=y) (y:=x) 4 hy hx ly lx hk hk' (by decide) h).trans ?_
  exact keptStep (x:=y) (y:=x) 5 hy hx ly lx hk hk' (by decide) h
 ·have h:=v1 rfl
  rw [if_neg (by simp),sB]
  refine (keptStep (x:=x) (y:=y) 1 hx hy lx ly hk hk' (by decide) h).trans ?_
  refine (keptStep (x:=x) (y:=y) 2 hx hy lx ly hk hk' (by decide) h).trans ?_
  refine (keptStep (x:=x) (y:=y) 3 hx hy lx ly hk hk' (by decide) h).trans ?_
  refine (keptStep (x:=x) (y:=y) 4 hx hy lx ly hk hk' (by decide) h).trans ?_
  exact keptStep (x:=x) (y:=y) 5 hx hy lx ly hk hk' (by decide) h
def Lt2 (d:Ae):Prop:=bl d.Man.Abs≤1930∧-3000≤d.Exp∧d.Exp≤3000
theorem ND {d:Ae} {k:Nat} {dir:Int} (hd:VT d) (h:Lt2 d) (hk:1≤k) (hk':k≤4096):bl (RO d k dir).m.Abs≤4098∧-3000≤(RO d k dir).e∧(RO d k dir).e≤4940:=by
 by_cases hs:bl d.Man.Abs≤k
 ·rw [Iy hd hs]
  exact ⟨by have:=h.1;show bl d.Man.Abs≤_;omega,h.2.1,by have:=h.2.2;show d.Exp≤_;omega⟩
 ·obtain ⟨⟨s,n⟩,e⟩:=d
  obtain ⟨h1,h2,h3⟩:=h
  simp only at h1 h2 h3 hs
  unfold RO
  simp only
  by_cases h0:n=0
  ·rw [h0,EP] at hs;omega
  ·rw [if_neg h0,Ij]
   obtain ⟨a1,a2⟩:=HY h0 hk
   have hi:=LD (n*2^(k - bl n)) (2^(bl n - k)) s dir
   have hM:n*2^(k - bl n)/2^(bl n - k)+inc (n*2^(k - bl n)) (2^(bl n - k)) s dir≠0:=by have:=Nat.two_pow_pos (k - 1);omega
   have hMk:n*2^(k - bl n)/2^(bl n - k)+inc (n*2^(k - bl n)) (2^(bl n - k)) s dir≤2^k:=Nat.le_trans (Nat.add_le_add_left hi _) a1
   generalize n*2^(k - bl n)/2^(bl n - k)+inc (n*2^(k - bl n)) (2^(bl n - k)) s dir=M at *
   have hb:bl M≤k+1:=FC.2 (Nat.lt_of_le_of_lt hMk (Nat.pow_lt_pow_right (by decide) (Nat.lt_succ_self k)))
   unfold nz
   rw [if_neg hM]
   simp only
   have hq:=Kt M (2^tz M)
   have ht:tz M+1≤bl M:=by
    obtain ⟨b1,b2,b3⟩:=FX hM
    obtain ⟨q,hq⟩:=IC M
    have hq0:0<q:=by
     rcases Nat.eq_zero_or_pos q with h | h
     ·rw [h,Nat.zero_mul] at hq;exact absurd hq hM
     ·exact h
    have:2^tz M≤M:=by
     generalize tz M=z at *
     rw [hq];exact Nat.le_mul_of_pos_left _ hq0
    have:2^tz M<2^bl M:=by omega
    exact (Nat.pow_lt_pow_iff_right (by decide)).1 this
   omega
end Go.Proofs.Pq
namespace Go.Proofs.Pq
set_option linter.unusedVariables false
set_option linter.unusedSimpArgs false
set_option maxRecDepth 4000
open Go.Proofs Go.Sb Go.Proofs.Sbn Go.Proofs.Lf
theorem mkLt {d:Ae} (hd:VT d) (h1:bl d.Man.Abs≤9000) (h2 : -5000≤d.Exp) (h3:d.Exp≤5000):Lt d:=⟨⟨fun h=>(hd.z h).1,by omega,h2,h3⟩,h1⟩
theorem Lt2.lt {d:Ae} (hd:VT d) (h:Lt2 d):Lt d:=mkLt hd (by have:=h.1;omega) (by have:=h.2.1;omega) (by have:=h.2.2;omega)
theorem sameNe (a b:Ae) (h:Sm a.Man.Abs) (hne:a≠b):Aq a b=some false:=by
 obtain ⟨⟨s,n⟩,e⟩:=a
 obtain ⟨⟨t,m⟩,f⟩:=b
 unfold Aq CR
 simp only at h ⊢
 by_cases h1:s=t
 ·rw [if_pos h1,same _ _ h,sB,sB,sB]
  by_cases h2:n=m
  ·rw [decide_eq_true h2,if_pos rfl,sB]
   subst h1 h2
   by_cases h3:e=f
   ·subst h3;exact absurd rfl hne
   ·rw [decide_eq_false h3]
  ·rw [decide_eq_false h2,if_neg (by simp),sB]
 ·rw [if_neg h1,sB,sB,if_neg (by simp),sB]
theorem Cb.sm {r:Ao} (h:Cb r):Sm (toD r).Man.Abs:=(outOK h).2.sm
theorem sameR {r r':Ao} (h:Cb r) (he:r=r'):Aq (toD r) (toD r')=some true:=by
 subst he;exact Nd _ h.sm
theorem NF {r r':Ao} (h:Cb r) (he:r≠r'):Aq (toD r) (toD r')=some false:=by
 refine sameNe _ _ h.sm fun h2=>?_
 obtain ⟨⟨s,n⟩,e⟩:=r
 obtain ⟨⟨t,m⟩,f⟩:=r'
 apply he
 have h3:=congrArg (fun x:Ae=>(⟨x.Man,x.Exp⟩:Ao)) h2
 exact h3
theorem turnStep {x z:Ae} {k:Nat} (dir:Int) {K:Option Bool} (hx:VT x) (hz:VT z) (lx:Lt2 x) (lz:Lt z) (hk:1≤k) (hk':k≤4096) (hdir:1≤dir∧dir≤5) (hm:Bz dir=some (mir dir)) (hmir:1≤mir dir∧mir dir≤5) (hn:CC x=some z) :
  ((As x (k:Int) dir).bind fun r34=>
 (Bz dir).bind fun r56=>
 (As z (k:Int) r56).bind fun r60=>
 (DM ((⟨(⟨r34.1.Man.Neg,(limbs r34.1.Man.Abs)⟩:AD),r34.1.Exp⟩:Al))).bind fun r204=>
 (if ¬(r34.2=true) then some (true) else some ((decide (¬(r60.2=true))))).bind fun m230=>
 (if m230=true then some (true) else some ((decide (¬(0:Int)=0)))).bind fun m249=>
 (if m249=true then some (true) else some ((decide (¬r204.2=0)))).bind fun m268=>
 (if m268=true then some (true) else (Aq r60.1 r204.1).bind fun r306=>
 some ((decide (¬(r306=true))))).bind fun m292=>
 if m292=true then some false else K)=K:=by
 have cx:=(Kc x k dir hx (lx.lt hx) hk hk' hdir).2
 have cz:=(Kc z k (mir dir) hz lz hk hk' hmir).2
 obtain ⟨y,hy,hyz⟩:=turn_ok x z hx k dir hk hn
 have hv:=(outOK cx).2
 have bd:=ND (dir:=dir) hx lx hk hk'
 obtain ⟨y',n1,n2,n3⟩:=MT (toD (RO x k dir)) hv (mkLt hv (by have:=bd.1;show bl (RO x k dir).m.Abs≤_;omega) (by have:=bd.2.1;show _≤(RO x k dir).e;omega) (by have:=bd.2.2;show (RO x k dir).e≤_;omega))
 have hyy:toL y'=toL y:=by
  obtain ⟨z1,k1,k2⟩:=LH (d:=toD (RO x k dir))
  rw [hy] at k1
  obtain rfl:=Option.some.inj k1
  exact Option.some.inj (n2.symm.trans k2)
 have hyy2:y'=y:=by
  obtain ⟨⟨s,n⟩,e⟩:=y
  obtain ⟨⟨t,m⟩,f⟩:=y'
  have e1:t=s:=congrArg (fun x:Al=>x.Man.Neg) hyy
  have e2:limbs m=limbs n:=congrArg (fun x:Al=>x.Man.Abs) hyy
  have e3:f=e:=congrArg (fun x:Al=>x.Exp) hyy
  rw [e1,Kx e2,e3]
 subst hyy2
 rw [HF x k dir hx (lx.lt hx) hk hk' hdir,sB,hm,sB,HF z k (mir dir) hz lz hk hk' hmir,sB]
 rw [show DM ⟨⟨(toD (RO x k dir),true).1.Man.Neg,limbs (toD (RO x k dir),true).1.Man.Abs⟩,(toD (RO x k dir),true).1.Exp⟩=_ from n1,sB]
 have hs:Aq (toD (RO z k (mir dir))) y'=some true:=by rw [hyz];exact Nd _ cz.sm
 rw [if_neg (by simp),sB,if_neg (by simp),sB,if_neg (by simp),sB,if_neg (by simp),hs,sB,sB,if_neg (by simp)]
theorem turned_ok (x:Ae) (k:Nat) (hx:VT x) (lx:Lt2 x) (hk:1≤k) (hk':k≤4096):Cf x (k:Int)=some true:=by
 obtain ⟨z,n1,n2,n3⟩:=MT x hx (lx.lt hx)
 obtain ⟨z',k1,k2⟩:=LH (d:=x)
 have hzz:z=z':=by
  have hyy:toL z=toL z':=Option.some.inj (n2.symm.trans k2)
  obtain ⟨⟨s,n⟩,e⟩:=z'
  obtain ⟨⟨t,m⟩,f⟩:=z
  have e1:t=s:=congrArg (fun x:Al=>x.Man.Neg) hyy
  have e2:limbs m=limbs n:=congrArg (fun x:Al=>x.Man.Abs) hyy
  have e3:f=e:=congrArg (fun x:Al=>x.Exp) hyy
  rw [e1,Kx e2,e3]
 subst hzz
 have lz:Lt z:=by
  obtain ⟨⟨s,n⟩,e⟩:=x
  have k3:=k1
  rw [refMinus] at k3
  obtain rfl:=Option.some.inj k3
  exact mkLt n3 (by have:=lx.1;simp only at this ⊢;omega) (by have:=lx.2.1;simp only at this ⊢;omega) (by have:=lx.2.2;simp only at this ⊢;omega)
 unfold Cf
 rw [show DM ⟨⟨x.Man.Neg,limbs x.Man.Abs⟩,x.Exp⟩=_ from n1,sB]
 refine (turnStep (x:=x) (z:=z) 1 hx n3 lx lz hk hk' (by decide) rfl (by decide) k1).trans ?_
 refine (turnStep (x:=x) (z:=z) 2 hx n3 lx lz hk hk' (by decide) rfl (by decide) k1).trans ?_
 refine (turnStep (x:=x) (z:=z) 3 hx n3 lx lz hk hk' (by decide) rfl (by decide) k1).trans ?_
 refine (turnStep (x:=x) (z:=z) 4 hx n3 lx lz hk hk' (by decide) rfl (by decide) k1).trans ?_
 exact turnStep (x:=x) (z:=z) 5 hx n3 lx lz hk hk' (by decide) rfl (by decide) k1
theorem add_v (x y:Ae) {N N' E:Int} (hx:VT x) (hy:VT y) (lx:Lt x) (ly:Lt y) (vx:VEq (ofD x) N E) (vy:VEq (ofD y) N' E) :
  ∃r,GN (toL x) (toL y)=some (toD r,0)∧Cb r∧VEq r (N+N') E:=by
 obtain ⟨σ,M,F,p1,p2,p3,p4,p5⟩:=sumC x (ofD y) y hx (Md.of hy) lx.2 ly.2 lx.1.l lx.1.u ly.1.l ly.1.u
 have hc:Cb (nz σ M F):=Cb.of p3 (by omega) (by omega)
 obtain ⟨r,q1,q2,_⟩:=vx.plus vy ⟨lx.2,by have:=lx.1.l;show _≤x.Exp;omega,by have:=lx.1.u;show x.Exp≤_;omega⟩ ⟨ly.2,by have:=ly.1.l;show _≤y.Exp;omega,by have:=ly.1.u;show y.Exp≤_;omega⟩
 obtain rfl:=Option.some.inj (q1.symm.trans p1)
 refine ⟨_,?_,hc,q2⟩
 unfold GN BX Cy
 rw [Lj hx hy,mbo,toNT,sB,inT,sB,toNT,sB,inT,sB,nearT (ofD x) (ofD y) lx.2 ly.2 lx.1.l lx.1.u ly.1.l ly.1.u,sB,wantT,mbo,p1,sB,(outOK hc).1,mbo]
 rfl
theorem Nz (x y:Ae) {N N' E:Int} (hx:VT x) (hy:VT y) (lx:Lt x) (ly:Lt y) (h0:y.Man.Abs≠0) (vx:VEq (ofD x) N E) (vy:VEq (ofD y) N' E) :
  ∃r,FN (toL x) (toL y)=some (toD r,0)∧Cb r∧VEq r (N - N') E:=by
 obtain ⟨z,m1,m2,m3,m4,m5⟩:=Ky hy
 obtain ⟨σ,M,F,p1,p2,p3,p4,p5⟩:=sumC x _ z hx m3 lx.2 (by rw [m4];exact ly.2) lx.1.l lx.1.u (by rw [m5];exact ly.1.l) (by rw [m5];exact ly.1.u)
 have hc:Cb (nz σ M F):=Cb.of p3 (by omega) (by omega)
 have vm:VEq ⟨⟨!y.Man.Neg,y.Man.Abs⟩,y.Exp⟩ (-N') E:=by
  refine ⟨⟨_,_,_,(IY (hy.o h0).1).symm⟩,fun i j hij=>?_⟩
  have h1:=vy.2 i j hij
  have h2:Z (!y.Man.Neg) y.Man.Abs = - Z y.Man.Neg y.Man.Abs:=by
   unfold Z;cases y.Man.Neg<;>simp
  show Z (!y.Man.Neg) y.Man.Abs*_=_
  rw [h2,Int.neg_mul,Int.neg_mul]
  exact congrArg _ h1
 obtain ⟨r,q1,q2,_⟩:=vx.plus vm ⟨lx.2,by have:=lx.1.l;show _≤x.Exp;omega,by have:=lx.1.u;show x.Exp≤_;omega⟩ ⟨ly.2,by have:=ly.1.l;show _≤y.Exp;omega,by have:=ly.1.u;show y.Exp≤_;omega⟩
 obtain rfl:=Option.some.inj (q1.symm.trans p1)
 refine ⟨_,?_,hc,by rw [Int.sub_eq_add_neg];exact q2⟩
 unfold FN Cn CW
 rw [Lj hx hy,mbo,toNT,sB,inT,sB,toNT,sB,inT,sB,nearT (ofD x) (ofD y) lx.2 ly.2 lx.1.l lx.1.u ly.1.l ly.1.u,sB,wantT,mbo]
 unfold Hq
 rw [m1,sB,p1,sB,sB,(outOK hc).1,mbo]
 rfl
theorem top_ok (d:Ae) (hd:VT d) (ld:Lt d):Hz (toL d)=if d.Man.Abs=0 then some (0,5) else some ((bl d.Man.Abs:Int) - 1+d.Exp,0):=by
 have hz:(0<((List.length (toL d).Man.Abs:Int)))=(d.Man.Abs≠0):=JY d.Man.Abs
 unfold Hz IH
 rw [LM hd,mbo]
 simp only [hz]
 by_cases h0:d.Man.Abs=0
 ·rw [if_pos h0,decide_eq_false (fun h=>h h0)];rfl
 ·rw [if_neg h0,decide_eq_true h0,wantT,mbo,toNT,sB,inT,sB]
  unfold Dd
  rw [show Bq (ofD d).m.Abs=_ from wBits hd.sm,sB,sB]
  have:=ld.2
  have:=ld.1.l
  have:=ld.1.u
  have e1:(ofD d).e=d.Exp:=rfl
  have e2:(ofD d).m.Abs=d.Man.Abs:=rfl
  rw [e1,e2,w64 (x:=(bl d.Man.Abs:Int) - 1) (by omega) (by omega),w64 (x:=(bl d.Man.Abs:Int) - 1+d.Exp) (by omega) (by omega)]
  rfl
theorem small_ok (e:Int) (h : -1000000≤e) (h':e≤1000000):AW 1 e=some (toD (nz false 1 e)):=by
 unfold AW
 rw [show Eg 1=some ⟨false,1⟩ by kernel_rfl,sB,refOf false 1 e (by unfold Sm;decide) (by omega) (by omega),sB]
end Go.Proofs.Pq
namespace Go.Proofs.Pq
set_option linter.unusedVariables false
set_option linter.unusedSimpArgs false
set_option maxRecDepth 4000
open Go.Proofs Go.Sb Go.Proofs.Sbn Go.Proofs.Lf
theorem MG (x:Al) (h:Dig x.Man.Abs):∃v,Dm x=some v∧(v=true→∀d,x=toL d→VT d→Lt2 d):=by
 obtain ⟨w,hv,_,_⟩:=LJ x h
 unfold Dm
 by_cases hl:(List.length x.Man.Abs:Int)≤60
 ·have key:(-3000≤x.Exp∧x.Exp≤3000)→∀d,x=toL d→VT d→Lt2 d:=by
   rintro ⟨k1,k2⟩ d rfl hd
   have e1:(toL d).Exp=d.Exp:=rfl
   have e2:(toL d).Man.Abs.length=Sbn.sz d.Man.Abs:=rfl
   have h60:Sbn.sz d.Man.Abs≤60:=by omega
   exact ⟨by have:=JX h60;omega,k1,k2⟩
  have nov:w=false→∀d,x=toL d→VT d→Lt2 d:=by
   intro hw d hd hvt
   subst hd;rw [(validT hvt).1,hw] at hv;cases hv
  rw [if_pos hl,hv]
  by_cases k1 : -3000≤x.Exp
  ·rw [if_pos k1,sB]
   by_cases k2:x.Exp≤3000
   ·exact ⟨true,by rw [decide_eq_true k2];rfl,fun _=>key ⟨k1,k2⟩⟩
   ·refine ⟨!w,by rw [decide_eq_false k2];cases w<;>rfl,fun hw=>nov (by cases w<;>simp_all)⟩
  ·rw [if_neg k1,sB]
   refine ⟨!w,by cases w<;>rfl,fun hw=>nov (by cases w<;>simp_all)⟩
 ·rw [if_neg hl]
  exact ⟨false,rfl,fun h=>by cases h⟩
theorem valid2_ (x0 x1:Al) (h0:Dig x0.Man.Abs) (h1:Dig x1.Man.Abs):∃v,Dq x0 x1=some v∧(v=true→∃x y,x0=toL x∧x1=toL y∧VT x∧VT y∧Lt2 x∧Lt2 y):=by
 obtain ⟨w0,fe0,fk0⟩:=MG x0 h0
 obtain ⟨w1,fe1,fk1⟩:=MG x1 h1
 obtain ⟨v0,e0,f0,g0⟩:=LJ x0 h0
 obtain ⟨v1,e1,f1,g1⟩:=LJ x1 h1
 refine ⟨w0 && v0 && w1 && v1,?_,fun h=>?_⟩
 ·unfold Dq
  rw [fe0,fe1,f0,f1]
  cases w0<;>cases v0<;>cases w1<;>cases v1<;>rfl
 ·simp only [Bool.and_eq_true] at h
  obtain ⟨⟨⟨a,b⟩,c⟩,d⟩:=h
  obtain ⟨x,hx,vx⟩:=g0 b
  obtain ⟨y,hy,vy⟩:=g1 d
  exact ⟨x,y,hx,hy,vx,vy,fk0 a x hx vx,fk1 c y hy vy⟩
theorem inc_vals {N D:Nat} (s:Bool) (h:N%D≠0):inc N D s 5=(if s=true then 1 else 0)∧inc N D s 4=(if s=true then 0 else 1)∧inc N D s 3=0∧
  inc N D s 2=(if 0≤sgnc (2*(N%D)) D then 1 else 0)∧(0<sgnc (2*(N%D)) D→inc N D s 1=1)∧(sgnc (2*(N%D)) D<0→inc N D s 1=0)∧inc N D s 1≤1:=by
 refine ⟨?_,?_,?_,?_,?_,?_,LD _ _ _ _⟩
 all_goals
  unfold inc up
  rw [decide_eq_false h]
  simp only [Bool.false_eq_true,if_false]
  generalize sgnc (2*(N%D)) D=c
 ·cases s<;>rfl
 ·cases s<;>rfl
 ·simp
 ·simp
 ·intro hc
  simp [hc]
 ·intro hc
  have h1:¬0<c:=by omega
  have h2:¬c=0:=by omega
  simp [h1,h2]
theorem Ln {d:Ae} {k:Nat} {dir:Int} (h:k<bl d.Man.Abs):RO d k dir=nz d.Man.Neg (d.Man.Abs/2^(bl d.Man.Abs - k)+inc d.Man.Abs (2^(bl d.Man.Abs - k)) d.Man.Neg dir) (d.Exp+((bl d.Man.Abs - k:Nat):Int)):=by
 unfold RO
 by_cases h0:d.Man.Abs=0
 ·rw [h0,EP] at h;omega
 ·rw [if_neg h0,Ij,show k - bl d.Man.Abs=0 by omega,Nat.pow_zero,Nat.mul_one]
  congr 1
  omega
theorem RO_v {d:Ae} {k:Nat} {dir:Int} (h:k<bl d.Man.Abs):VEq (RO d k dir) (Z d.Man.Neg ((d.Man.Abs/2^(bl d.Man.Abs - k)+inc d.Man.Abs (2^(bl d.Man.Abs - k)) d.Man.Neg dir)*2^(bl d.Man.Abs - k))) d.Exp:=by
 rw [Ln h]
 refine (Jr _ _ _).base (p:=bl d.Man.Abs - k) (q:=0) (by omega) ?_
 rw [FT,Nat.pow_zero]
 omega
theorem VEq.inj {r:Ao} {N N' E:Int} (h:VEq r N E) (h':VEq r N' E):N=N':=by
 have h1:=(h.cross h' (i:=0) (j:=0) (by omega)).1 (Int.le_refl _)
 have h2:=(h'.cross h (i:=0) (j:=0) (by omega)).1 (Int.le_refl _)
 omega
structure Facts (d:Ae) (k:Nat) (un:Ae):Prop where
 lo:LeV (RO d k 5) (ofD d)
 hi:LeV (ofD d) (RO d k 4)
 add:GN (toL (toD (RO d k 5))) (toL un)=some (toD (RO d k 4),0)
 z3:(d.Man.Neg=true→RO d k 3=RO d k 4)∧(d.Man.Neg=false→RO d k 3=RO d k 5)
 cmp:∃l r c,FN (toL d) (toL (toD (RO d k 5)))=some (l,0)∧FN (toL (toD (RO d k 4))) (toL d)=some (r,0)∧FV (toL l) (toL r)=some (c,0)∧
  (c<0→RO d k 1=RO d k 5∧RO d k 2=RO d k 5)∧(0<c→RO d k 1=RO d k 4∧RO d k 2=RO d k 4)∧
  (c=0→(d.Man.Neg=false→RO d k 2=RO d k 4)∧(d.Man.Neg=true→RO d k 2≠RO d k 4)∧(RO d k 1=RO d k 4∨RO d k 1=RO d k 5))
theorem facts (d:Ae) (k:Nat) (hd:VT d) (l2:Lt2 d) (hk:1≤k) (hk':k≤4096) (hb:k<bl d.Man.Abs):Facts d k (toD (nz false 1 (d.Exp+((bl d.Man.Abs - k:Nat):Int)))):=by
 have ld:=l2.lt hd
 have h0:d.Man.Abs≠0:=by intro h;rw [h,EP] at hb;omega
 have hc:∀dir:Int,1≤dir∧dir≤5→Cb (RO d k dir):=fun dir h=>(Kc d k dir hd ld hk hk' h).2
 have hv:∀dir:Int,1≤dir∧dir≤5→VT (toD (RO d k dir)):=fun dir h=>(outOK (hc dir h)).2
 have hl:∀dir:Int,1≤dir∧dir≤5→Lt (toD (RO d k dir)):=fun dir h=>by
  have bd:=ND (dir:=dir) hd l2 hk hk'
  exact mkLt (hv dir h) (by have:=bd.1;show bl (RO d k dir).m.Abs≤_;omega) (by have:=bd.2.1;show _≤(RO d k dir).e;omega) (by have:=bd.2.2;show (RO d k dir).e≤_;omega)
 have hV:=fun dir:Int=>RO_v (d:=d) (k:=k) (dir:=dir) hb
 have heq:∀i j:Int,inc d.Man.Abs (2^(bl d.Man.Abs - k)) d.Man.Neg i=inc d.Man.Abs (2^(bl d.Man.Abs - k)) d.Man.Neg j→RO d k i=RO d k j:=fun i j h=>by rw [Ln hb,Ln hb,h]
 have hda:=hd.veq
 have hU:=Nat.two_pow_pos (bl d.Man.Abs - k)
 have hr:d.Man.Abs%2^(bl d.Man.Abs - k)≠0:=by
  intro h
  have h1:=Nat.dvd_of_mod_eq_zero h
  have h2:2∣2^(bl d.Man.Abs - k):=⟨2^(bl d.Man.Abs - k - 1),by rw [Nat.mul_comm,←Nat.pow_succ];congr 1;omega⟩
  have h3:=Nat.mod_eq_zero_of_dvd (Nat.dvd_trans h2 h1)
  have:=(hd.o h0).1
  omega
 obtain ⟨i5,i4,i3,i2,i1p,i1n,i1⟩:=inc_vals d.Man.Neg hr
 have hq:d.Man.Abs/2^(bl d.Man.Abs - k)≠0:=by
  have:=(HY h0 hk).2
  rw [show k - bl d.Man.Abs=0 by omega,Nat.pow_zero,Nat.mul_one] at this
  have:=Nat.two_pow_pos (k - 1)
  omega
 have nz0:∀dir:Int,(toD (RO d k dir)).Man.Abs≠0:=by
  intro dir h
  have h1:=hV dir
  obtain ⟨i,j,hij⟩:=GP (RO d k dir).e d.Exp
  have h2:=h1.2 i j hij
  rw [show (RO d k dir).m.Abs=0 from h,Z0,Int.zero_mul] at h2
  rcases Int.mul_eq_zero.1 h2.symm with h3 | h3
  ·have h4:(d.Man.Abs/2^(bl d.Man.Abs - k)+inc d.Man.Abs (2^(bl d.Man.Abs - k)) d.Man.Neg dir)*2^(bl d.Man.Abs - k)=0:=by
    unfold Z at h3
    split at h3<;>omega
   rcases Nat.mul_eq_zero.1 h4 with h5 | h5
   ·exact hq (Nat.add_eq_zero_iff.1 h5).1
   ·omega
  ·have:=p2 j;omega
 have hdm:=Nat.div_add_mod d.Man.Abs (2^(bl d.Man.Abs - k))
 have hrl:=Nat.mod_lt d.Man.Abs hU
 have hun:VEq (nz false 1 (d.Exp+((bl d.Man.Abs - k:Nat):Int))) ((2^(bl d.Man.Abs - k):Nat):Int) d.Exp:=by
  refine (Jr false 1 _).base (p:=bl d.Man.Abs - k) (q:=0) (by omega) ?_
  show (1:Int)*_=_
  rw [Nat.pow_zero];omega
 have b1:=l2.1
 have b2:=l2.2.1
 have b3:=l2.2.2
 have cu:Cb (nz false 1 (d.Exp+((bl d.Man.Abs - k:Nat):Int))):=Cb.of (by decide) (by omega) (by omega)
 have vu:=(outOK cu).2
 have lu:Lt (toD (nz false 1 (d.Exp+((bl d.Man.Abs - k:Nat):Int)))):=by
  rw [IY (by decide)] at vu ⊢
  exact mkLt vu (show bl 1≤9000 by decide) (show -5000≤d.Exp+((bl d.Man.Abs - k:Nat):Int) by omega) (show d.Exp+((bl d.Man.Abs - k:Nat):Int)≤5000 by omega)
 obtain ⟨r1,a1,a2,a3⟩:=add_v _ _ (hv 5 (by decide)) vu (hl 5 (by decide)) lu (hV 5) hun
 obtain ⟨l,s1,s2,s3⟩:=Nz _ _ hd (hv 5 (by decide)) ld (hl 5 (by decide)) (nz0 5) hda (hV 5)
 obtain ⟨r,t1,t2,t3⟩:=Nz _ _ (hv 4 (by decide)) hd (hl 4 (by decide)) ld h0 (hV 4) hda
 obtain ⟨c,c1,c2,c3⟩:=s3.cmp t3 s2.bm t2.bm
 have cc:=MW (toD l) (toD r) (outOK s2).2 (outOK t2).2 c1
 have sg:=LO (2*(d.Man.Abs%2^(bl d.Man.Abs - k))) (2^(bl d.Man.Abs - k))
 generalize hk5:sgnc (2*(d.Man.Abs%2^(bl d.Man.Abs - k))) (2^(bl d.Man.Abs - k))=h at *
 have val:∀m:Nat,(d.Man.Abs/2^(bl d.Man.Abs - k)+m)*2^(bl d.Man.Abs - k)=2^(bl d.Man.Abs - k)*(d.Man.Abs/2^(bl d.Man.Abs - k))+m*2^(bl d.Man.Abs - k):=fun m=>by rw [Nat.add_mul,Nat.mul_comm]
 refine ⟨fun i j hij=>((hV 5).cross hda hij).2 ?_,fun i j hij=>(hda.cross (hV 4) hij).2 ?_,?_,⟨fun hs=>heq _ _ (by rw [i3,i4,hs];rfl),fun hs=>heq _ _ (by rw [i3,i5,hs];rfl)⟩,toD l,toD r,c,s1,t1,cc,?_⟩
 ·rw [i5,val]
  generalize 2^(bl d.Man.Abs - k)*(d.Man.Abs/2^(bl d.Man.Abs - k))=P at *
  cases hs:d.Man.Neg
  ·simp only [Z,Bool.false_eq_true,if_false];omega
  ·simp only [Z,if_true];omega
 ·rw [i4,val]
  generalize 2^(bl d.Man.Abs - k)*(d.Man.Abs/2^(bl d.Man.Abs - k))=P at *
  cases hs:d.Man.Neg
  ·simp only [Z,Bool.false_eq_true,if_false];omega
  ·simp only [Z,if_true];omega
 ·rw [a1]
  congr 3
  refine a3.uniq ?_
  have:=hV 4
  rw [i4,val] at this
  rw [i5,val]
  generalize 2^(bl d.Man.Abs - k)*(d.Man.Abs/2^(bl d.Man.Abs - k))=P at *
  cases hs:d.Man.Neg
  ·rw [hs] at this
   simp only [Z,Bool.false_eq_true,if_false] at this ⊢
   refine this.base (p:=0) (q:=0) (by omega) ?_
   congr 1
   omega
  ·rw [hs] at this
   simp only [Z,if_true] at this ⊢
   refine this.base (p:=0) (q:=0) (by omega) ?_
   congr 1
   omega
 ·have hlt:(c<0↔(if d.Man.Neg=true then 0<h else h<0))∧(0<c↔(if d.Man.Neg=true then h<0 else 0<h)):=by
   rw [c2,c3,i4,i5,val,val]
   generalize 2^(bl d.Man.Abs - k)*(d.Man.Abs/2^(bl d.Man.Abs - k))=P at *
   generalize d.Man.Abs%2^(bl d.Man.Abs - k)=R at *
   generalize 2^(bl d.Man.Abs - k)=U at *
   rw [←hdm]
   cases hs:d.Man.Neg
   ·simp only [Z,Bool.false_eq_true,if_false]
    omega
   ·simp only [Z,if_true]
    omega
  refine ⟨fun hc1=>?_,fun hc1=>?_,fun hc1=>?_⟩
  ·have hc2:=hlt.1.1 hc1
   cases hs:d.Man.Neg
   ·rw [if_neg (by rw [hs];decide)] at hc2
    exact ⟨heq _ _ (by rw [i5,i1n hc2,hs];rfl),heq _ _ (by rw [i5,i2,hs,if_neg (by omega)];rfl)⟩
   ·rw [if_pos hs] at hc2
    exact ⟨heq _ _ (by rw [i5,i1p hc2,hs];rfl),heq _ _ (by rw [i5,i2,hs,if_pos (by omega)];rfl)⟩
  ·have hc2:=hlt.2.1 hc1
   cases hs:d.Man.Neg
   ·rw [if_neg (by rw [hs];decide)] at hc2
    exact ⟨heq _ _ (by rw [i4,i1p hc2,hs];rfl),heq _ _ (by rw [i4,i2,hs,if_pos (by omega)];rfl)⟩
   ·rw [if_pos hs] at hc2
    exact ⟨heq _ _ (by rw [i4,i1n hc2,hs];rfl),heq _ _ (by rw [i4,i2,hs,if_neg (by omega)];rfl)⟩
  ·have h7:h=0:=by
    have g1:¬c<0:=by omega
    have g2:¬0<c:=by omega
    rw [hlt.1] at g1
    rw [hlt.2] at g2
    by_cases hs:d.Man.Neg=true
    ·rw [if_pos hs] at g1 g2;omega
    ·rw [if_neg hs] at g1 g2;omega
   refine ⟨fun hs=>heq _ _ (by rw [i4,i2,hs,if_pos (by omega)];rfl),fun hs he=>?_,?_⟩
   ·have w2:=hV 2
    have w4:=hV 4
    rw [he,i2,if_pos (by omega),hs,val] at w2
    rw [i4,if_pos hs,hs,val] at w4
    have:=w2.inj w4
    generalize 2^(bl d.Man.Abs - k)*(d.Man.Abs/2^(bl d.Man.Abs - k))=P at *
    simp only [Z,if_true] at this
    omega
   ·rcases (show inc d.Man.Abs (2^(bl d.Man.Abs - k)) d.Man.Neg 1=0∨inc d.Man.Abs (2^(bl d.Man.Abs - k)) d.Man.Neg 1=1 by omega) with g | g
    ·cases hs:d.Man.Neg
     ·exact Or.inr (heq _ _ (by rw [g,i5,hs];rfl))
     ·exact Or.inl (heq _ _ (by rw [g,i4,hs];rfl))
    ·cases hs:d.Man.Neg
     ·exact Or.inl (heq _ _ (by rw [g,i4,hs];rfl))
     ·exact Or.inr (heq _ _ (by rw [g,i5,hs];rfl))
theorem Lc (x:Ao):LeV x x:=fun i j hij=>by rw [show i=j by omega];exact Int.le_refl _
theorem KY (d y:Ae) (k:Nat) (hd:VT d) (hy:VT y) (ld:Lt2 d) (ly:Lt2 y) (hk:1≤k) (hk':k≤4096) :
  ((BC).bind fun r1673=>
 (if r1673=true then (toN (toL y).Man.Abs).bind fun m1713=>
 (Ch d ((⟨(⟨(toL y).Man.Neg,m1713⟩:Ah),(toL y).Exp⟩:Ae)) (k:Int)).bind fun r1718=>
 some (r1718) else some (false)).bind fun m1696=>
 (if m1696=true then (Cf d (k:Int)).bind fun r1751=>
 some (r1751) else some (false)).bind fun m1736=>
 some m1736)=some true:=by
 rw [sanity,sB,if_pos rfl,toNT,sB,show Ch d ⟨⟨(toL y).Man.Neg,y.Man.Abs⟩,(toL y).Exp⟩ (k:Int)=_ from kept_ok d y k hd hy (ld.lt hd) (ly.lt hy) hk hk',sB,sB,if_pos rfl,turned_ok d k hd ld hk hk',sB,sB]
theorem lawNear (x0 x1:Al) (x2:Int) (h0:Dig x0.Man.Abs) (h1:Dig x1.Man.Abs):Eh x0 x1 x2=some true:=by
 obtain ⟨v,hv,kv⟩:=valid2_ x0 x1 h0 h1
 unfold Eh
 rw [hv,sB]
 cases v
 ·rw [if_pos (by simp),sB,if_pos rfl,sanity];rfl
 obtain ⟨d,y,rfl,rfl,hd,hy,ld,ly⟩:=kv rfl
 have hf:Es x2=some (decide (1≤x2∧x2≤4096)):=by
  unfold Es
  by_cases g1:1≤x2
  ·rw [if_pos g1,sB]
   by_cases g2:x2≤4096
   ·rw [decide_eq_true g2,decide_eq_true ⟨g1,g2⟩]
   ·rw [decide_eq_false g2,decide_eq_false (fun h=>g2 h.2)]
  ·rw [if_neg g1,sB,decide_eq_false (fun h=>g1 h.1)]
 rw [if_neg (by simp),hf,sB,sB]
 by_cases hfin:1≤x2∧x2≤4096
 case neg=>rw [decide_eq_false hfin,if_pos (by simp),sanity];rfl
 rw [decide_eq_true hfin,if_neg (by simp),toNT,sB]
 obtain ⟨k,rfl⟩:∃k:Nat,x2=(k:Int):=⟨x2.toNat,by omega⟩
 have hk:1≤k:=by omega
 have hk':k≤4096:=by omega
 have lt:=ld.lt hd
 have d0:(⟨⟨(toL d).Man.Neg,d.Man.Abs⟩,(toL d).Exp⟩:Ae)=d:=rfl
 have hc:∀dir:Int,1≤dir∧dir≤5→Cb (RO d k dir):=fun dir h=>(Kc d k dir hd lt hk hk' h).2
 have hro:∀dir:Int,1≤dir∧dir≤5→As d (k:Int) dir=some (toD (RO d k dir),true):=fun dir h=>HF d k dir hd lt hk hk' h
 have lohi:LeV (RO d k 5) (ofD d)∧LeV (ofD d) (RO d k 4):=by
  by_cases hb:k<bl d.Man.Abs
  ·exact ⟨(facts d k hd ld hk hk' hb).lo,(facts d k hd ld hk hk' hb).hi⟩
  ·rw [Iy hd (by omega),Iy hd (by omega)];exact ⟨Lc _,Lc _⟩
 obtain ⟨u5,b5,_,_,c5⟩:=Jm (toD (RO d k 5)) d (outOK (hc 5 (by decide))).2 hd (hc 5 (by decide)).bm lt.bm
 obtain ⟨u4,b4,_,_,c4⟩:=Jm d (toD (RO d k 4)) hd (outOK (hc 4 (by decide))).2 lt.bm (hc 4 (by decide)).bm
 have e5:=c5 lohi.1
 have e4:=c4 lohi.2
 subst e5 e4
 rw [d0,hro 5 (by decide),sB,hro 4 (by decide),sB,hro 3 (by decide),sB,hro 1 (by decide),sB,hro 2 (by decide),sB]
 dsimp only
 rw [if_neg (by simp),sB,if_neg (by simp),sB,if_neg (by simp),sB,if_neg (by simp),sB,if_neg (by simp),b5,sB,sB,if_neg (by simp),b4,sB,sB,if_neg (by simp),top_ok d hd lt]
 have same:∀dir:Int,1≤dir∧dir≤5→bl d.Man.Abs≤k→Aq (toD (RO d k dir)) d=some true:=fun dir h hb=>by
  rw [Iy hd hb];exact Nd d hd.sm
 by_cases hn:d.Man.Abs=0
 ·have hb:bl d.Man.Abs≤k:=by rw [hn,EP];omega
  rw [if_pos hn,sB,if_pos (by simp),sanity,sB,if_pos rfl,same 5 (by decide) hb,sB,sB,if_pos rfl,same 4 (by decide) hb,sB,sB,if_pos rfl,same 1 (by decide) hb,sB,sB]
 ·have l1:=ld.1
  have l2:=ld.2.1
  have l3:=ld.2.2
  rw [if_neg hn,sB,if_neg (by simp)]
  have hw:wi64 (wi64 ((bl d.Man.Abs:Int) - 1+d.Exp - (toL d).Exp)+1)=(bl d.Man.Abs:Int):=by
   show wi64 (wi64 ((bl d.Man.Abs:Int) - 1+d.Exp - d.Exp)+1)=(bl d.Man.Abs:Int)
   rw [w64 (x:=(bl d.Man.Abs:Int) - 1+d.Exp - d.Exp) (by omega) (by omega),w64 (x:=(bl d.Man.Abs:Int) - 1+d.Exp - d.Exp+1) (by omega) (by omega)]
   omega
  dsimp only
  rw [hw]
  by_cases hb:bl d.Man.Abs≤k
  ·rw [if_pos (by omega),sanity,sB,if_pos rfl,same 5 (by decide) hb,sB,sB,if_pos rfl,same 4 (by decide) hb,sB,sB,if_pos rfl,same 3 (by decide) hb,sB,sB,if_pos rfl,same 1 (by decide) hb,sB,sB,if_pos rfl,same 2 (by decide) hb,sB,sB]
  ·have hb2:k<bl d.Man.Abs:=by omega
   have F:=facts d k hd ld hk hk' hb2
   have hE:wi64 (wi64 ((bl d.Man.Abs:Int) - 1+d.Exp - (k:Int))+1)=d.Exp+((bl d.Man.Abs - k:Nat):Int):=by
    rw [w64 (x:=(bl d.Man.Abs:Int) - 1+d.Exp - (k:Int)) (by omega) (by omega),w64 (x:=(bl d.Man.Abs:Int) - 1+d.Exp - (k:Int)+1) (by omega) (by omega)]
    omega
   obtain ⟨l,r,c,s1,s2,s3,q1,q2,q3⟩:=F.cmp
   have F1:=F.add
   rw [if_neg (by omega),hE,small_ok _ (by omega) (by omega),sB]
   generalize toD (nz false 1 (d.Exp+((bl d.Man.Abs - k:Nat):Int)))=un at *
   have eL:∀w:Ae,(⟨⟨w.Man.Neg,limbs w.Man.Abs⟩,w.Exp⟩:Al)=toL w:=fun _=>rfl
   rw [eL (toD (RO d k 5)),eL un,F1,sB]
   dsimp only
   rw [if_neg (by simp),sameR (hc 4 (by decide)) rfl,sB,sB,if_neg (by simp)]
   have hneg:(toL d).Man.Neg=d.Man.Neg:=rfl
   rw [hneg]
   have m799:(if d.Man.Neg=true then (Aq (toD (RO d k 3)) (toD (RO d k 4))).bind fun r817=>some (decide ¬r817=true) else some false)=some false:=by
    by_cases hs:d.Man.Neg=true
    ·rw [if_pos hs,sameR (hc 3 (by decide)) (F.z3.1 hs)];rfl
    ·rw [if_neg hs]
   have m906:(if ¬d.Man.Neg=true then (Aq (toD (RO d k 3)) (toD (RO d k 5))).bind fun r924=>some (decide ¬r924=true) else some false)=some false:=by
    by_cases hs:d.Man.Neg=true
    ·rw [if_neg (by simp [hs])]
    ·rw [if_pos hs,sameR (hc 3 (by decide)) (F.z3.2 (by simpa using hs))];rfl
   rw [m799,sB,if_neg (by simp),m906,sB,sB,if_neg (by simp),s1,sB,eL (toD (RO d k 4)),s2,sB]
   dsimp only
   rw [eL l,eL r,s3,sB]
   dsimp only
   rw [if_neg (by simp),sB,if_neg (by simp),sB,if_neg (by simp)]
   rcases Int.lt_trichotomy c 0 with hc0 | hc0 | hc0
   ·obtain ⟨w1,w2⟩:=q1 hc0
    rw [if_pos hc0,sameR (hc 1 (by decide)) w1,sB,if_neg (by simp),sameR (hc 2 (by decide)) w2,sB,sB,sB,if_neg (by simp),if_neg (by omega),sB,sB,if_neg (by simp),if_neg (by omega)]
    exact KY d y k hd hy ld ly hk hk'
   ·obtain ⟨w1,w2,w3⟩:=q3 hc0
    rw [if_neg (by omega),sB,if_neg (by simp),if_neg (by omega),sB,sB,if_neg (by simp),if_pos hc0]
    have tail:∀v:Bool,v≠d.Man.Neg→Aq (toD (RO d k 2)) (toD (RO d k 4))=some v:=by
     intro v hv
     cases hs:d.Man.Neg
     ·rw [sameR (hc 2 (by decide)) (w1 hs)]
      cases v
      ·exact absurd hs.symm hv
      ·rfl
     ·rw [NF (hc 2 (by decide)) (w2 hs)]
      cases v
      ·rfl
      ·exact absurd hs.symm hv
    rw [tail (!d.Man.Neg) (by simp),sB,if_neg (by simp)]
    by_cases h14:RO d k 1=RO d k 4
    ·rw [sameR (hc 1 (by decide)) h14,sB,if_neg (by simp)]
     exact KY d y k hd hy ld ly hk hk'
    ·have h15:RO d k 1=RO d k 5:=w3.resolve_left h14
     rw [NF (hc 1 (by decide)) h14,sB,if_pos (by simp),sameR (hc 1 (by decide)) h15,sB,if_neg (by simp)]
     exact KY d y k hd hy ld ly hk hk'
   ·obtain ⟨w1,w2⟩:=q2 hc0
    rw [if_neg (by omega),sB,if_neg (by simp),if_pos hc0,sameR (hc 1 (by decide)) w1,sB,if_neg (by simp),sameR (hc 2 (by decide)) w2,sB,sB,sB,sB,if_neg (by simp),if_neg (by omega)]
    exact KY d y k hd hy ld ly hk hk'
end Go.Proofs.Pq
