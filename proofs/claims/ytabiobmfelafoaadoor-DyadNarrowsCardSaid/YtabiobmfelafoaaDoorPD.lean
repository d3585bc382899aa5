import Derived.Test.YtabiobmfelafoaaDoorPC
namespace Go.Proofs.Pq
set_option linter.unusedVariables false
set_option linter.unusedSimpArgs false
set_option maxRecDepth 4000
open Go.Proofs Go.Sb Go.Proofs.Sbn Go.Proofs.Lf
def VEq (r:Ah) (N:Int) (E:Int):Prop:=(∃s M F,r=nz s M F)∧∀i j:Nat,r.e - E=(i:Int) - j→Z r.m.Neg r.m.Abs*(2^i:Nat)=N*(2^j:Nat)
theorem p2 (k:Nat):(0:Int)<(2^k:Nat):=by have:=Nat.two_pow_pos k;omega
theorem p2add (a b:Nat):((2^(a+b):Nat):Int)=(2^a:Nat)*(2^b:Nat):=by rw [Nat.pow_add,Int.natCast_mul]
theorem Z0 (s:Bool):Z s 0=0:=by cases s<;>rfl
theorem Ij (s:Bool) (M:Nat) (F:Int):VEq (nz s M F) (Z s M) F:=by
 refine ⟨⟨s,M,F,rfl⟩,fun i j hij=>?_⟩
 unfold nz at hij ⊢
 by_cases h0:M=0
 ·subst h0
  rw [if_pos rfl] at hij ⊢
  rw [Z0,Z0,Int.zero_mul,Int.zero_mul]
 ·rw [if_neg h0] at hij ⊢
  simp only at hij ⊢
  obtain ⟨q,hq⟩:=JH M
  have hqd:M/2^tz M=q:=by generalize tz M=z at *;rw [hq,Nat.mul_div_cancel _ (Nat.two_pow_pos z)]
  rw [hqd]
  generalize tz M=z at *
  rw [hq,Dc,show i=z+j by omega,p2add,Int.mul_assoc]
theorem EW (a b:Int):∃i j:Nat,a - b=(i:Int) - j:=⟨(a - b).toNat,(-(a - b)).toNat,by omega⟩
theorem VEq.base {r:Ah} {N N' E E':Int} {p q:Nat} (h:VEq r N E) (hpq:E - E'=(p:Int) - q) (hN:N*(2^p:Nat)=N' * (2^q:Nat)):VEq r N' E':=by
 refine ⟨h.1,fun i j hij=>?_⟩
 obtain ⟨a,b,hab⟩:=EW r.e E
 have h1:=h.2 a b hab
 have h2:=p2 b
 have h3:=p2 p
 have h4:=p2 q
 have e1:Z r.m.Neg r.m.Abs*(2^(a+p):Nat)=N' * (2^(b+q):Nat):=by
  rw [p2add,p2add,←Int.mul_assoc,h1,Int.mul_assoc,Int.mul_comm ((2^b:Nat):Int) ((2^p:Nat):Int),←Int.mul_assoc,hN,Int.mul_assoc,Int.mul_comm ((2^q:Nat):Int)]
 have k1:=(Gz (X:=Z r.m.Neg r.m.Abs) (Y:=N') (a:=a+p) (c:=b+q) (i:=i) (j:=j) (by omega)).1 (Int.le_of_eq e1)
 have k2:=(Gz (X:=N') (Y:=Z r.m.Neg r.m.Abs) (a:=b+q) (c:=a+p) (i:=j) (j:=i) (by omega)).1 (Int.le_of_eq e1.symm)
 exact Int.le_antisymm k1 k2
theorem VEq.cross {r r':Ah} {N N' E:Int} (h:VEq r N E) (h':VEq r' N' E) {i j:Nat} (hij:r.e - r'.e=(i:Int) - j) :
  (Z r.m.Neg r.m.Abs*(2^i:Nat)≤Z r'.m.Neg r'.m.Abs*(2^j:Nat)↔N≤N'):=by
 obtain ⟨a,b,hab⟩:=EW r.e E
 obtain ⟨c,d,hcd⟩:=EW r'.e E
 have h1:=h.2 a b hab
 have h2:=h'.2 c d hcd
 rw [Gz (a:=i) (c:=j) (i:=a+d) (j:=c+b) (by omega),p2add,p2add,←Int.mul_assoc,h1,←Int.mul_assoc,h2,Int.mul_assoc,Int.mul_assoc,Int.mul_comm ((2^d:Nat):Int)]
 have hp:(0:Int)<(2^b:Nat)*(2^d:Nat):=Int.mul_pos (p2 b) (p2 d)
 constructor
 ·intro h;exact Int.le_of_mul_le_mul_right h hp
 ·intro h;exact Int.mul_le_mul_of_nonneg_right h (Int.le_of_lt hp)
theorem VEq.uniq {r r':Ah} {N E:Int} (h:VEq r N E) (h':VEq r' N E):r=r':=by
 obtain ⟨s,M,F,hr⟩:=h.1
 obtain ⟨t,M',F',hr'⟩:=h'.1
 subst hr hr'
 exact nz_eq (fun i j hij=>(h.cross h' hij).2 (Int.le_refl _)) (fun i j hij=>(h'.cross h hij).2 (Int.le_refl _))
def Bd (r:Ah):Prop:=bl r.m.Abs≤9000∧-9000≤r.e∧r.e≤9000
theorem VEq.plus {x y:Ah} {N N' E:Int} (hx:VEq x N E) (hy:VEq y N' E) (bx:Bd x) (by':Bd y):∃r,Be x y=some r∧VEq r (N+N') E∧bl r.m.Abs≤30000∧-9000≤r.e∧r.e≤60000:=by
 have bnz:∀(σ:Bool) (M:Nat) (F:Int),bl M≤30000→-9000≤F→F≤9000→bl (nz σ M F).m.Abs≤30000∧-9000≤(nz σ M F).e∧(nz σ M F).e≤60000:=by
  intro σ M F h1 h2 h3
  unfold nz
  by_cases h0:M=0
  ·rw [if_pos h0];simp only;rw [Dg];omega
  ·rw [if_neg h0];simp only
   have:=Ik M (2^tz M)
   obtain ⟨_,_,hq⟩:=DW h0
   omega
 obtain ⟨⟨s,n⟩,e⟩:=x
 obtain ⟨⟨t,m⟩,f⟩:=y
 obtain ⟨b1,b2,b3⟩:=bx
 obtain ⟨c1,c2,c3⟩:=by'
 simp only at b1 b2 b3 c1 c2 c3
 have zero:∀ {r:Ah} {N:Int},VEq r N E→r.m.Abs=0→N=0:=by
  intro r N h h0
  obtain ⟨a,b,hab⟩:=EW r.e E
  have h1:=h.2 a b hab
  rw [h0,Z0,Int.zero_mul] at h1
  rcases Int.mul_eq_zero.1 h1.symm with h2 | h2
  ·exact h2
  ·have:=p2 b;omega
 by_cases hn:n=0
 ·have:=zero hx hn
  subst hn this
  have hc:nz t m f=⟨⟨t,m⟩,f⟩:=(Ij t m f).uniq (by
   refine ⟨hy.1,fun i j hij=>?_⟩
   simp only at hij ⊢
   rw [show i=j by omega])
  refine ⟨_,plus0l s t m e f (by omega) (by omega) (by omega) (by omega) (by omega),?_,bnz _ _ _ (by omega) (by omega) (by omega)⟩
  rw [hc,Int.zero_add];exact hy
 ·by_cases hm:m=0
  ·have:=zero hy hm
   subst hm this
   have hc:nz s n e=⟨⟨s,n⟩,e⟩:=(Ij s n e).uniq (by
    refine ⟨hx.1,fun i j hij=>?_⟩
    simp only at hij ⊢
    rw [show i=j by omega])
   refine ⟨_,plus0r s t n e f hn (by omega) (by omega) (by omega),?_,bnz _ _ _ (by omega) (by omega) (by omega)⟩
   rw [hc,Int.add_zero];exact hx
  ·obtain ⟨a,ha⟩:∃a:Nat,(e - min e f).toNat=a:=⟨_,rfl⟩
   obtain ⟨c,hc⟩:∃c:Nat,(f - min e f).toNat=c:=⟨_,rfl⟩
   have hp:=plusP s t n m e f hn hm (by omega) (by omega) (by omega) (by omega) (by omega) (by omega) (by omega) (by omega) _ _ rfl rfl
   rw [ha,hc] at hp
   refine ⟨_,hp,?_,bnz _ _ _ ?_ (by omega) (by omega)⟩
   ·obtain ⟨p,q,hpq⟩:=EW (min e f) E
    refine (Ij _ _ _).base hpq ?_
    rw [addZ_Z,Dc,Dc,Int.add_mul,Int.add_mul,Int.mul_assoc,Int.mul_assoc,←p2add,←p2add]
    have h1:=hx.2 (a+p) q (by simp only;omega)
    have h2:=hy.2 (c+p) q (by simp only;omega)
    simp only at h1 h2
    rw [h1,h2]
   ·have e1:bl (n*2^a)≤29000:=by have:=GB n a;omega
    have e2:bl (m*2^c)≤29000:=by have:=GB m c;omega
    have l0:=JY e1 e2
    have hsum:∀X:Nat,X≤n*2^a+m*2^c→bl X≤30000:=fun X hX=>by have:=JX hX;omega
    apply hsum
    unfold addZ
    generalize n*2^a=A
    generalize m*2^c=C
    split
    ·exact Nat.le_refl _
    ·split<;>simp only<;>omega
theorem VEq.cmp {x y:Ah} {N N' E:Int} (hx:VEq x N E) (hy:VEq y N' E) (bx:bl x.m.Abs≤20000∧-1000000≤x.e∧x.e≤1000000) (by':bl y.m.Abs≤20000∧-1000000≤y.e∧y.e≤1000000) :
  ∃c,AP x y=some c∧(c<0↔N<N')∧(0<c↔N' < N):=by
 obtain ⟨c,hc,h⟩:=Pq.cmp x.m.Neg y.m.Neg x.m.Abs y.m.Abs x.e y.e bx.1 by'.1 bx.2.1 bx.2.2 by'.2.1 by'.2.2
 obtain ⟨i,j,hij⟩:=EW x.e y.e
 have h1:=h i j hij
 have h2:=hx.cross hy hij
 have h3:=hy.cross hx (i:=j) (j:=i) (by omega)
 refine ⟨c,hc,?_,?_⟩
 ·rw [h1.1,←Int.not_le,h3,Int.not_le]
 ·rw [h1.2,←Int.not_le,h2,Int.not_le]
theorem VT.veq {d:Af} (h:VT d):VEq (ofD d) (Z d.Man.Neg d.Man.Abs) d.Exp:=by
 rw [canonV h];exact Ij _ _ _
theorem VT.of {r:Ah} (h:Cb r):VT (toD r):=(outOK h).2
end Go.Proofs.Pq
namespace Go.Proofs.Pq
set_option linter.unusedVariables false
set_option linter.unusedSimpArgs false
set_option maxRecDepth 4000
open Go.Proofs Go.Sb Go.Proofs.Sbn Go.Proofs.Lf
theorem Mr (s:Bool) (M b:Nat) (e dir:Int) (hM:bl M≤20000) (hb:1≤b) (hb':b≤4096) (he : -900000≤e) (he':e≤900000) :
  ∃r,As (nz s M e) (b:Int) dir false=some r∧Cb r:=by
 by_cases hM0:M=0
 ·subst hM0
  refine ⟨⟨⟨false,0⟩,0⟩,?_,by decide,by decide,by decide,false,0,0,rfl⟩
  unfold nz
  rw [if_pos rfl]
  unfold As
  rw [wBits (show Sm 0 from sm0),sB,Dg,w64 (x:=((0:Nat):Int) - (b:Int)) (by omega) (by omega),if_pos (by omega),sB,if_pos (by decide)]
  rfl
 ·obtain ⟨q,hq,hqb⟩:=DW hM0
  have hp:=Nat.two_pow_pos (tz M)
  have hqd:M/2^tz M=2*q+1:=by generalize tz M=z at *;rw [hq,Nat.mul_div_cancel_left _ hp]
  have hbl:bl M=bl (2*q+1)+tz M:=by
   have:=Jl (n:=2*q+1) (k:=tz M) (by omega)
   rw [Nat.mul_comm] at this
   generalize tz M=z at *;rw [hq];exact this
  have hnz:nz s M e=⟨⟨s,2*q+1⟩,e+tz M⟩:=by unfold nz;rw [if_neg hM0,hqd]
  by_cases h:bl (2*q+1)≤b
  ·refine ⟨nz s M e,?_,?_⟩
   ·rw [hnz]
    unfold As
    rw [wBits (by unfold Sm;simp only;omega),sB,w64 (x:=(bl (2*q+1):Int) - (b:Int)) (by omega) (by omega),if_pos (by omega),sB,if_pos (by decide),normal _ _ _ (by unfold Sm;omega) (by simp only;omega) (by simp only;omega),KK (by omega)]
    rfl
   ·rw [hnz]
    refine ⟨by simp only;omega,by simp only;omega,by simp only;omega,s,M,e,hnz.symm⟩
  ·have hpr:=Mj s (2*q+1) b (e+tz M) dir (by omega) hb (by omega) (by omega) (by omega)
   refine ⟨_,by rw [hnz];exact hpr,?_⟩
   have hqn:2*q+1≠0:=by omega
   have h2:=(Cc hqn).2.1
   have h3:(2*q+1)/2^(bl (2*q+1) - b)<2^b:=by
    rw [Nat.div_lt_iff_lt_mul (Nat.two_pow_pos _),←Nat.pow_add,show b+(bl (2*q+1) - b)=bl (2*q+1) by omega];exact h2
   have h4:∀c:Bool,(if c=true then 1 else 0)≤1:=by intro c;cases c<;>decide
   unfold rn
   generalize hG:(2*q+1)/2^(bl (2*q+1) - b)+(if up (decide ((2*q+1)%2^(bl (2*q+1) - b)=0)) (sgnc (2*((2*q+1)%2^(bl (2*q+1) - b))) (2^(bl (2*q+1) - b))) (decide ((2*q+1)/2^(bl (2*q+1) - b)%2=1)) s dir=true then 1 else 0)=G
   have hGb:G≤2^b:=by rw [←hG];exact Nat.le_trans (Nat.add_le_add_left (h4 _) _) h3
   have hGl:bl G≤b+1:=by rw [Dw,Nat.pow_succ];have:=Nat.two_pow_pos b;omega
   refine ⟨?_,?_,?_,s,G,_,rfl⟩
   all_goals
    unfold nz
    by_cases hG0:G=0
    ·rw [if_pos hG0];simp only;first | (rw [Dg];omega) | omega
    ·rw [if_neg hG0];simp only
     have:=Ik G (2^tz G)
     obtain ⟨_,_,hq2⟩:=DW hG0
     omega
theorem plusC (x y:Af) (hxs:bl x.Man.Abs≤9000) (hys:bl y.Man.Abs≤9000) (h1 : -5000≤x.Exp) (h2:x.Exp≤5000) (h3 : -5000≤y.Exp) (h4:y.Exp≤5000) :
  ∃σ M E,Be (ofD x) (ofD y)=some (nz σ M E)∧bl M≤20000∧-5000≤E∧E≤5000:=by
 obtain ⟨⟨s,n⟩,e⟩:=x
 obtain ⟨⟨t,m⟩,f⟩:=y
 simp only at hxs hys h1 h2 h3 h4
 by_cases hn:n=0
 ·subst hn
  exact ⟨t,m,f,plus0l s t m e f (by omega) (by omega) (by omega) (by omega) (by omega),by omega,h3,h4⟩
 ·by_cases hm:m=0
  ·subst hm
   exact ⟨s,n,e,plus0r s t n e f hn (by omega) (by omega) (by omega),by omega,h1,h2⟩
  ·refine ⟨_,_,_,plusP s t n m e f hn hm (by omega) (by omega) (by omega) (by omega) (by omega) (by omega) (by omega) (by omega) _ _ rfl rfl,?_,by omega,by omega⟩
   obtain ⟨a,ha⟩:∃a:Nat,(e - min e f).toNat=a:=⟨_,rfl⟩
   obtain ⟨c,hc⟩:∃c:Nat,(f - min e f).toNat=c:=⟨_,rfl⟩
   rw [ha,hc]
   have e1:bl (n*2^a)≤19000:=by have:=GB n a;omega
   have e2:bl (m*2^c)≤19000:=by have:=GB m c;omega
   generalize n*2^a=A at *
   generalize m*2^c=C at *
   have l0:=JY e1 e2
   have hsum:∀X:Nat,X≤A+C→bl X≤20000:=fun X hX=>by have:=JX hX;omega
   apply hsum
   unfold addZ
   split
   ·exact Nat.le_refl _
   ·split<;>simp only<;>omega
theorem timesC (x y:Af) (hxs:bl x.Man.Abs≤9000) (hys:bl y.Man.Abs≤9000) (h1 : -5000≤x.Exp) (h2:x.Exp≤5000) (h3 : -5000≤y.Exp) (h4:y.Exp≤5000) :
  ∃σ M E,Cd (ofD x) (ofD y)=some (nz σ M E)∧bl M≤18000∧-10000≤E∧E≤10000:=by
 obtain ⟨⟨s,n⟩,e⟩:=x
 obtain ⟨⟨t,m⟩,f⟩:=y
 simp only at hxs hys h1 h2 h3 h4
 have hM:bl (n*m)≤18000:=by have:=Lh n m;omega
 refine ⟨decide (¬s=t),n*m,e+f,?_,hM,by omega,by omega⟩
 unfold Cd Fc ofD
 simp only
 rw [wMul (by unfold Sm;omega) (by unfold Sm;omega),sB,sB,w64 (x:=e+f) (by omega) (by omega),normal _ _ _ (by unfold Sm;omega) (by omega) (by omega)];rfl
end Go.Proofs.Pq
namespace Go.Proofs.Pq
set_option linter.unusedVariables false
set_option linter.unusedSimpArgs false
set_option maxRecDepth 4000
open Go.Proofs Go.Sb Go.Proofs.Sbn Go.Proofs.Lf
def inc (N D:Nat) (s:Bool) (dir:Int):Nat:=if up (decide (N%D=0)) (sgnc (2*(N%D)) D) (decide (N/D%2=1)) s dir=true then 1 else 0
theorem Kh (N D:Nat) (s:Bool) (dir:Int):inc N D s dir≤1:=by unfold inc;split<;>decide
theorem Ns {N D:Nat} {s:Bool} {dir:Int} (h:N%D=0):inc N D s dir=0:=by
 unfold inc;rw [decide_eq_true h];rfl
theorem HK (s:Bool) (N D:Nat) (e dir:Int):rn s N D e dir=nz s (N/D+inc N D s dir) e:=rfl
theorem up_mono {z z':Bool} {h h':Int} {o s:Bool} {dir:Int} (hz:z'=true→z=true) (hh:h≤h') (hu:up z h o s dir=true):up z' h' o s dir=true:=by
 have hz0:z=false:=by
  cases z
  ·rfl
  ·unfold up at hu;cases hu
 have hz1:z'=false:=by
  cases z'
  ·rfl
  ·rw [hz rfl] at hz0;cases hz0
 subst hz0 hz1
 unfold up at hu ⊢
 simp only [Bool.false_eq_true,if_false] at hu ⊢
 by_cases d1:dir=1
 ·rw [if_pos d1] at hu ⊢
  simp only [Bool.or_eq_true,Bool.and_eq_true,decide_eq_true_eq] at hu ⊢
  rcases hu with h1 | ⟨h1,h2⟩
  ·left;omega
  ·rcases Int.lt_or_eq_of_le (show (0:Int)≤h' by omega) with h3 | h3
   ·left;exact h3
   ·right;exact ⟨h3.symm,h2⟩
 ·rw [if_neg d1] at hu ⊢
  by_cases d2:dir=2
  ·rw [if_pos d2] at hu ⊢
   simp only [decide_eq_true_eq] at hu ⊢;omega
  ·rw [if_neg d2] at hu ⊢;exact hu
theorem LY (a b:Nat) : -1≤sgnc a b∧sgnc a b≤1∧(sgnc a b<0↔a<b)∧(0<sgnc a b↔b<a):=by unfold sgnc;split<;>(try split)<;>omega
theorem sgnc_le {a b c d:Nat} (h:a*d≤c*b) (hb:0<b) (hd:0<d):sgnc a b≤sgnc c d:=by
 have x1:=LY a b
 have x2:=LY c d
 have y1:b≤a→d≤c:=fun h1=>by
  have h3:b*d≤a*d:=Nat.mul_le_mul_right _ h1
  have h4:d*b≤c*b:=by rw [Nat.mul_comm d b];omega
  exact Nat.le_of_mul_le_mul_right h4 hb
 have y2:b<a→d<c:=fun h5=>by
  refine Nat.lt_of_not_le fun h7=>?_
  have h8:c=d:=Nat.le_antisymm h7 (y1 (Nat.le_of_lt h5))
  subst h8
  have h9:b*c<a*c:=Nat.mul_lt_mul_of_pos_right h5 hd
  rw [Nat.mul_comm b c] at h9;omega
 omega
theorem JR {N D N' D' b k k' i j:Nat} {e e' dir:Int} {s:Bool} (hD:0<D) (hD':0<D') (hb:0<b)
  (h1:N/D<2^b) (h2:2^(b - 1)≤N/D) (h1':N' / D' < 2^b) (h2':2^(b - 1)≤N' / D')
  (he:e - k=e' - k') (h:N*D' * 2^k≤N' * D*2^k') (hij:e - e'=(i:Int) - j) :
  (N/D+inc N D s dir)*2^i≤(N' / D' + inc N' D' s dir)*2^j:=by
 have hm:=Nat.div_add_mod N D
 have hm':=Nat.div_add_mod N' D'
 have hr:=Nat.mod_lt N hD
 have hr':=Nat.mod_lt N' hD'
 have hi:=Kh N D s dir
 have hmono:=Jo hD hD' hb h1 h2 h1' h2' he h hij
 rcases Int.lt_trichotomy e e' with hl | hl | hl
 ·refine Nat.le_trans (Nat.mul_le_mul_right _ (Nat.add_le_add_left hi _)) (Nat.le_trans ?_ (Nat.mul_le_mul_right _ (Nat.le_add_right _ _)))
  obtain ⟨q,hq⟩:∃q,j=i+1+q:=⟨j - i - 1,by omega⟩
  calc (N/D+1)*2^i≤2^b*2^i:=Nat.mul_le_mul_right _ h1
   _=2^(b - 1)*2^(i+1):=by rw [←Nat.pow_add,←Nat.pow_add];congr 1;omega
   _≤2^(b - 1)*2^j:=Nat.mul_le_mul_left _ (Nat.pow_le_pow_right (by decide) (by omega))
   _≤N' / D' * 2^j:=Nat.mul_le_mul_right _ h2'
 ·have hk:k=k':=by omega
  have hij2:i=j:=by omega
  subst hk hij2
  have h3:N*D'≤N' * D:=Nat.le_of_mul_le_mul_right h (Nat.two_pow_pos k)
  have h4:N/D≤N' / D':=Nat.le_of_mul_le_mul_right hmono.1 (Nat.two_pow_pos i)
  refine Nat.mul_le_mul_right _ ?_
  rcases Nat.lt_or_eq_of_le h4 with h5 | h5
  ·exact Nat.le_trans (Nat.add_le_add_left hi _) (Nat.le_trans h5 (Nat.le_add_right _ _))
  ·rw [←h5]
   refine Nat.add_le_add_left ?_ _
   have h6:N%D*D'≤N' % D' * D:=by
    have e1:N*D'=D*(N/D)*D' + N%D*D':=by rw [←Nat.add_mul,hm]
    have e2:N' * D=D' * (N' / D')*D+N' % D' * D:=by rw [←Nat.add_mul,hm']
    have e3:D*(N/D)*D'=D' * (N' / D')*D:=by rw [←h5];simp only [Nat.mul_assoc,Nat.mul_comm,Nat.mul_left_comm]
    omega
   unfold inc
   by_cases hu:up (decide (N%D=0)) (sgnc (2*(N%D)) D) (decide (N/D%2=1)) s dir=true
   ·have hu2:=up_mono (z':=decide (N' % D'=0)) (h':=sgnc (2*(N' % D')) D') (fun hz=>by
     have hz:=of_decide_eq_true hz
     rw [hz,Nat.zero_mul] at h6
     rcases Nat.mul_eq_zero.1 (Nat.le_zero.1 h6) with h7 | h7
     ·exact decide_eq_true h7
     ·omega) (sgnc_le (by rw [Nat.mul_assoc,Nat.mul_assoc];exact Nat.mul_le_mul_left _ h6) hD hD') hu
    rw [if_pos hu,←h5,if_pos hu2];exact Nat.le_refl _
   ·rw [if_neg hu];exact Nat.zero_le _
 ·have h9:=hmono.1
  exfalso
  obtain ⟨q,hq⟩:∃q,k=k' + (q+1):=⟨k - k' - 1,by omega⟩
  rw [hq,Nat.pow_add,Nat.mul_comm (2^k') (2^(q+1)),←Nat.mul_assoc] at h
  have h3:=Nat.le_of_mul_le_mul_right h (Nat.two_pow_pos k')
  have a1:N' < 2^b*D':=by rwa [Nat.div_lt_iff_lt_mul hD'] at h1'
  have a2:2^(b - 1)*D≤N:=by rwa [Nat.le_div_iff_mul_le hD] at h2
  have a4:N' * D<2^b*D' * D:=Nat.mul_lt_mul_of_pos_right a1 hD
  have a5:2^(b - 1)*D*D' * 2≤N*D' * 2^(q+1):=by
   apply Nat.mul_le_mul (Nat.mul_le_mul_right _ a2)
   rw [Nat.pow_succ];have:=Nat.two_pow_pos q;omega
  have a3:2^b=2^(b - 1)*2:=by rw [←Nat.pow_succ];congr 1;omega
  rw [a3] at a4
  generalize 2^(b - 1)=P at *
  have:P*2*D' * D=P*D*D' * 2:=by simp only [Nat.mul_assoc,Nat.mul_comm,Nat.mul_left_comm]
  omega
def RO (d:Af) (k:Nat) (dir:Int):Ah:=
 if d.Man.Abs=0 then ⟨⟨false,0⟩,0⟩ else rn d.Man.Neg (d.Man.Abs*2^(k - bl d.Man.Abs)) (2^(bl d.Man.Abs - k)) (d.Exp+((bl d.Man.Abs - k:Nat):Int) - ((k - bl d.Man.Abs:Nat):Int)) dir
theorem GR {d:Af} {k:Nat} {dir:Int} (hd:VT d) (h:bl d.Man.Abs≤k):RO d k dir=ofD d:=by
 unfold RO
 by_cases h0:d.Man.Abs=0
 ·obtain ⟨h1,h2⟩:=hd.z h0
  obtain ⟨⟨s,n⟩,e⟩:=d
  simp only at h0 h1 h2
  subst h0 h1 h2;rfl
 ·rw [if_neg h0,HK,show bl d.Man.Abs - k=0 by omega,Nat.pow_zero,Nat.div_one,Ns (Nat.mod_one _),Nat.add_zero,canonV hd]
  exact Lq _ _ _ _ _ (by omega)
theorem ID {n k:Nat} (h0:n≠0) (hk:1≤k):n*2^(k - bl n)/2^(bl n - k)<2^k∧2^(k - 1)≤n*2^(k - bl n)/2^(bl n - k):=by
 obtain ⟨a1,a2,a3⟩:=Cc h0
 constructor
 ·rw [Nat.div_lt_iff_lt_mul (Nat.two_pow_pos _),←Nat.pow_add]
  calc n*2^(k - bl n)<2^bl n*2^(k - bl n):=Nat.mul_lt_mul_of_pos_right a2 (Nat.two_pow_pos _)
   _=2^(k+(bl n - k)):=by rw [←Nat.pow_add];congr 1;omega
 ·rw [Nat.le_div_iff_mul_le (Nat.two_pow_pos _),←Nat.pow_add]
  calc 2^(k - 1+(bl n - k))=2^(bl n - 1)*2^(k - bl n):=by rw [←Nat.pow_add];congr 1;omega
   _≤n*2^(k - bl n):=Nat.mul_le_mul_right _ a1
theorem Jr (d:Af) (k:Nat) (dir:Int) (hd:VT d) (ld:Lt d) (hk:1≤k) (hk':k≤4096) (hdir:1≤dir∧dir≤5):Ev (toL d) (k:Int) dir=some (toD (RO d k dir),0)∧Cb (RO d k dir):=by
 have key:As (ofD d) (k:Int) dir false=some (RO d k dir)∧Cb (RO d k dir):=by
  obtain ⟨r,r1,r3⟩:=Mr d.Man.Neg d.Man.Abs k d.Exp dir (by have:=ld.2;omega) hk hk' (by have:=ld.1.l;omega) (by have:=ld.1.u;omega)
  rw [←canonV hd] at r1
  have hr:r=RO d k dir:=by
   by_cases h:bl d.Man.Abs≤k
   ·rw [GR hd h]
    have h1:As (ofD d) (k:Int) dir false=some (ofD d):=by
     unfold As ofD
     rw [wBits (show Sm d.Man.Abs from hd.sm),sB,w64 (x:=(bl d.Man.Abs:Int) - (k:Int)) (by have:=ld.2;omega) (by have:=ld.2;omega),if_pos (by omega),sB,if_pos (by decide),normal _ _ _ hd.sm (by have:=ld.1.l;simp only;omega) (by have:=ld.1.u;simp only;omega)]
     have:=canonV hd
     unfold ofD at this
     show some (nz d.Man.Neg d.Man.Abs d.Exp)=_
     rw [this]
    exact Option.some.inj (r1.symm.trans h1)
   ·have h0:d.Man.Abs≠0:=by intro h0;rw [h0,Dg] at h;omega
    have h1:=Mj d.Man.Neg d.Man.Abs k d.Exp dir (by have:=ld.2;omega) hk (by omega) (by have:=ld.1.l;omega) (by have:=ld.1.u;omega)
    have h2:r=_:=Option.some.inj (r1.symm.trans h1)
    rw [h2]
    unfold RO
    rw [if_neg h0,show k - bl d.Man.Abs=0 by omega,Nat.pow_zero,Nat.mul_one]
    congr 1
    omega
  rw [hr] at r1 r3
  exact ⟨r1,r3⟩
 refine ⟨?_,key.2⟩
 have hf:=fineP (k:Int)
 rw [if_pos (show 1≤(k:Int)∧(k:Int)≤4096 by omega)] at hf
 have hdr:DZ dir=some (.ok ()):=by
  unfold DZ
  rw [if_pos hdir.1,sB,decide_eq_true hdir.2];rfl
 unfold Ev Ga
 rw [Ml hd,mbo,hf,mbo,hdr,mbo,toNT,sB,inT,sB,key.1,sB,(outOK key.2).1,mbo]
 rfl
end Go.Proofs.Pq
namespace Go.Proofs.Pq
set_option linter.unusedVariables false
set_option linter.unusedSimpArgs false
set_option maxRecDepth 4000
open Go.Proofs Go.Sb Go.Proofs.Sbn Go.Proofs.Lf
def Bm (r:Ah):Prop:=bl r.m.Abs≤20000∧-1000000≤r.e∧r.e≤1000000
theorem Cb.bm {r:Ah} (h:Cb r):Bm r:=⟨h.1,h.2.1,h.2.2.1⟩
theorem Lt.bm {d:Af} (h:Lt d):Bm (ofD d):=⟨by have:=h.2;show bl d.Man.Abs≤_;omega,by have:=h.1.l;show _≤d.Exp;omega,by have:=h.1.u;show d.Exp≤_;omega⟩
theorem Cmp_ok (x y:Af) (hx:VT x) (hy:VT y) {c:Int} (h:AP (ofD x) (ofD y)=some c):FX (toL x) (toL y)=some (c,0):=by
 unfold FX HC
 rw [Jy hx hy,mbo,toNT,sB,inT,sB,toNT,sB,inT,sB,h,sB];rfl
theorem Kv (x y:Af) (hx:VT x) (hy:VT y) (bx:Bm (ofD x)) (by':Bm (ofD y)):∃v,CY x y=some v∧(v=true→LeV (ofD x) (ofD y))∧(v=false→LeV (ofD y) (ofD x))∧(LeV (ofD x) (ofD y)→v=true):=by
 obtain ⟨c,hc,c1,c2⟩:=MB (ofD x) (ofD y) bx.1 by'.1 bx.2.1 bx.2.2 by'.2.1 by'.2.2
 refine ⟨decide (c≤0),?_,fun h=>c2.1 (by have:=of_decide_eq_true h;omega),fun h=>c1.1 (by have:=of_decide_eq_false h;omega),fun h=>decide_eq_true (by have:=c2.2 h;omega)⟩
 unfold CY
 rw [show FX ⟨⟨x.Man.Neg,limbs x.Man.Abs⟩,x.Exp⟩ ⟨⟨y.Man.Neg,limbs y.Man.Abs⟩,y.Exp⟩=_ from Cmp_ok x y hx hy hc]
 rfl
theorem Ln (x y:Af) (hx:VT x) (hy:VT y) (k:Nat) (dir:Int) (hk:1≤k) (h:LeV (ofD x) (ofD y)):LeV (RO x k dir) (RO y k dir):=by
 obtain ⟨⟨s,n⟩,e⟩:=x
 obtain ⟨⟨t,m⟩,f⟩:=y
 have h:∀i j:Nat,e - f=(i:Int) - j→Z s n*(2^i:Nat)≤Z t m*(2^j:Nat):=h
 have nz0:∀(σ:Bool) (F:Int),nz σ 0 F=⟨⟨false,0⟩,0⟩:=fun _ _=>rfl
 unfold RO
 simp only
 by_cases hn:n=0<;>by_cases hm:m=0
 ·rw [if_pos hn,if_pos hm]
  intro i j _
  show Z false 0*_≤Z false 0*_
  rw [Z0,Int.zero_mul,Int.zero_mul];exact Int.le_refl _
 ·obtain ⟨i,j,hij⟩:=EW e f
  have h1:=h i j hij
  rw [hn,Z0,Int.zero_mul,(GN t (Nat.two_pow_pos j)).1,(Le hm).1] at h1
  rw [if_pos hn,if_neg hm,HK,h1,←nz0 false (f+((bl m - k:Nat):Int) - ((k - bl m:Nat):Int))]
  refine Gn (i:=0) (j:=0) (by omega) ?_
  rw [Z0,Int.zero_mul]
  exact (GN false (Nat.two_pow_pos 0)).1.2 (by unfold Z;rw [if_neg (by decide)];exact Int.natCast_nonneg _)
 ·obtain ⟨i,j,hij⟩:=EW e f
  have h1:=h i j hij
  rw [hm,Z0,Int.zero_mul,(GN s (Nat.two_pow_pos i)).2,(Le hn).2] at h1
  rw [if_neg hn,if_pos hm,HK,h1,←nz0 false (e+((bl n - k:Nat):Int) - ((k - bl n:Nat):Int))]
  refine Gn (i:=0) (j:=0) (by omega) ?_
  rw [Z0,Int.zero_mul]
  exact (GN true (Nat.two_pow_pos 0)).2.2 (by unfold Z;rw [if_pos rfl];exact Int.neg_nonpos_of_nonneg (Int.natCast_nonneg _))
 ·rw [if_neg hn,if_neg hm,HK,HK]
  obtain ⟨a1,a2⟩:=ID hn hk
  obtain ⟨b1,b2⟩:=ID hm hk
  obtain ⟨A,hA⟩:∃A,k - bl n=A:=⟨_,rfl⟩
  obtain ⟨B,hB⟩:∃B,bl n - k=B:=⟨_,rfl⟩
  obtain ⟨A',hA'⟩:∃A',k - bl m=A':=⟨_,rfl⟩
  obtain ⟨B',hB'⟩:∃B',bl m - k=B':=⟨_,rfl⟩
  rw [hA,hB] at a1 a2 ⊢
  rw [hA',hB'] at b1 b2 ⊢
  obtain ⟨p,q,hpq⟩:=EW (e+(B:Int) - (A:Int)) (f+(B':Int) - (A':Int))
  have h1:=h (A+B' + p) (A' + B+q) (by omega)
  have hD:=Nat.two_pow_pos B
  have hD':=Nat.two_pow_pos B'
  have e1:n*2^A*2^B' * 2^p=n*2^(A+B' + p):=by rw [Nat.pow_add,Nat.pow_add];simp only [Nat.mul_assoc]
  have e2:m*2^A' * 2^B*2^q=m*2^(A' + B+q):=by rw [Nat.pow_add,Nat.pow_add];simp only [Nat.mul_assoc]
  rw [←Dc,←Dc,←e1,←e2] at h1
  cases s
  ·cases t
   ·refine Gn hpq ?_
    rw [←Dc,←Dc]
    exact HR.1.2 (JR hD hD' (by omega) a1 a2 b1 b2 (k:=p) (k':=q) (by omega) (HR.1.1 h1) hpq)
   ·exfalso
    have q1:0<n*2^A*2^B' * 2^p:=Nat.mul_pos (Nat.mul_pos (Nat.mul_pos (by omega) (Nat.two_pow_pos _)) hD') (Nat.two_pow_pos _)
    generalize n*2^A*2^B' * 2^p=X at *
    generalize m*2^A' * 2^B*2^q=Y at *
    simp only [Z,if_true,Bool.false_eq_true,if_false] at h1
    omega
  ·cases t
   ·refine Gn hpq ?_
    rw [←Dc,←Dc];exact Z_tf _ _
   ·refine Gn hpq ?_
    rw [←Dc,←Dc]
    exact HR.2.2 (JR (e:=f+(B':Int) - (A':Int)) (e':=e+(B:Int) - (A:Int)) hD' hD (by omega) b1 b2 a1 a2 (k:=q) (k':=p) (by omega) (HR.2.1 h1) (by omega))
def Lt2 (d:Af):Prop:=bl d.Man.Abs≤1930∧-3000≤d.Exp∧d.Exp≤3000
end Go.Proofs.Pq
namespace Go.Proofs.Pq
set_option linter.unusedVariables false
set_option linter.unusedSimpArgs false
set_option maxRecDepth 4000
open Go.Proofs Go.Sb Go.Proofs.Sbn Go.Proofs.Lf
theorem MD {d:Af} (hd:VT d) (h1:bl d.Man.Abs≤9000) (h2 : -5000≤d.Exp) (h3:d.Exp≤5000):Lt d:=⟨⟨fun h=>(hd.z h).1,by omega,h2,h3⟩,h1⟩
theorem Lt2.lt {d:Af} (hd:VT d) (h:Lt2 d):Lt d:=MD hd (by have:=h.1;omega) (by have:=h.2.1;omega) (by have:=h.2.2;omega)
theorem Cb.sm {r:Ah} (h:Cb r):Sm (toD r).Man.Abs:=(outOK h).2.sm
end Go.Proofs.Pq
namespace Go.Proofs.Pq
set_option linter.unusedVariables false
set_option linter.unusedSimpArgs false
set_option maxRecDepth 4000
open Go.Proofs Go.Sb Go.Proofs.Sbn Go.Proofs.Lf
theorem inc_vals {N D:Nat} (s:Bool) (h:N%D≠0):inc N D s 5=(if s=true then 1 else 0)∧inc N D s 4=(if s=true then 0 else 1)∧inc N D s 3=0∧
  inc N D s 2=(if 0≤sgnc (2*(N%D)) D then 1 else 0)∧(0<sgnc (2*(N%D)) D→inc N D s 1=1)∧(sgnc (2*(N%D)) D<0→inc N D s 1=0)∧inc N D s 1≤1:=by
 refine ⟨?_,?_,?_,?_,?_,?_,Kh _ _ _ _⟩
 all_goals
  unfold inc up
  rw [decide_eq_false h]
  simp only [Bool.false_eq_true,if_false]
  generalize sgnc (2*(N%D)) D=c
 ·cases s<;>rfl
 ·cases s<;>rfl
 ·simp
 ·simp
 ·intro hc
  simp [hc]
 ·intro hc
  have h1:¬0<c:=by omega
  have h2:¬c=0:=by omega
  simp [h1,h2]
theorem Mw {d:Af} {k:Nat} {dir:Int} (h:k<bl d.Man.Abs):RO d k dir=nz d.Man.Neg (d.Man.Abs/2^(bl d.Man.Abs - k)+inc d.Man.Abs (2^(bl d.Man.Abs - k)) d.Man.Neg dir) (d.Exp+((bl d.Man.Abs - k:Nat):Int)):=by
 unfold RO
 by_cases h0:d.Man.Abs=0
 ·rw [h0,Dg] at h;omega
 ·rw [if_neg h0,HK,show k - bl d.Man.Abs=0 by omega,Nat.pow_zero,Nat.mul_one]
  congr 1
  omega
theorem RO_v {d:Af} {k:Nat} {dir:Int} (h:k<bl d.Man.Abs):VEq (RO d k dir) (Z d.Man.Neg ((d.Man.Abs/2^(bl d.Man.Abs - k)+inc d.Man.Abs (2^(bl d.Man.Abs - k)) d.Man.Neg dir)*2^(bl d.Man.Abs - k))) d.Exp:=by
 rw [Mw h]
 refine (Ij _ _ _).base (p:=bl d.Man.Abs - k) (q:=0) (by omega) ?_
 rw [Dc,Nat.pow_zero]
 omega
theorem VEq.inj {r:Ah} {N N' E:Int} (h:VEq r N E) (h':VEq r N' E):N=N':=by
 have h1:=(h.cross h' (i:=0) (j:=0) (by omega)).1 (Int.le_refl _)
 have h2:=(h'.cross h (i:=0) (j:=0) (by omega)).1 (Int.le_refl _)
 omega
end Go.Proofs.Pq
namespace Go.Proofs.Pq
set_option linter.unusedVariables false
set_option linter.unusedSimpArgs false
set_option maxRecDepth 4000
open Go.Proofs Go.Sb Go.Proofs.Sbn Go.Proofs.Lf
theorem nearB (x y:Ah) (bx:Bd x) (by':Bd y):EJ x y=some true:=by
 obtain ⟨⟨s,n⟩,e⟩:=x
 obtain ⟨⟨t,m⟩,f⟩:=y
 obtain ⟨hxs,h1,h2⟩:=bx
 obtain ⟨hys,h3,h4⟩:=by'
 simp only at hxs hys h1 h2 h3 h4
 unfold EJ
 rw [sign,sB]
 by_cases hn:n=0
 ·rw [if_pos (by rw [if_pos hn])];rfl
 ·rw [if_neg (by rw [if_neg hn];split<;>decide),sign,sB,sB]
  by_cases hm:m=0
  ·rw [if_pos hm];rfl
  ·rw [decide_eq_false (by rw [if_neg hm];split<;>decide),if_neg (by decide)]
   unfold BU
   simp only
   rw [wBits (show Sm n by unfold Sm;omega),sB,sB,wBits (show Sm m by unfold Sm;omega),sB,sB]
   rw [w64 (x:=(bl n:Int) - 1) (by omega) (by omega),w64 (x:=(bl n:Int) - 1+e) (by omega) (by omega),w64 (x:=(bl m:Int) - 1) (by omega) (by omega),w64 (x:=(bl m:Int) - 1+f) (by omega) (by omega)]
   rw [w64 (x:=max ((bl n:Int) - 1+e) ((bl m:Int) - 1+f) - min e f) (by omega) (by omega),decide_eq_true (by omega)]
structure EX (d:Af) (N E:Int) (B m:Nat):Prop where
 v:VT d
 e:VEq (ofD d) N E
 b:N.natAbs<2^B
 m:bl d.Man.Abs≤m
theorem VEq.small {d:Af} {N E:Int} {B:Nat} (h:VEq (ofD d) N E) (hv:VT d) (hN:N.natAbs<2^B):d.Man.Abs=0∨(E≤d.Exp∧d.Exp+bl d.Man.Abs≤E+B):=by
 by_cases h0:d.Man.Abs=0
 ·exact Or.inl h0
 ·refine Or.inr ?_
  have hodd:=(hv.o h0).1
  have hE:E≤d.Exp:=by
   refine Int.not_lt.1 fun hlt=>?_
   obtain ⟨j,hj⟩:∃j:Nat,E - d.Exp=(j:Int)+1:=⟨(E - d.Exp - 1).toNat,by omega⟩
   have h1:=h.2 0 (j+1) (by show d.Exp - E=_;omega)
   rw [Nat.pow_succ,Nat.pow_zero] at h1
   have h2:Z d.Man.Neg d.Man.Abs=N*(2^j:Nat)*2:=by
    have e1:((2^j*2:Nat):Int)=(2^j:Nat)*2:=by rw [Int.natCast_mul];rfl
    have e2:Z (ofD d).m.Neg (ofD d).m.Abs=Z d.Man.Neg d.Man.Abs:=rfl
    rw [e1,e2,←Int.mul_assoc] at h1
    simpa using h1
   generalize N*((2^j:Nat):Int)=X at h2
   unfold Z at h2
   split at h2<;>omega
  obtain ⟨i,hi⟩:∃i:Nat,d.Exp - E=(i:Int):=⟨(d.Exp - E).toNat,by omega⟩
  have h1:=h.2 i 0 (by show d.Exp - E=_;omega)
  have h2:Z d.Man.Neg d.Man.Abs*(2^i:Nat)=N:=by
   have e2:Z (ofD d).m.Neg (ofD d).m.Abs=Z d.Man.Neg d.Man.Abs:=rfl
   rw [e2,Nat.pow_zero] at h1
   simpa using h1
  have h3:N.natAbs=d.Man.Abs*2^i:=by
   rw [←h2,Int.natAbs_mul,Int.natAbs_natCast]
   congr 1
   unfold Z;split
   ·rw [Int.natAbs_neg,Int.natAbs_natCast]
   ·rw [Int.natAbs_natCast]
  rw [h3] at hN
  obtain ⟨a1,a2,a3⟩:=Cc h0
  have h4:2^(bl d.Man.Abs - 1+i)<2^B:=by
   rw [Nat.pow_add]
   exact Nat.lt_of_le_of_lt (Nat.mul_le_mul_right _ a1) hN
  have h5:=(Nat.pow_lt_pow_iff_right (by decide:1<2)).1 h4
  omega
theorem EX.bd {d:Af} {N E:Int} {B m:Nat} (h:EX d N E B m) (hm:m≤9000) (h1 : -9000≤E) (h2:E+B≤9000):Bd (ofD d):=by
 have hmm:=h.m
 refine ⟨by show bl d.Man.Abs≤_;omega,?_,?_⟩
 ·show _≤d.Exp
  rcases h.e.small h.v h.b with h0 | h0
  ·rw [(h.v.z h0).2];omega
  ·omega
 ·show d.Exp≤_
  rcases h.e.small h.v h.b with h0 | h0
  ·rw [(h.v.z h0).2];omega
  ·omega
theorem EX.lt {d:Af} {N E:Int} {B m:Nat} (h:EX d N E B m) (hm:m≤9000) (h1 : -5000≤E) (h2:E+B≤5000):Lt d:=by
 have hmm:=h.m
 refine ⟨⟨fun h0=>(h.v.z h0).1,by omega,?_,?_⟩,by omega⟩
 ·rcases h.e.small h.v h.b with h0 | h0
  ·rw [(h.v.z h0).2];omega
  ·omega
 ·rcases h.e.small h.v h.b with h0 | h0
  ·rw [(h.v.z h0).2];omega
  ·omega
theorem EX.uniq {x y:Af} {N E:Int} {B m B' m':Nat} (h:EX x N E B m) (h':EX y N E B' m'):x=y:=by
 have:=h.e.uniq h'.e
 obtain ⟨⟨s,n⟩,e⟩:=x
 obtain ⟨⟨t,k⟩,f⟩:=y
 have e1:=congrArg (fun r:Ah=>(⟨r.m,r.e⟩:Af)) this
 exact e1
theorem EX.base {x:Af} {N E:Int} {B m:Nat} (h:EX x N E B m) (k:Nat):EX x (N*(2^k:Nat)) (E - k) (B+k) m:=by
 refine ⟨h.v,h.e.base (p:=k) (q:=0) (by omega) (by rw [Nat.pow_zero];omega),?_,h.m⟩
 rw [Int.natAbs_mul,Int.natAbs_natCast,Nat.pow_add]
 exact Nat.mul_lt_mul_of_pos_right h.b (Nat.two_pow_pos k)
theorem EX.of {r:Ah} {N E:Int} {B:Nat} (hv:VEq r N E) (hb:N.natAbs<2^B) (hc:Cb r):EX (toD r) N E B (bl r.m.Abs):=
 ⟨(outOK hc).2,hv,hb,Nat.le_refl _⟩
theorem natAbs_add_lt {N N':Int} {B B' C:Nat} (h:N.natAbs<2^B) (h':N'.natAbs<2^B') (h1:B<C) (h2:B' < C):(N+N').natAbs<2^C:=by
 have a1:2^B≤2^(C - 1):=Nat.pow_le_pow_right (by decide) (by omega)
 have a2:2^B'≤2^(C - 1):=Nat.pow_le_pow_right (by decide) (by omega)
 have a3:2^C=2^(C - 1)*2:=by rw [←Nat.pow_succ];congr 1;omega
 have:=Int.natAbs_add_le N N'
 generalize 2^(C - 1)=P at *
 omega
theorem canonBl {r:Ah} {N E:Int} {B:Nat} (hv:VEq r N E) (hN:N.natAbs<2^B) (h1 : -9000≤E) (h2:E+B≤100000) (hB:B≤20000):Cb r:=by
 obtain ⟨s,M,F,hr⟩:=hv.1
 by_cases h0:M=0
 ·subst h0
  rw [hr]
  exact ⟨by unfold nz;rw [if_pos rfl];simp only;rw [Dg];omega,by unfold nz;rw [if_pos rfl];simp only;omega,by unfold nz;rw [if_pos rfl];simp only;omega,_,_,_,rfl⟩
 ·have hr2:r=⟨⟨s,M/2^tz M⟩,F+tz M⟩:=by rw [hr];unfold nz;rw [if_neg h0]
  obtain ⟨t1,t2,_⟩:=DW h0
  have hodd:r.m.Abs%2=1:=by
   have h7:r.m.Abs=M/2^tz M:=by rw [hr2]
   have h8:M/2^tz M=2*t1+1:=by
    generalize tz M=z at *
    rw [t2,Nat.mul_div_cancel_left _ (Nat.two_pow_pos z)]
   rw [h7,h8]
   omega
  have hne:r.m.Abs≠0:=by omega
  have hE:E≤r.e:=by
   refine Int.not_lt.1 fun hlt=>?_
   obtain ⟨j,hj⟩:∃j:Nat,E - r.e=(j:Int)+1:=⟨(E - r.e - 1).toNat,by omega⟩
   have h1:=hv.2 0 (j+1) (by omega)
   rw [Nat.pow_succ,Nat.pow_zero] at h1
   have h2:Z r.m.Neg r.m.Abs=N*(2^j:Nat)*2:=by
    have e1:((2^j*2:Nat):Int)=(2^j:Nat)*2:=by rw [Int.natCast_mul];rfl
    rw [e1,←Int.mul_assoc] at h1
    simpa using h1
   generalize N*((2^j:Nat):Int)=X at h2
   unfold Z at h2
   split at h2<;>omega
  obtain ⟨i,hi⟩:∃i:Nat,r.e - E=(i:Int):=⟨(r.e - E).toNat,by omega⟩
  have h3:=hv.2 i 0 (by omega)
  have h4:N.natAbs=r.m.Abs*2^i:=by
   have h2:Z r.m.Neg r.m.Abs*(2^i:Nat)=N:=by rw [Nat.pow_zero] at h3;simpa using h3
   rw [←h2,Int.natAbs_mul,Int.natAbs_natCast]
   congr 1
   unfold Z;split
   ·rw [Int.natAbs_neg,Int.natAbs_natCast]
   ·rw [Int.natAbs_natCast]
  rw [h4] at hN
  obtain ⟨a1,a2,a3⟩:=Cc hne
  have h5:2^(bl r.m.Abs - 1+i)<2^B:=by
   rw [Nat.pow_add]
   exact Nat.lt_of_le_of_lt (Nat.mul_le_mul_right _ a1) hN
  have h6:=(Nat.pow_lt_pow_iff_right (by decide:1<2)).1 h5
  exact ⟨by omega,by omega,by omega,s,M,F,hr⟩
theorem add_x {x y:Af} {N N' E:Int} {B B' m m':Nat} (hx:EX x N E B m) (hy:EX y N' E B' m') (C:Nat) (c1:B<C) (c2:B' < C) (hm:m≤9000) (hm':m'≤9000) (h1 : -9000≤E) (h2:E+C≤9000) (hC:C≤20000) :
  ∃r,Hc (toL x) (toL y)=some (r,0)∧EX r (N+N') E C C:=by
 have bx:=hx.bd hm h1 (by omega)
 have b2:=hy.bd hm' h1 (by omega)
 obtain ⟨r,q1,q2,_⟩:=hx.e.plus hy.e bx b2
 have hb:=natAbs_add_lt hx.b hy.b c1 c2
 have hc:=canonBl q2 hb h1 (by omega) hC
 have ex:=EX.of q2 hb hc
 have hm2:bl r.m.Abs≤C:=by
  rcases ex.e.small ex.v hb with h0 | h0
  ·have:r.m.Abs=0:=h0
   rw [this,Dg];omega
  ·have e1:(toD r).Exp=r.e:=rfl
   have e2:(toD r).Man.Abs=r.m.Abs:=rfl
   rw [e1,e2] at h0
   omega
 refine ⟨toD r,?_,⟨ex.v,ex.e,hb,hm2⟩⟩
 unfold Hc Cp Ci
 rw [Jy hx.v hy.v,mbo,toNT,sB,inT,sB,toNT,sB,inT,sB,nearB _ _ bx b2,sB,wantT,mbo,q1,sB,(outOK hc).1,mbo]
 rfl
theorem MX {x y:Af} {N N' E E':Int} {B B' m m':Nat} (hx:EX x N E B m) (hy:EX y N' E' B' m') (hm:m+m'≤20000) (h1 : -10000≤E) (h2:E+B≤20000) (h1' : -10000≤E') (h2':E' + B'≤20000) :
  ∃r,Ez (toL x) (toL y)=some (r,0)∧EX r (N*N') (E+E') (B+B') (m+m'):=by
 have rx : -10000≤x.Exp∧x.Exp≤20000:=by
  rcases hx.e.small hx.v hx.b with h0 | h0
  ·rw [(hx.v.z h0).2];omega
  ·omega
 have ry : -10000≤y.Exp∧y.Exp≤20000:=by
  rcases hy.e.small hy.v hy.b with h0 | h0
  ·rw [(hy.v.z h0).2];omega
  ·omega
 have ex:=hx.e
 have ey:=hy.e
 have vx:=hx.v
 have vy:=hy.v
 have mx:=hx.m
 have my:=hy.m
 have bx:=hx.b
 have by':=hy.b
 obtain ⟨⟨s,n⟩,e⟩:=x
 obtain ⟨⟨t,k⟩,f⟩:=y
 simp only at rx ry mx my
 have hM:bl (n*k)≤m+m':=by have:=Lh n k;omega
 have hc:Cb (nz (decide (¬s=t)) (n*k) (e+f)):=Cb.of (by omega) (by omega) (by omega)
 have hp:Cd (ofD ⟨⟨s,n⟩,e⟩) (ofD ⟨⟨t,k⟩,f⟩)=some (nz (decide (¬s=t)) (n*k) (e+f)):=by
  unfold Cd Fc ofD
  simp only
  rw [wMul (by unfold Sm;omega) (by unfold Sm;omega),sB,sB,w64 (x:=e+f) (by omega) (by omega),normal _ _ _ (by unfold Sm;omega) (by omega) (by omega)];rfl
 have hv:VEq (nz (decide (¬s=t)) (n*k) (e+f)) (N*N') (E+E'):=by
  obtain ⟨i,j,hij⟩:=EW e E
  obtain ⟨i',j',hij'⟩:=EW f E'
  have g1:Z s n*(2^i:Nat)=N*(2^j:Nat):=ex.2 i j hij
  have g2:Z t k*(2^i':Nat)=N' * (2^j':Nat):=ey.2 i' j' hij'
  refine (Ij _ _ _).base (p:=i+i') (q:=j+j') (by omega) ?_
  have g3:Z (decide (¬s=t)) (n*k)=Z s n*Z t k:=by
   unfold Z;cases s<;>cases t<;>simp [Int.natCast_mul,Int.neg_mul,Int.mul_neg]
  rw [g3,p2add,p2add]
  have a1:Z s n*Z t k*((2^i:Nat)*(2^i':Nat))=Z s n*(2^i:Nat)*(Z t k*(2^i':Nat)):=by
   simp only [Int.mul_assoc,Int.mul_comm,Int.mul_left_comm]
  have a2:N*N' * ((2^j:Nat)*(2^j':Nat))=N*(2^j:Nat)*(N' * (2^j':Nat)):=by
   simp only [Int.mul_assoc,Int.mul_comm,Int.mul_left_comm]
  rw [a1,a2,g1,g2]
 have hb:(N*N').natAbs<2^(B+B'):=by
  rw [Int.natAbs_mul,Nat.pow_add]
  exact Nat.mul_lt_mul'' bx by'
 refine ⟨_,?_,(outOK hc).2,hv,hb,?_⟩
 ·unfold Ez Cg BR
  rw [Jy vx vy,mbo,toNT,sB,inT,sB,toNT,sB,inT,sB]
  unfold GY
  rw [sB,wantT,mbo,hp,sB,(outOK hc).1,mbo]
  rfl
 ·show bl (nz (decide (¬s=t)) (n*k) (e+f)).m.Abs≤_
  unfold nz
  split
  ·simp only;rw [Dg];omega
  ·simp only
   have:=Ik (n*k) (2^tz (n*k));omega
end Go.Proofs.Pq
namespace Go.Proofs.Pq
set_option linter.unusedVariables false
set_option linter.unusedSimpArgs false
set_option maxRecDepth 4000
open Go.Proofs Go.Sb Go.Proofs.Sbn Go.Proofs.Lf
theorem LeV.trans {x y z:Ah} (h:LeV x y) (h':LeV y z):LeV x z:=by
 intro i j hij
 obtain ⟨a,b,hab⟩:=EW x.e y.e
 obtain ⟨c,d,hcd⟩:=EW y.e z.e
 have g1:=h a b hab
 have g2:=h' c d hcd
 refine (Gz (a:=a+c) (c:=d+b) (i:=i) (j:=j) (by omega)).1 ?_
 rw [p2add,p2add,←Int.mul_assoc,←Int.mul_assoc]
 have g3:=Int.mul_le_mul_of_nonneg_right g1 (Int.le_of_lt (p2 c))
 have g4:=Int.mul_le_mul_of_nonneg_right g2 (Int.le_of_lt (p2 b))
 refine Int.le_trans g3 (Int.le_trans (Int.le_of_eq ?_) g4)
 rw [Int.mul_assoc,Int.mul_assoc,Int.mul_comm ((2^b:Nat):Int)]
theorem Gf (x:Ah):LeV x x:=fun i j hij=>by rw [show i=j by omega];exact Int.le_refl _
theorem Round_of {w r:Ah} {k:Nat} {dir:Int} (hw:Cb w) (hk:1≤k) (hk':k≤4096) (hdir:1≤dir∧dir≤5) (h:As w (k:Int) dir false=some r) (hr:Cb r):Ev (toL (toD w)) (k:Int) dir=some (toD r,0):=by
 have hf:=fineP (k:Int)
 rw [if_pos (show 1≤(k:Int)∧(k:Int)≤4096 by omega)] at hf
 have hdr:DZ dir=some (.ok ()):=by
  unfold DZ
  rw [if_pos hdir.1,sB,decide_eq_true hdir.2];rfl
 have hv:=(outOK hw).2
 unfold Ev Ga
 rw [Ml hv,mbo,hf,mbo,hdr,mbo,toNT,sB,inT,sB,show As (ofD (toD w)) (k:Int) dir false=some r from h,sB,(outOK hr).1,mbo]
 rfl
theorem HQ {x y:Ah} (hx:Cb x) (hy:Cb y):∃c,AP x y=some c∧(¬c<0↔LeV y x)∧(¬0<c↔LeV x y):=
 MB x y hx.1 hy.1 hx.2.1 hx.2.2.1 hy.2.1 hy.2.2.1
theorem Il {x y:Ah} {c:Int} (h:(¬c<0↔LeV y x)∧(¬0<c↔LeV x y)):LeV y (if 0<c then x else y)∧LeV x (if 0<c then x else y):=by
 by_cases h0:0<c
 ·rw [if_pos h0];exact ⟨h.1.1 (by omega),Gf _⟩
 ·rw [if_neg h0];exact ⟨Gf _,h.2.1 h0⟩
theorem Im {x y:Ah} {c:Int} (h:(¬c<0↔LeV y x)∧(¬0<c↔LeV x y)):LeV (if c<0 then x else y) y∧LeV (if c<0 then x else y) x:=by
 by_cases h0:c<0
 ·rw [if_pos h0];exact ⟨h.2.1 (by omega),Gf _⟩
 ·rw [if_neg h0];exact ⟨Gf _,h.1.1 h0⟩
def Lt3 (d:Af):Prop:=bl d.Man.Abs≤640∧-800≤d.Exp∧d.Exp≤800
theorem EX.self {d:Af} {m:Nat} (hd:VT d) (hb:bl d.Man.Abs≤m):EX d (Z d.Man.Neg d.Man.Abs) d.Exp m m:=by
 refine ⟨hd,hd.veq,?_,hb⟩
 have:(Z d.Man.Neg d.Man.Abs).natAbs=d.Man.Abs:=by unfold Z;split<;>simp
 rw [this]
 exact Dw.1 hb
theorem Lv {x y:Af} (vx:VT x) (vy:VT y) (hx:Lt3 x) (hy:Lt3 y):∃r,Cd (ofD x) (ofD y)=some r∧Ez (toL x) (toL y)=some (toD r,0)∧Cb r∧Pb r∧Lt (toD r):=by
 obtain ⟨h1,h2,h3⟩:=hx
 obtain ⟨k1,k2,k3⟩:=hy
 obtain ⟨σ,M,E,p1,p3,p4,p5⟩:=timesC x y (by omega) (by omega) (by omega) (by omega) (by omega) (by omega)
 have lx:Lt x:=MD vx (by omega) (by omega) (by omega)
 have ly:Lt y:=MD vy (by omega) (by omega) (by omega)
 have hc:Cb (nz σ M E):=Cb.of (by omega) (by omega) (by omega)
 have a1:Ez (toL x) (toL y)=some (toD (nz σ M E),0):=by
  unfold Ez Cg BR
  rw [Jy vx vy,mbo,toNT,sB,inT,sB,toNT,sB,inT,sB]
  unfold GY
  rw [sB,wantT,mbo,p1,sB,(outOK hc).1,mbo]
  rfl
 obtain ⟨q,q1,q2⟩:=MX (EX.self vx h1) (EX.self vy k1) (by omega) (by omega) (by omega) (by omega) (by omega)
 have eq:q=toD (nz σ M E):=congrArg Prod.fst (Option.some.inj (q1.symm.trans a1))
 rw [eq] at q2
 exact ⟨_,p1,a1,hc,⟨_,_,_,rfl,p3,p4,p5⟩,q2.lt (by omega) (by omega) (by omega)⟩
theorem KS (d:Af) (k:Nat) (dir:Int) (hd:VT d) (ld:Lt d) (hk:1≤k) (hk':k≤4096) (hdir:1≤dir∧dir≤5):As (ofD d) (k:Int) dir false=some (RO d k dir)∧Cb (RO d k dir):=by
 obtain ⟨h1,h2⟩:=Jr d k dir hd ld hk hk' hdir
 obtain ⟨r,r1,r3⟩:=Mr d.Man.Neg d.Man.Abs k d.Exp dir (by have:=ld.2;omega) hk hk' (by have:=ld.1.l;omega) (by have:=ld.1.u;omega)
 rw [←canonV hd] at r1
 have hc:Cb (ofD d):=by
  have:=canonV hd
  refine ⟨ld.1.s,?_,?_,_,_,_,this⟩
  ·have:=ld.1.l;show _≤d.Exp;omega
  ·have:=ld.1.u;show d.Exp≤_;omega
 have h3:=Round_of hc hk hk' hdir r1 r3
 have h4:toD r=toD (RO d k dir):=congrArg Prod.fst (Option.some.inj (h3.symm.trans h1))
 have h5:r=RO d k dir:=congrArg (fun x:Af=>(⟨x.Man,x.Exp⟩:Ah)) h4
 rw [←h5]
 exact ⟨r1,r3⟩
theorem Jq (a0 a1 c0 c1:Af) (b:Nat) (hb:1≤b) (hb':b≤4096) (v1:VT a0) (v2:VT a1) (v3:VT c0) (v4:VT c1) (l1:Lt3 a0) (l2:Lt3 a1) (l3:Lt3 c0) (l4:Lt3 c1) :
  ∃r1 r2 r3 r4 L H,Ez (toL a0) (toL c0)=some (toD r1,0)∧Ez (toL a0) (toL c1)=some (toD r2,0)∧Ez (toL a1) (toL c0)=some (toD r3,0)∧Ez (toL a1) (toL c1)=some (toD r4,0)∧
   Dl ⟨ofD a0,ofD a1⟩ ⟨ofD c0,ofD c1⟩ (b:Int)=some (.ok ⟨toD (RO (toD L) b 5),toD (RO (toD H) b 4)⟩)∧
   (∀r,r=r1∨r=r2∨r=r3∨r=r4→Cb r∧Lt (toD r)∧LeV L r∧LeV r H)∧(H=r1∨H=r2∨H=r3∨H=r4)∧(L=r1∨L=r2∨L=r3∨L=r4):=by
 obtain ⟨r1,p1,q1,b1,_,t1⟩:=Lv v1 v3 l1 l3
 obtain ⟨r2,p2,q2,b2,_,t2⟩:=Lv v1 v4 l1 l4
 obtain ⟨r3,p3,q3,b3,_,t3⟩:=Lv v2 v3 l2 l3
 obtain ⟨r4,p4,q4,b4,_,t4⟩:=Lv v2 v4 l2 l4
 obtain ⟨z1,hz1,_⟩:=HQ b1 b1
 obtain ⟨c2,hc2,i2⟩:=HQ b2 b1
 have el2:(if c2<0 then r2 else r1)=r1∨(if c2<0 then r2 else r1)=r2:=by split<;>simp
 have eh2:(if 0<c2 then r2 else r1)=r1∨(if 0<c2 then r2 else r1)=r2:=by split<;>simp
 have bl2:Cb (if c2<0 then r2 else r1):=by split<;>assumption
 have bh2:Cb (if 0<c2 then r2 else r1):=by split<;>assumption
 have pl2:=Im i2
 have ph2:=Il i2
 generalize gL2:(if c2<0 then r2 else r1)=L2 at el2 bl2 pl2
 generalize gH2:(if 0<c2 then r2 else r1)=H2 at eh2 bh2 ph2
 obtain ⟨c3,hc3,i3⟩:=HQ b3 bl2
 obtain ⟨d3,hd3,j3⟩:=HQ b3 bh2
 have el3:(if c3<0 then r3 else L2)=L2∨(if c3<0 then r3 else L2)=r3:=by split<;>simp
 have eh3:(if 0<d3 then r3 else H2)=H2∨(if 0<d3 then r3 else H2)=r3:=by split<;>simp
 have bl3:Cb (if c3<0 then r3 else L2):=by split<;>assumption
 have bh3:Cb (if 0<d3 then r3 else H2):=by split<;>assumption
 have pl3:=Im i3
 have ph3:=Il j3
 generalize gL3:(if c3<0 then r3 else L2)=L3 at el3 bl3 pl3
 generalize gH3:(if 0<d3 then r3 else H2)=H3 at eh3 bh3 ph3
 obtain ⟨c4,hc4,i4⟩:=HQ b4 bl3
 obtain ⟨d4,hd4,j4⟩:=HQ b4 bh3
 have el4:(if c4<0 then r4 else L3)=L3∨(if c4<0 then r4 else L3)=r4:=by split<;>simp
 have eh4:(if 0<d4 then r4 else H3)=H3∨(if 0<d4 then r4 else H3)=r4:=by split<;>simp
 have pl4:=Im i4
 have ph4:=Il j4
 generalize gL4:(if c4<0 then r4 else L3)=L4 at el4 pl4
 generalize gH4:(if 0<d4 then r4 else H3)=H4 at eh4 ph4
 have hL:L4=r1∨L4=r2∨L4=r3∨L4=r4:=by
  rcases el4 with h | h
  ·rcases el3 with h3 | h3
   ·rcases el2 with h2 | h2
    ·left;rw [h,h3,h2]
    ·right;left;rw [h,h3,h2]
   ·right;right;left;rw [h,h3]
  ·right;right;right;exact h
 have hH:H4=r1∨H4=r2∨H4=r3∨H4=r4:=by
  rcases eh4 with h | h
  ·rcases eh3 with h3 | h3
   ·rcases eh2 with h2 | h2
    ·left;rw [h,h3,h2]
    ·right;left;rw [h,h3,h2]
   ·right;right;left;rw [h,h3]
  ·right;right;right;exact h
 have all:∀r,r=r1∨r=r2∨r=r3∨r=r4→Cb r∧Lt (toD r)∧LeV L4 r∧LeV r H4:=by
  intro r hr
  rcases hr with rfl | rfl | rfl | rfl
  ·exact ⟨b1,t1,(pl4.1.trans pl3.1).trans pl2.1,(ph2.1.trans ph3.1).trans ph4.1⟩
  ·exact ⟨b2,t2,(pl4.1.trans pl3.1).trans pl2.2,(ph2.2.trans ph3.1).trans ph4.1⟩
  ·exact ⟨b3,t3,pl4.1.trans pl3.2,ph3.2.trans ph4.1⟩
  ·exact ⟨b4,t4,pl4.2,ph4.2⟩
 obtain ⟨cL,tL,_⟩:=all L4 hL
 obtain ⟨cH,tH,_⟩:=all H4 hH
 obtain ⟨w1,w2⟩:=KS (toD L4) b 5 (outOK cL).2 tL hb hb' (by decide)
 obtain ⟨w3,w4⟩:=KS (toD H4) b 4 (outOK cH).2 tH hb hb' (by decide)
 refine ⟨r1,r2,r3,r4,L4,H4,q1,q2,q3,q4,?_,all,hH,hL⟩
 unfold Dl Gl
 rw [p1,sB,hz1,sB,Jb,sB,sB,Jb,sB,sB]
 unfold Es
 simp only
 rw [p2,sB,hc2,sB,pickn,sB,sB,pickn,sB,sB,gL2,gH2]
 simp only
 rw [p3,sB,hc3,sB,pickn,sB,hd3,sB,pickn,sB,sB,gL3,gH3]
 simp only
 rw [p4,sB,hc4,sB,pickn,sB,hd4,sB,pickn,sB,sB,gL4,gH4]
 unfold EB
 simp only
 rw [show As L4 (b:Int) 5 false=_ from w1,sB,show As H4 (b:Int) 4 false=_ from w3,sB,sB,Gx w2 w4]
 rfl
end Go.Proofs.Pq
namespace Go.Proofs.Pq
set_option linter.unusedVariables false
set_option linter.unusedSimpArgs false
set_option maxRecDepth 4000
open Go.Proofs Go.Sb Go.Proofs.Sbn Go.Proofs.Lf
theorem MM (d:Af) (k:Nat) (hd:VT d):LeV (RO d k 5) (ofD d)∧LeV (ofD d) (RO d k 4):=by
 by_cases hb:k<bl d.Man.Abs
 ·have hV:=fun dir:Int=>RO_v (d:=d) (k:=k) (dir:=dir) hb
  have h0:d.Man.Abs≠0:=by intro h;rw [h,Dg] at hb;omega
  have hda:=hd.veq
  have hU:=Nat.two_pow_pos (bl d.Man.Abs - k)
  have hr:d.Man.Abs%2^(bl d.Man.Abs - k)≠0:=by
   intro h
   have h1:=Nat.dvd_of_mod_eq_zero h
   have h2:2∣2^(bl d.Man.Abs - k):=⟨2^(bl d.Man.Abs - k - 1),by rw [Nat.mul_comm,←Nat.pow_succ];congr 1;omega⟩
   have h3:=Nat.mod_eq_zero_of_dvd (Nat.dvd_trans h2 h1)
   have:=(hd.o h0).1
   omega
  obtain ⟨i5,i4,_⟩:=inc_vals d.Man.Neg hr
  have hdm:=Nat.div_add_mod d.Man.Abs (2^(bl d.Man.Abs - k))
  have hrl:=Nat.mod_lt d.Man.Abs hU
  have val:∀m:Nat,(d.Man.Abs/2^(bl d.Man.Abs - k)+m)*2^(bl d.Man.Abs - k)=2^(bl d.Man.Abs - k)*(d.Man.Abs/2^(bl d.Man.Abs - k))+m*2^(bl d.Man.Abs - k):=fun m=>by rw [Nat.add_mul,Nat.mul_comm]
  refine ⟨fun i j hij=>((hV 5).cross hda hij).2 ?_,fun i j hij=>(hda.cross (hV 4) hij).2 ?_⟩
  ·rw [i5,val]
   generalize 2^(bl d.Man.Abs - k)*(d.Man.Abs/2^(bl d.Man.Abs - k))=P at *
   cases hs:d.Man.Neg
   ·simp only [Z,Bool.false_eq_true,if_false];omega
   ·simp only [Z,if_true];omega
  ·rw [i4,val]
   generalize 2^(bl d.Man.Abs - k)*(d.Man.Abs/2^(bl d.Man.Abs - k))=P at *
   cases hs:d.Man.Neg
   ·simp only [Z,Bool.false_eq_true,if_false];omega
   ·simp only [Z,if_true];omega
 ·rw [GR hd (by omega),GR hd (by omega)]
  exact ⟨Gf _,Gf _⟩
theorem Lw (d:Af) (k:Nat) (dir:Int) (hd:VT d) (hk:1≤k):bl (RO d k dir).m.Abs≤k:=by
 by_cases hb:k<bl d.Man.Abs
 ·rw [Mw hb]
  have h0:d.Man.Abs≠0:=by intro h;rw [h,Dg] at hb;omega
  have hq:=(ID h0 hk).1
  rw [show k - bl d.Man.Abs=0 by omega,Nat.pow_zero,Nat.mul_one] at hq
  have hi:=Kh d.Man.Abs (2^(bl d.Man.Abs - k)) d.Man.Neg dir
  generalize inc d.Man.Abs (2^(bl d.Man.Abs - k)) d.Man.Neg dir=ι at *
  generalize d.Man.Abs/2^(bl d.Man.Abs - k)=q at *
  have hM:q+ι≤2^k:=by omega
  generalize q+ι=M at *
  unfold nz
  by_cases hM0:M=0
  ·rw [if_pos hM0];simp only;rw [Dg];omega
  ·rw [if_neg hM0]
   simp only
   refine Dw.2 ?_
   rcases Nat.lt_or_eq_of_le hM with h1 | h1
   ·exact Nat.lt_of_le_of_lt (Nat.div_le_self _ _) h1
   ·obtain ⟨t,ht,_⟩:=DW hM0
    have htz:tz M≠0:=by
     intro h
     rw [h,Nat.pow_zero,Nat.one_mul] at ht
     have:2^k=2*2^(k - 1):=by rw [Nat.mul_comm,←Nat.pow_succ];congr 1;omega
     omega
    have hp:=Nat.two_pow_pos k
    refine Nat.lt_of_lt_of_le (Nat.div_lt_self (by omega) ?_) hM
    exact Nat.lt_of_lt_of_le (by decide:1<2^1) (Nat.pow_le_pow_right (by decide) (by omega))
 ·rw [GR hd (by omega)]
  show bl d.Man.Abs≤k
  omega
theorem Nj {x y:Af} {k m:Nat} (hx:VT x) (hy:VT y) (lx:Lt x) (hk:1≤k) (hk':k≤4096) (h:LeV (ofD x) (ofD y)):LeV (RO x k 5) (RO y (k+m) 5):=by
 have hc:=(Jr x k 5 hx lx hk hk' (by decide)).2
 have hv:=(outOK hc).2
 have hb:=Lw x k 5 hx hk
 have h1:LeV (ofD (toD (RO x k 5))) (ofD y):=((MM x k hx).1).trans h
 have h2:=Ln (toD (RO x k 5)) y hv hy (k+m) 5 (by omega) h1
 rw [GR hv (show bl (RO x k 5).m.Abs≤k+m by omega)] at h2
 exact h2
theorem Nb {x y:Af} {k m:Nat} (hx:VT x) (hy:VT y) (lx:Lt x) (hk:1≤k) (hk':k≤4096) (h:LeV (ofD y) (ofD x)):LeV (RO y (k+m) 4) (RO x k 4):=by
 have hc:=(Jr x k 4 hx lx hk hk' (by decide)).2
 have hv:=(outOK hc).2
 have hb:=Lw x k 4 hx hk
 have h1:LeV (ofD y) (ofD (toD (RO x k 4))):=h.trans (MM x k hx).2
 have h2:=Ln y (toD (RO x k 4)) hy hv (k+m) 4 (by omega) h1
 rw [GR hv (show bl (RO x k 4).m.Abs≤k+m by omega)] at h2
 exact h2
end Go.Proofs.Pq
namespace Go.Proofs.Pq
set_option linter.unusedVariables false
set_option linter.unusedSimpArgs false
set_option maxRecDepth 4000
open Go.Proofs Go.Sb Go.Proofs.Sbn Go.Proofs.Lf
theorem Lt3.lt {d:Af} (hd:VT d) (h:Lt3 d):Lt d:=MD hd (by have:=h.1;omega) (by have:=h.2.1;omega) (by have:=h.2.2;omega)
theorem ex3g {d:Af} {m:Nat} (hd:VT d) (h1:bl d.Man.Abs≤m) (h2 : -800≤d.Exp) (h3:d.Exp≤800):∃N,EX d N (-800) (m+1600) m:=by
 obtain ⟨k,hk⟩:∃k:Nat,d.Exp+800=(k:Int):=⟨(d.Exp+800).toNat,by omega⟩
 have e1:=(EX.self hd h1).base k
 have hE:d.Exp - (k:Int) = -800:=by omega
 rw [hE] at e1
 exact ⟨_,e1.v,e1.e,Nat.lt_of_lt_of_le e1.b (Nat.pow_le_pow_right (by decide) (by omega)),e1.m⟩
theorem ex3 {d:Af} (hd:VT d) (h:Lt3 d):∃N,EX d N (-800) (640+1600) 640:=ex3g hd h.1 h.2.1 h.2.2
theorem CC {r r':Ah} {N N' E:Int} (h:VEq r N E) (h':VEq r' N' E):LeV r r'↔N≤N':=by
 constructor
 ·intro hh
  obtain ⟨i,j,hij⟩:=EW r.e r'.e
  exact (h.cross h' hij).1 (hh i j hij)
 ·intro hh i j hij
  exact (h.cross h' hij).2 hh
theorem ME {x y:Af} {N N':Int} (vx:VT x) (vy:VT y) (hx:Lt3 x) (hy:Lt3 y) (ex:EX x N (-800) (640+1600) 640) (ey:EX y N' (-800) (640+1600) 640) (b:Nat) (dir:Int) (hb:1≤b) (hb':b≤4096) (hdir:1≤dir∧dir≤5) :
  ∃S,FY (ofD x) (ofD y) (b:Int) dir=some (RO (toD S) b dir)∧Cb (RO (toD S) b dir)∧Cb S∧Lt (toD S)∧VEq S (N+N') (-800):=by
 have l1:=hx.lt vx
 have l3:=hy.lt vy
 obtain ⟨σ,M,E,p1,p3,p4,p5⟩:=plusC x y l1.2 l3.2 l1.1.l l1.1.u l3.1.l l3.1.u
 have hc:Cb (nz σ M E):=Cb.of p3 (by omega) (by omega)
 have ha:Hc (toL x) (toL y)=some (toD (nz σ M E),0):=by
  unfold Hc Cp Ci
  rw [Jy vx vy,mbo,toNT,sB,inT,sB,toNT,sB,inT,sB,nearT (ofD x) (ofD y) l1.2 l3.2 l1.1.l l1.1.u l3.1.l l3.1.u,sB,wantT,mbo,p1,sB,(outOK hc).1,mbo]
  rfl
 obtain ⟨q,q1,q2⟩:=add_x ex ey 2241 (by omega) (by omega) (by omega) (by omega) (by omega) (by omega) (by omega)
 have eq:q=toD (nz σ M E):=congrArg Prod.fst (Option.some.inj (q1.symm.trans ha))
 rw [eq] at q2
 have hl:=q2.lt (by omega) (by omega) (by omega)
 obtain ⟨w1,w2⟩:=KS (toD (nz σ M E)) b dir (outOK hc).2 hl hb hb' hdir
 refine ⟨nz σ M E,?_,w2,hc,hl,q2.e⟩
 unfold FY
 rw [nearT (ofD x) (ofD y) l1.2 l3.2 l1.1.l l1.1.u l3.1.l l3.1.u,sB,if_pos rfl,p1,sB,show As (nz σ M E) (b:Int) dir false=_ from w1,sB]
theorem narrowPlus (a0 a1 w0 w1 c0 c1:Af) (k m:Nat) (hk:1≤k) (hk':k+m≤4096) (va0:VT a0) (va1:VT a1) (vw0:VT w0) (vw1:VT w1) (vc0:VT c0) (vc1:VT c1)
  (la0:Lt3 a0) (la1:Lt3 a1) (lw0:Lt3 w0) (lw1:Lt3 w1) (lc0:Lt3 c0) (lc1:Lt3 c1) (h0:LeV (ofD w0) (ofD a0)) (h1:LeV (ofD a1) (ofD w1)) :
  ∃r5 r4 s5 s4,DI ⟨ofD a0,ofD a1⟩ ⟨ofD c0,ofD c1⟩ ((k+m:Nat):Int)=some (.ok ⟨toD r5,toD r4⟩)∧DI ⟨ofD w0,ofD w1⟩ ⟨ofD c0,ofD c1⟩ (k:Int)=some (.ok ⟨toD s5,toD s4⟩)∧
   Cb r5∧Cb r4∧Cb s5∧Cb s4∧LeV s5 r5∧LeV r4 s4:=by
 obtain ⟨N0,e0⟩:=ex3 va0 la0
 obtain ⟨N1,e1⟩:=ex3 va1 la1
 obtain ⟨M0,f0⟩:=ex3 vw0 lw0
 obtain ⟨M1,f1⟩:=ex3 vw1 lw1
 obtain ⟨C0,g0⟩:=ex3 vc0 lc0
 obtain ⟨C1,g1⟩:=ex3 vc1 lc1
 have i0:=(CC f0.e e0.e).1 h0
 have i1:=(CC e1.e f1.e).1 h1
 obtain ⟨S0,p1,p2,p3,p4,p5⟩:=ME va0 vc0 la0 lc0 e0 g0 (k+m) 5 (by omega) hk' (by decide)
 obtain ⟨S1,q1,q2,q3,q4,q5⟩:=ME va1 vc1 la1 lc1 e1 g1 (k+m) 4 (by omega) hk' (by decide)
 obtain ⟨T0,t1,t2,t3,t4,t5⟩:=ME vw0 vc0 lw0 lc0 f0 g0 k 5 hk (by omega) (by decide)
 obtain ⟨T1,u1,u2,u3,u4,u5⟩:=ME vw1 vc1 lw1 lc1 f1 g1 k 4 hk (by omega) (by decide)
 refine ⟨_,_,_,_,?_,?_,p2,q2,t2,u2,?_,?_⟩
 ·unfold DI
  simp only
  rw [p1,sB,q1,sB,Gx p2 q2];rfl
 ·unfold DI
  simp only
  rw [t1,sB,u1,sB,Gx t2 u2];rfl
 ·exact Nj (outOK t3).2 (outOK p3).2 t4 hk (by omega) ((CC t5 p5).2 (by omega))
 ·exact Nb (outOK u3).2 (outOK q3).2 u4 hk (by omega) ((CC q5 u5).2 (by omega))
theorem IP {x y:Af} {N N':Int} {r:Ah} (ex:EX x N (-800) (640+1600) 640) (ey:EX y N' (-800) (640+1600) 640) (h:Ez (toL x) (toL y)=some (toD r,0)):VEq r (N*N') (-1600):=by
 obtain ⟨q,q1,q2⟩:=MX ex ey (by omega) (by omega) (by omega) (by omega) (by omega)
 have eq:q=toD r:=congrArg Prod.fst (Option.some.inj (q1.symm.trans h))
 rw [eq] at q2
 exact q2.e
theorem IY {N x M0 M1:Int} (h0:M0≤x) (h1:x≤M1) (y:Int):M0*y≤x*y∨M1*y≤x*y:=by
 rcases Int.le_total 0 y with h | h
 ·exact Or.inl (Int.mul_le_mul_of_nonneg_right h0 h)
 ·exact Or.inr (Int.mul_le_mul_of_nonpos_right h1 h)
theorem Ja {x M0 M1:Int} (h0:M0≤x) (h1:x≤M1) (y:Int):x*y≤M1*y∨x*y≤M0*y:=by
 rcases Int.le_total 0 y with h | h
 ·exact Or.inl (Int.mul_le_mul_of_nonneg_right h1 h)
 ·exact Or.inr (Int.mul_le_mul_of_nonpos_right h0 h)
theorem narrowTimes (a0 a1 w0 w1 c0 c1:Af) (k m:Nat) (hk:1≤k) (hk':k+m≤4096) (va0:VT a0) (va1:VT a1) (vw0:VT w0) (vw1:VT w1) (vc0:VT c0) (vc1:VT c1)
  (la0:Lt3 a0) (la1:Lt3 a1) (lw0:Lt3 w0) (lw1:Lt3 w1) (lc0:Lt3 c0) (lc1:Lt3 c1) (h0:LeV (ofD w0) (ofD a0)) (h1:LeV (ofD a1) (ofD w1)) (ha:LeV (ofD a0) (ofD a1)) :
  ∃r5 r4 s5 s4,Dl ⟨ofD a0,ofD a1⟩ ⟨ofD c0,ofD c1⟩ ((k+m:Nat):Int)=some (.ok ⟨toD r5,toD r4⟩)∧Dl ⟨ofD w0,ofD w1⟩ ⟨ofD c0,ofD c1⟩ (k:Int)=some (.ok ⟨toD s5,toD s4⟩)∧
   Cb r5∧Cb r4∧Cb s5∧Cb s4∧LeV s5 r5∧LeV r4 s4:=by
 obtain ⟨N0,e0⟩:=ex3 va0 la0
 obtain ⟨N1,e1⟩:=ex3 va1 la1
 obtain ⟨M0,f0⟩:=ex3 vw0 lw0
 obtain ⟨M1,f1⟩:=ex3 vw1 lw1
 obtain ⟨C0,g0⟩:=ex3 vc0 lc0
 obtain ⟨C1,g1⟩:=ex3 vc1 lc1
 have i0:=(CC f0.e e0.e).1 h0
 have i1:=(CC e1.e f1.e).1 h1
 have ia:=(CC e0.e e1.e).1 ha
 obtain ⟨r1,r2,r3,r4,L,H,p1,p2,p3,p4,p5,p6,p7,p8⟩:=Jq a0 a1 c0 c1 (k+m) (by omega) hk' va0 va1 vc0 vc1 la0 la1 lc0 lc1
 obtain ⟨s1,s2,s3,s4,L',H',q1,q2,q3,q4,q5,q6,q7,q8⟩:=Jq w0 w1 c0 c1 k hk (by omega) vw0 vw1 vc0 vc1 lw0 lw1 lc0 lc1
 have v1:=IP e0 g0 p1
 have v2:=IP e0 g1 p2
 have v3:=IP e1 g0 p3
 have v4:=IP e1 g1 p4
 have x1:=IP f0 g0 q1
 have x2:=IP f0 g1 q2
 have x3:=IP f1 g0 q3
 have x4:=IP f1 g1 q4
 have y1:=q6 s1 (by simp)
 have y2:=q6 s2 (by simp)
 have y3:=q6 s3 (by simp)
 have y4:=q6 s4 (by simp)
 have hL:LeV L' L:=by
  rcases p8 with h | h | h | h
  ·rw [h]
   rcases IY (N:=0) i0 (show N0≤M1 by omega) C0 with z | z
   ·exact y1.2.2.1.trans ((CC x1 v1).2 z)
   ·exact y3.2.2.1.trans ((CC x3 v1).2 z)
  ·rw [h]
   rcases IY (N:=0) i0 (show N0≤M1 by omega) C1 with z | z
   ·exact y2.2.2.1.trans ((CC x2 v2).2 z)
   ·exact y4.2.2.1.trans ((CC x4 v2).2 z)
  ·rw [h]
   rcases IY (N:=0) (show M0≤N1 by omega) i1 C0 with z | z
   ·exact y1.2.2.1.trans ((CC x1 v3).2 z)
   ·exact y3.2.2.1.trans ((CC x3 v3).2 z)
  ·rw [h]
   rcases IY (N:=0) (show M0≤N1 by omega) i1 C1 with z | z
   ·exact y2.2.2.1.trans ((CC x2 v4).2 z)
   ·exact y4.2.2.1.trans ((CC x4 v4).2 z)
 have hH:LeV H H':=by
  rcases p7 with h | h | h | h
  ·rw [h]
   rcases Ja i0 (show N0≤M1 by omega) C0 with z | z
   ·exact ((CC v1 x3).2 z).trans y3.2.2.2
   ·exact ((CC v1 x1).2 z).trans y1.2.2.2
  ·rw [h]
   rcases Ja i0 (show N0≤M1 by omega) C1 with z | z
   ·exact ((CC v2 x4).2 z).trans y4.2.2.2
   ·exact ((CC v2 x2).2 z).trans y2.2.2.2
  ·rw [h]
   rcases Ja (show M0≤N1 by omega) i1 C0 with z | z
   ·exact ((CC v3 x3).2 z).trans y3.2.2.2
   ·exact ((CC v3 x1).2 z).trans y1.2.2.2
  ·rw [h]
   rcases Ja (show M0≤N1 by omega) i1 C1 with z | z
   ·exact ((CC v4 x4).2 z).trans y4.2.2.2
   ·exact ((CC v4 x2).2 z).trans y2.2.2.2
 have cL:=p6 L (by rcases p8 with h | h | h | h<;>simp [h])
 have cH:=p6 H (by rcases p7 with h | h | h | h<;>simp [h])
 have cL':=q6 L' (by rcases q8 with h | h | h | h<;>simp [h])
 have cH':=q6 H' (by rcases q7 with h | h | h | h<;>simp [h])
 have vL:=(outOK cL.1).2
 have vH:=(outOK cH.1).2
 have vL':=(outOK cL'.1).2
 have vH':=(outOK cH'.1).2
 exact ⟨_,_,_,_,p5,q5,(Jr (toD L) (k+m) 5 vL cL.2.1 (by omega) hk' (by decide)).2,(Jr (toD H) (k+m) 4 vH cH.2.1 (by omega) hk' (by decide)).2,(Jr (toD L') k 5 vL' cL'.2.1 hk (by omega) (by decide)).2,(Jr (toD H') k 4 vH' cH'.2.1 hk (by omega) (by decide)).2,
  Nj vL' vL cL'.2.1 hk (by omega) hL,Nb vH' vH cH'.2.1 hk (by omega) hH⟩
end Go.Proofs.Pq
namespace Go.Proofs.Pq
set_option linter.unusedVariables false
set_option linter.unusedSimpArgs false
set_option maxRecDepth 4000
open Go.Proofs Go.Sb Go.Proofs.Sbn Go.Proofs.Lf
end Go.Proofs.Pq
namespace Go.Proofs.Pq
set_option linter.unusedVariables false
set_option linter.unusedSimpArgs false
set_option maxRecDepth 4000
open Go.Proofs Go.Sb Go.Proofs.Sbn Go.Proofs.Lf
theorem Kc (x:An) (h0:Dig x.Lo.Man.Abs) (h1:Dig x.Hi.Man.Abs) (k0:∀d,x.Lo=toL d→VT d→Lt3 d) (k1:∀d,x.Hi=toL d→VT d→Lt3 d) :
  ∃v,AJ x=some v∧(v=true→∃lo hi,x=⟨toL lo,toL hi⟩∧VT lo∧VT hi∧Lt3 lo∧Lt3 hi∧LeV (ofD lo) (ofD hi)):=by
 obtain ⟨a,b⟩:=x
 obtain ⟨v0,e0,f0,g0⟩:=Km a h0
 obtain ⟨v1,e1,f1,g1⟩:=Km b h1
 unfold AJ
 simp only
 rw [f0,sB]
 cases v0
 ·exact ⟨false,rfl,fun h=>by cases h⟩
 ·rw [if_pos rfl,f1,sB]
  cases v1
  ·exact ⟨false,rfl,fun h=>by cases h⟩
  ·obtain ⟨lo,rfl,hlo⟩:=g0 rfl
   obtain ⟨hi,rfl,hhi⟩:=g1 rfl
   have o0:=k0 lo rfl hlo
   have o1:=k1 hi rfl hhi
   obtain ⟨c,hc,_,hc2⟩:=MB (ofD lo) (ofD hi) (o0.lt hlo).bm.1 (o1.lt hhi).bm.1 (o0.lt hlo).bm.2.1 (o0.lt hlo).bm.2.2 (o1.lt hhi).bm.2.1 (o1.lt hhi).bm.2.2
   rw [if_pos rfl,toNT,sB,inT,sB,toNT,sB,inT,sB,hc,sB]
   refine ⟨_,rfl,fun hv=>⟨lo,hi,rfl,hlo,hhi,o0,o1,hc2.1 ?_⟩⟩
   have:=of_decide_eq_true hv
   omega
theorem Nx (x:An) (h0:Dig x.Lo.Man.Abs) (h1:Dig x.Hi.Man.Abs):∃v,CU x=some v∧(v=true→(∀d,x.Lo=toL d→VT d→Lt3 d)∧∀d,x.Hi=toL d→VT d→Lt3 d):=by
 obtain ⟨a,b⟩:=x
 obtain ⟨v0,e0,_,_⟩:=Km a h0
 obtain ⟨v1,e1,_,_⟩:=Km b h1
 have step:∀(a:Ar) (v:Bool),Bl a=some v→∃q,(if 20<((List.length a.Man.Abs:Int)) then some (true) else (Bl a).bind fun r144=>
   (if r144=true then (if a.Exp<((-800)) then some (true) else some ((decide (800<a.Exp)))).bind fun m209=>some (m209) else some (false)).bind fun m178=>some (m178))=some q∧(q=false→∀d,a=toL d→VT d→Lt3 d):=by
  intro a v hv
  by_cases hl:20<(List.length a.Man.Abs:Int)
  ·exact ⟨true,if_pos hl,fun h=>by cases h⟩
  ·rw [if_neg hl,hv,sB]
   have key:(-800≤a.Exp∧a.Exp≤800)→∀d,a=toL d→VT d→Lt3 d:=by
    rintro ⟨k1,k2⟩ d rfl hd
    have e1:(toL d).Exp=d.Exp:=rfl
    have e2:(toL d).Man.Abs.length=Sbn.sz d.Man.Abs:=rfl
    exact ⟨by have:=JT (show Sbn.sz d.Man.Abs≤20 by omega);omega,by omega,by omega⟩
   cases v
   ·refine ⟨false,rfl,fun _ d hd hv'=>?_⟩
    subst hd;rw [(validT hv').1] at hv;cases hv
   ·rw [if_pos rfl]
    by_cases k1:a.Exp < -800
    ·exact ⟨true,by rw [if_pos k1];rfl,fun h=>by cases h⟩
    ·rw [if_neg k1]
     exact ⟨decide (800<a.Exp),rfl,fun h=>key ⟨by omega,by have:=of_decide_eq_false h;omega⟩⟩
 obtain ⟨q0,s0,k0⟩:=step a v0 e0
 obtain ⟨q1,s1,k1⟩:=step b v1 e1
 unfold CU
 simp only
 rw [s0,sB]
 cases q0
 ·rw [if_neg (by decide),s1,sB]
  cases q1
  ·exact ⟨true,rfl,fun _=>⟨k0 rfl,k1 rfl⟩⟩
  ·exact ⟨false,rfl,fun h=>by cases h⟩
 ·exact ⟨false,rfl,fun h=>by cases h⟩
end Go.Proofs.Pq
