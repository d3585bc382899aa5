import Derived.Test.YtabiobmfelafoaaDoorPC
namespace Go.Proofs.Pq
set_option linter.unusedVariables false
set_option linter.unusedSimpArgs false
set_option maxRecDepth 4000
open Go.Proofs Go.Sb Go.Proofs.Sbn Go.Proofs.Lf
def VEq (r:Aj) (N:Int) (E:Int):Prop:=(∃s M F,r=nz s M F)∧∀i j:Nat,r.e - E=(i:Int) - j→Z r.m.Neg r.m.Abs*(2^i:Nat)=N*(2^j:Nat)
theorem p2 (k:Nat):(0:Int)<(2^k:Nat):=by have:=Nat.two_pow_pos k;omega
theorem p2add (a b:Nat):((2^(a+b):Nat):Int)=(2^a:Nat)*(2^b:Nat):=by rw [Nat.pow_add,Int.natCast_mul]
theorem Z0 (s:Bool):Z s 0=0:=by cases s<;>rfl
theorem IZ (s:Bool) (M:Nat) (F:Int):VEq (nz s M F) (Z s M) F:=by
 refine ⟨⟨s,M,F,rfl⟩,fun i j hij=>?_⟩
 unfold nz at hij ⊢
 by_cases h0:M=0
 ·subst h0
  rw [if_pos rfl] at hij ⊢
  rw [Z0,Z0,Int.zero_mul,Int.zero_mul]
 ·rw [if_neg h0] at hij ⊢
  simp only at hij ⊢
  obtain ⟨q,hq⟩:=Ja M
  have hqd:M/2^tz M=q:=by generalize tz M=z at *;rw [hq,Nat.mul_div_cancel _ (Nat.two_pow_pos z)]
  rw [hqd]
  generalize tz M=z at *
  rw [hq,Fm,show i=z+j by omega,p2add,Int.mul_assoc]
theorem Fd (a b:Int):∃i j:Nat,a - b=(i:Int) - j:=⟨(a - b).toNat,(-(a - b)).toNat,by omega⟩
theorem VEq.base {r:Aj} {N N' E E':Int} {p q:Nat} (h:VEq r N E) (hpq:E - E'=(p:Int) - q) (hN:N*(2^p:Nat)=N' * (2^q:Nat)):VEq r N' E':=by
 refine ⟨h.1,fun i j hij=>?_⟩
 obtain ⟨a,b,hab⟩:=Fd r.e E
 have h1:=h.2 a b hab
 have h2:=p2 b
 have h3:=p2 p
 have h4:=p2 q
 have e1:Z r.m.Neg r.m.Abs*(2^(a+p):Nat)=N' * (2^(b+q):Nat):=by
  rw [p2add,p2add,←Int.mul_assoc,h1,Int.mul_assoc,Int.mul_comm ((2^b:Nat):Int) ((2^p:Nat):Int),←Int.mul_assoc,hN,Int.mul_assoc,Int.mul_comm ((2^q:Nat):Int)]
 have k1:=(GB (X:=Z r.m.Neg r.m.Abs) (Y:=N') (a:=a+p) (c:=b+q) (i:=i) (j:=j) (by omega)).1 (Int.le_of_eq e1)
 have k2:=(GB (X:=N') (Y:=Z r.m.Neg r.m.Abs) (a:=b+q) (c:=a+p) (i:=j) (j:=i) (by omega)).1 (Int.le_of_eq e1.symm)
 exact Int.le_antisymm k1 k2
theorem VEq.cross {r r':Aj} {N N' E:Int} (h:VEq r N E) (h':VEq r' N' E) {i j:Nat} (hij:r.e - r'.e=(i:Int) - j) :
  (Z r.m.Neg r.m.Abs*(2^i:Nat)≤Z r'.m.Neg r'.m.Abs*(2^j:Nat)↔N≤N'):=by
 obtain ⟨a,b,hab⟩:=Fd r.e E
 obtain ⟨c,d,hcd⟩:=Fd r'.e E
 have h1:=h.2 a b hab
 have h2:=h'.2 c d hcd
 rw [GB (a:=i) (c:=j) (i:=a+d) (j:=c+b) (by omega),p2add,p2add,←Int.mul_assoc,h1,←Int.mul_assoc,h2,Int.mul_assoc,Int.mul_assoc,Int.mul_comm ((2^d:Nat):Int)]
 have hp:(0:Int)<(2^b:Nat)*(2^d:Nat):=Int.mul_pos (p2 b) (p2 d)
 constructor
 ·intro h;exact Int.le_of_mul_le_mul_right h hp
 ·intro h;exact Int.mul_le_mul_of_nonneg_right h (Int.le_of_lt hp)
theorem VEq.uniq {r r':Aj} {N E:Int} (h:VEq r N E) (h':VEq r' N E):r=r':=by
 obtain ⟨s,M,F,hr⟩:=h.1
 obtain ⟨t,M',F',hr'⟩:=h'.1
 subst hr hr'
 exact nz_eq (fun i j hij=>(h.cross h' hij).2 (Int.le_refl _)) (fun i j hij=>(h'.cross h hij).2 (Int.le_refl _))
def Bd (r:Aj):Prop:=bl r.m.Abs≤9000∧-9000≤r.e∧r.e≤9000
theorem VEq.plus {x y:Aj} {N N' E:Int} (hx:VEq x N E) (hy:VEq y N' E) (bx:Bd x) (by':Bd y):∃r,Bf x y=some r∧VEq r (N+N') E∧bl r.m.Abs≤30000∧-9000≤r.e∧r.e≤60000:=by
 have bnz:∀(σ:Bool) (M:Nat) (F:Int),bl M≤30000→-9000≤F→F≤9000→bl (nz σ M F).m.Abs≤30000∧-9000≤(nz σ M F).e∧(nz σ M F).e≤60000:=by
  intro σ M F h1 h2 h3
  unfold nz
  by_cases h0:M=0
  ·rw [if_pos h0];simp only;rw [Ft];omega
  ·rw [if_neg h0];simp only
   have:=IW M (2^tz M)
   obtain ⟨_,_,hq⟩:=Eo h0
   omega
 obtain ⟨⟨s,n⟩,e⟩:=x
 obtain ⟨⟨t,m⟩,f⟩:=y
 obtain ⟨b1,b2,b3⟩:=bx
 obtain ⟨c1,c2,c3⟩:=by'
 simp only at b1 b2 b3 c1 c2 c3
 have zero:∀ {r:Aj} {N:Int},VEq r N E→r.m.Abs=0→N=0:=by
  intro r N h h0
  obtain ⟨a,b,hab⟩:=Fd r.e E
  have h1:=h.2 a b hab
  rw [h0,Z0,Int.zero_mul] at h1
  rcases Int.mul_eq_zero.1 h1.symm with h2 | h2
  ·exact h2
  ·have:=p2 b;omega
 by_cases hn:n=0
 ·have:=zero hx hn
  subst hn this
  have hc:nz t m f=⟨⟨t,m⟩,f⟩:=(IZ t m f).uniq (by
   refine ⟨hy.1,fun i j hij=>?_⟩
   simp only at hij ⊢
   rw [show i=j by omega])
  refine ⟨_,plus0l s t m e f (by omega) (by omega) (by omega) (by omega) (by omega),?_,bnz _ _ _ (by omega) (by omega) (by omega)⟩
  rw [hc,Int.zero_add];exact hy
 ·by_cases hm:m=0
  ·have:=zero hy hm
   subst hm this
   have hc:nz s n e=⟨⟨s,n⟩,e⟩:=(IZ s n e).uniq (by
    refine ⟨hx.1,fun i j hij=>?_⟩
    simp only at hij ⊢
    rw [show i=j by omega])
   refine ⟨_,plus0r s t n e f hn (by omega) (by omega) (by omega),?_,bnz _ _ _ (by omega) (by omega) (by omega)⟩
   rw [hc,Int.add_zero];exact hx
  ·obtain ⟨a,ha⟩:∃a:Nat,(e - min e f).toNat=a:=⟨_,rfl⟩
   obtain ⟨c,hc⟩:∃c:Nat,(f - min e f).toNat=c:=⟨_,rfl⟩
   have hp:=plusP s t n m e f hn hm (by omega) (by omega) (by omega) (by omega) (by omega) (by omega) (by omega) (by omega) _ _ rfl rfl
   rw [ha,hc] at hp
   refine ⟨_,hp,?_,bnz _ _ _ ?_ (by omega) (by omega)⟩
   ·obtain ⟨p,q,hpq⟩:=Fd (min e f) E
    refine (IZ _ _ _).base hpq ?_
    rw [addZ_Z,Fm,Fm,Int.add_mul,Int.add_mul,Int.mul_assoc,Int.mul_assoc,←p2add,←p2add]
    have h1:=hx.2 (a+p) q (by simp only;omega)
    have h2:=hy.2 (c+p) q (by simp only;omega)
    simp only at h1 h2
    rw [h1,h2]
   ·have e1:bl (n*2^a)≤29000:=by have:=Hp n a;omega
    have e2:bl (m*2^c)≤29000:=by have:=Hp m c;omega
    have l0:=JG e1 e2
    have hsum:∀X:Nat,X≤n*2^a+m*2^c→bl X≤30000:=fun X hX=>by have:=JA hX;omega
    apply hsum
    unfold addZ
    generalize n*2^a=A
    generalize m*2^c=C
    split
    ·exact Nat.le_refl _
    ·split<;>simp only<;>omega
theorem VEq.cmp {x y:Aj} {N N' E:Int} (hx:VEq x N E) (hy:VEq y N' E) (bx:bl x.m.Abs≤20000∧-1000000≤x.e∧x.e≤1000000) (by':bl y.m.Abs≤20000∧-1000000≤y.e∧y.e≤1000000) :
  ∃c,Bb x y=some c∧(c<0↔N<N')∧(0<c↔N' < N):=by
 obtain ⟨c,hc,h⟩:=Pq.cmp x.m.Neg y.m.Neg x.m.Abs y.m.Abs x.e y.e bx.1 by'.1 bx.2.1 bx.2.2 by'.2.1 by'.2.2
 obtain ⟨i,j,hij⟩:=Fd x.e y.e
 have h1:=h i j hij
 have h2:=hx.cross hy hij
 have h3:=hy.cross hx (i:=j) (j:=i) (by omega)
 refine ⟨c,hc,?_,?_⟩
 ·rw [h1.1,←Int.not_le,h3,Int.not_le]
 ·rw [h1.2,←Int.not_le,h2,Int.not_le]
theorem VT.veq {d:Af} (h:VT d):VEq (ofD d) (Z d.Man.Neg d.Man.Abs) d.Exp:=by
 rw [canonV h];exact IZ _ _ _
theorem VT.of {r:Aj} (h:Cb r):VT (toD r):=(outOK h).2
end Go.Proofs.Pq
namespace Go.Proofs.Pq
set_option linter.unusedVariables false
set_option linter.unusedSimpArgs false
set_option maxRecDepth 4000
open Go.Proofs Go.Sb Go.Proofs.Sbn Go.Proofs.Lf
theorem Lx (s:Bool) (M b:Nat) (e dir:Int) (hM:bl M≤20000) (hb:1≤b) (hb':b≤4096) (he : -900000≤e) (he':e≤900000) :
  ∃r,Av (nz s M e) (b:Int) dir false=some r∧Cb r:=by
 by_cases hM0:M=0
 ·subst hM0
  refine ⟨⟨⟨false,0⟩,0⟩,?_,by decide,by decide,by decide,false,0,0,rfl⟩
  unfold nz
  rw [if_pos rfl]
  unfold Av
  rw [wBits (show Sm 0 from sm0),sB,Ft,w64 (x:=((0:Nat):Int) - (b:Int)) (by omega) (by omega),if_pos (by omega),sB,if_pos (by decide)]
  rfl
 ·obtain ⟨q,hq,hqb⟩:=Eo hM0
  have hp:=Nat.two_pow_pos (tz M)
  have hqd:M/2^tz M=2*q+1:=by generalize tz M=z at *;rw [hq,Nat.mul_div_cancel_left _ hp]
  have hbl:bl M=bl (2*q+1)+tz M:=by
   have:=Ll (n:=2*q+1) (k:=tz M) (by omega)
   rw [Nat.mul_comm] at this
   generalize tz M=z at *;rw [hq];exact this
  have hnz:nz s M e=⟨⟨s,2*q+1⟩,e+tz M⟩:=by unfold nz;rw [if_neg hM0,hqd]
  by_cases h:bl (2*q+1)≤b
  ·refine ⟨nz s M e,?_,?_⟩
   ·rw [hnz]
    unfold Av
    rw [wBits (by unfold Sm;simp only;omega),sB,w64 (x:=(bl (2*q+1):Int) - (b:Int)) (by omega) (by omega),if_pos (by omega),sB,if_pos (by decide),normal _ _ _ (by unfold Sm;omega) (by simp only;omega) (by simp only;omega),KR (by omega)]
    rfl
   ·rw [hnz]
    refine ⟨by simp only;omega,by simp only;omega,by simp only;omega,s,M,e,hnz.symm⟩
  ·have hpr:=Li s (2*q+1) b (e+tz M) dir (by omega) hb (by omega) (by omega) (by omega)
   refine ⟨_,by rw [hnz];exact hpr,?_⟩
   have hqn:2*q+1≠0:=by omega
   have h2:=(Fh hqn).2.1
   have h3:(2*q+1)/2^(bl (2*q+1) - b)<2^b:=by
    rw [Nat.div_lt_iff_lt_mul (Nat.two_pow_pos _),←Nat.pow_add,show b+(bl (2*q+1) - b)=bl (2*q+1) by omega];exact h2
   have h4:∀c:Bool,(if c=true then 1 else 0)≤1:=by intro c;cases c<;>decide
   unfold rn
   generalize hG:(2*q+1)/2^(bl (2*q+1) - b)+(if up (decide ((2*q+1)%2^(bl (2*q+1) - b)=0)) (sgnc (2*((2*q+1)%2^(bl (2*q+1) - b))) (2^(bl (2*q+1) - b))) (decide ((2*q+1)/2^(bl (2*q+1) - b)%2=1)) s dir=true then 1 else 0)=G
   have hGb:G≤2^b:=by rw [←hG];exact Nat.le_trans (Nat.add_le_add_left (h4 _) _) h3
   have hGl:bl G≤b+1:=by rw [EK,Nat.pow_succ];have:=Nat.two_pow_pos b;omega
   refine ⟨?_,?_,?_,s,G,_,rfl⟩
   all_goals
    unfold nz
    by_cases hG0:G=0
    ·rw [if_pos hG0];simp only;first | (rw [Ft];omega) | omega
    ·rw [if_neg hG0];simp only
     have:=IW G (2^tz G)
     obtain ⟨_,_,hq2⟩:=Eo hG0
     omega
theorem plusC (x y:Af) (hxs:bl x.Man.Abs≤9000) (hys:bl y.Man.Abs≤9000) (h1 : -5000≤x.Exp) (h2:x.Exp≤5000) (h3 : -5000≤y.Exp) (h4:y.Exp≤5000) :
  ∃σ M E,Bf (ofD x) (ofD y)=some (nz σ M E)∧bl M≤20000∧-5000≤E∧E≤5000:=by
 obtain ⟨⟨s,n⟩,e⟩:=x
 obtain ⟨⟨t,m⟩,f⟩:=y
 simp only at hxs hys h1 h2 h3 h4
 by_cases hn:n=0
 ·subst hn
  exact ⟨t,m,f,plus0l s t m e f (by omega) (by omega) (by omega) (by omega) (by omega),by omega,h3,h4⟩
 ·by_cases hm:m=0
  ·subst hm
   exact ⟨s,n,e,plus0r s t n e f hn (by omega) (by omega) (by omega),by omega,h1,h2⟩
  ·refine ⟨_,_,_,plusP s t n m e f hn hm (by omega) (by omega) (by omega) (by omega) (by omega) (by omega) (by omega) (by omega) _ _ rfl rfl,?_,by omega,by omega⟩
   obtain ⟨a,ha⟩:∃a:Nat,(e - min e f).toNat=a:=⟨_,rfl⟩
   obtain ⟨c,hc⟩:∃c:Nat,(f - min e f).toNat=c:=⟨_,rfl⟩
   rw [ha,hc]
   have e1:bl (n*2^a)≤19000:=by have:=Hp n a;omega
   have e2:bl (m*2^c)≤19000:=by have:=Hp m c;omega
   generalize n*2^a=A at *
   generalize m*2^c=C at *
   have l0:=JG e1 e2
   have hsum:∀X:Nat,X≤A+C→bl X≤20000:=fun X hX=>by have:=JA hX;omega
   apply hsum
   unfold addZ
   split
   ·exact Nat.le_refl _
   ·split<;>simp only<;>omega
theorem timesC (x y:Af) (hxs:bl x.Man.Abs≤9000) (hys:bl y.Man.Abs≤9000) (h1 : -5000≤x.Exp) (h2:x.Exp≤5000) (h3 : -5000≤y.Exp) (h4:y.Exp≤5000) :
  ∃σ M E,Ch (ofD x) (ofD y)=some (nz σ M E)∧bl M≤18000∧-10000≤E∧E≤10000:=by
 obtain ⟨⟨s,n⟩,e⟩:=x
 obtain ⟨⟨t,m⟩,f⟩:=y
 simp only at hxs hys h1 h2 h3 h4
 have hM:bl (n*m)≤18000:=by have:=KD n m;omega
 refine ⟨decide (¬s=t),n*m,e+f,?_,hM,by omega,by omega⟩
 unfold Ch ES ofD
 simp only
 rw [wMul (by unfold Sm;omega) (by unfold Sm;omega),sB,sB,w64 (x:=e+f) (by omega) (by omega),normal _ _ _ (by unfold Sm;omega) (by omega) (by omega)];rfl
end Go.Proofs.Pq
namespace Go.Proofs.Pq
set_option linter.unusedVariables false
set_option linter.unusedSimpArgs false
set_option maxRecDepth 4000
open Go.Proofs Go.Sb Go.Proofs.Sbn Go.Proofs.Lf
def inc (N D:Nat) (s:Bool) (dir:Int):Nat:=if up (decide (N%D=0)) (sgnc (2*(N%D)) D) (decide (N/D%2=1)) s dir=true then 1 else 0
theorem inc_le (N D:Nat) (s:Bool) (dir:Int):inc N D s dir≤1:=by unfold inc;split<;>decide
theorem inc_0 {N D:Nat} {s:Bool} {dir:Int} (h:N%D=0):inc N D s dir=0:=by
 unfold inc;rw [decide_eq_true h];rfl
theorem IX (s:Bool) (N D:Nat) (e dir:Int):rn s N D e dir=nz s (N/D+inc N D s dir) e:=rfl
theorem up_mono {z z':Bool} {h h':Int} {o s:Bool} {dir:Int} (hz:z'=true→z=true) (hh:h≤h') (hu:up z h o s dir=true):up z' h' o s dir=true:=by
 have hz0:z=false:=by
  cases z
  ·rfl
  ·unfold up at hu;cases hu
 have hz1:z'=false:=by
  cases z'
  ·rfl
  ·rw [hz rfl] at hz0;cases hz0
 subst hz0 hz1
 unfold up at hu ⊢
 simp only [Bool.false_eq_true,if_false] at hu ⊢
 by_cases d1:dir=1
 ·rw [if_pos d1] at hu ⊢
  simp only [Bool.or_eq_true,Bool.and_eq_true,decide_eq_true_eq] at hu ⊢
  rcases hu with h1 | ⟨h1,h2⟩
  ·left;omega
  ·rcases Int.lt_or_eq_of_le (show (0:Int)≤h' by omega) with h3 | h3
   ·left;exact h3
   ·right;exact ⟨h3.symm,h2⟩
 ·rw [if_neg d1] at hu ⊢
  by_cases d2:dir=2
  ·rw [if_pos d2] at hu ⊢
   simp only [decide_eq_true_eq] at hu ⊢;omega
  ·rw [if_neg d2] at hu ⊢;exact hu
theorem KY (a b:Nat) : -1≤sgnc a b∧sgnc a b≤1∧(sgnc a b<0↔a<b)∧(0<sgnc a b↔b<a):=by unfold sgnc;split<;>(try split)<;>omega
theorem sgnc_le {a b c d:Nat} (h:a*d≤c*b) (hb:0<b) (hd:0<d):sgnc a b≤sgnc c d:=by
 have x1:=KY a b
 have x2:=KY c d
 have y1:b≤a→d≤c:=fun h1=>by
  have h3:b*d≤a*d:=Nat.mul_le_mul_right _ h1
  have h4:d*b≤c*b:=by rw [Nat.mul_comm d b];omega
  exact Nat.le_of_mul_le_mul_right h4 hb
 have y2:b<a→d<c:=fun h5=>by
  refine Nat.lt_of_not_le fun h7=>?_
  have h8:c=d:=Nat.le_antisymm h7 (y1 (Nat.le_of_lt h5))
  subst h8
  have h9:b*c<a*c:=Nat.mul_lt_mul_of_pos_right h5 hd
  rw [Nat.mul_comm b c] at h9;omega
 omega
theorem Jw {N D N' D' b k k' i j:Nat} {e e' dir:Int} {s:Bool} (hD:0<D) (hD':0<D') (hb:0<b)
  (h1:N/D<2^b) (h2:2^(b - 1)≤N/D) (h1':N' / D' < 2^b) (h2':2^(b - 1)≤N' / D')
  (he:e - k=e' - k') (h:N*D' * 2^k≤N' * D*2^k') (hij:e - e'=(i:Int) - j) :
  (N/D+inc N D s dir)*2^i≤(N' / D' + inc N' D' s dir)*2^j:=by
 have hm:=Nat.div_add_mod N D
 have hm':=Nat.div_add_mod N' D'
 have hr:=Nat.mod_lt N hD
 have hr':=Nat.mod_lt N' hD'
 have hi:=inc_le N D s dir
 have hmono:=mag_mono hD hD' hb h1 h2 h1' h2' he h hij
 rcases Int.lt_trichotomy e e' with hl | hl | hl
 ·refine Nat.le_trans (Nat.mul_le_mul_right _ (Nat.add_le_add_left hi _)) (Nat.le_trans ?_ (Nat.mul_le_mul_right _ (Nat.le_add_right _ _)))
  obtain ⟨q,hq⟩:∃q,j=i+1+q:=⟨j - i - 1,by omega⟩
  calc (N/D+1)*2^i≤2^b*2^i:=Nat.mul_le_mul_right _ h1
   _=2^(b - 1)*2^(i+1):=by rw [←Nat.pow_add,←Nat.pow_add];congr 1;omega
   _≤2^(b - 1)*2^j:=Nat.mul_le_mul_left _ (Nat.pow_le_pow_right (by decide) (by omega))
   _≤N' / D' * 2^j:=Nat.mul_le_mul_right _ h2'
 ·have hk:k=k':=by omega
  have hij2:i=j:=by omega
  subst hk hij2
  have h3:N*D'≤N' * D:=Nat.le_of_mul_le_mul_right h (Nat.two_pow_pos k)
  have h4:N/D≤N' / D':=Nat.le_of_mul_le_mul_right hmono.1 (Nat.two_pow_pos i)
  refine Nat.mul_le_mul_right _ ?_
  rcases Nat.lt_or_eq_of_le h4 with h5 | h5
  ·exact Nat.le_trans (Nat.add_le_add_left hi _) (Nat.le_trans h5 (Nat.le_add_right _ _))
  ·rw [←h5]
   refine Nat.add_le_add_left ?_ _
   have h6:N%D*D'≤N' % D' * D:=by
    have e1:N*D'=D*(N/D)*D' + N%D*D':=by rw [←Nat.add_mul,hm]
    have e2:N' * D=D' * (N' / D')*D+N' % D' * D:=by rw [←Nat.add_mul,hm']
    have e3:D*(N/D)*D'=D' * (N' / D')*D:=by rw [←h5];simp only [Nat.mul_assoc,Nat.mul_comm,Nat.mul_left_comm]
    omega
   unfold inc
   by_cases hu:up (decide (N%D=0)) (sgnc (2*(N%D)) D) (decide (N/D%2=1)) s dir=true
   ·have hu2:=up_mono (z':=decide (N' % D'=0)) (h':=sgnc (2*(N' % D')) D') (fun hz=>by
     have hz:=of_decide_eq_true hz
     rw [hz,Nat.zero_mul] at h6
     rcases Nat.mul_eq_zero.1 (Nat.le_zero.1 h6) with h7 | h7
     ·exact decide_eq_true h7
     ·omega) (sgnc_le (by rw [Nat.mul_assoc,Nat.mul_assoc];exact Nat.mul_le_mul_left _ h6) hD hD') hu
    rw [if_pos hu,←h5,if_pos hu2];exact Nat.le_refl _
   ·rw [if_neg hu];exact Nat.zero_le _
 ·have h9:=hmono.1
  exfalso
  obtain ⟨q,hq⟩:∃q,k=k' + (q+1):=⟨k - k' - 1,by omega⟩
  rw [hq,Nat.pow_add,Nat.mul_comm (2^k') (2^(q+1)),←Nat.mul_assoc] at h
  have h3:=Nat.le_of_mul_le_mul_right h (Nat.two_pow_pos k')
  have a1:N' < 2^b*D':=by rwa [Nat.div_lt_iff_lt_mul hD'] at h1'
  have a2:2^(b - 1)*D≤N:=by rwa [Nat.le_div_iff_mul_le hD] at h2
  have a4:N' * D<2^b*D' * D:=Nat.mul_lt_mul_of_pos_right a1 hD
  have a5:2^(b - 1)*D*D' * 2≤N*D' * 2^(q+1):=by
   apply Nat.mul_le_mul (Nat.mul_le_mul_right _ a2)
   rw [Nat.pow_succ];have:=Nat.two_pow_pos q;omega
  have a3:2^b=2^(b - 1)*2:=by rw [←Nat.pow_succ];congr 1;omega
  rw [a3] at a4
  generalize 2^(b - 1)=P at *
  have:P*2*D' * D=P*D*D' * 2:=by simp only [Nat.mul_assoc,Nat.mul_comm,Nat.mul_left_comm]
  omega
def RO (d:Af) (k:Nat) (dir:Int):Aj:=
 if d.Man.Abs=0 then ⟨⟨false,0⟩,0⟩ else rn d.Man.Neg (d.Man.Abs*2^(k - bl d.Man.Abs)) (2^(bl d.Man.Abs - k)) (d.Exp+((bl d.Man.Abs - k:Nat):Int) - ((k - bl d.Man.Abs:Nat):Int)) dir
theorem RO_small {d:Af} {k:Nat} {dir:Int} (hd:VT d) (h:bl d.Man.Abs≤k):RO d k dir=ofD d:=by
 unfold RO
 by_cases h0:d.Man.Abs=0
 ·obtain ⟨h1,h2⟩:=hd.z h0
  obtain ⟨⟨s,n⟩,e⟩:=d
  simp only at h0 h1 h2
  subst h0 h1 h2;rfl
 ·rw [if_neg h0,IX,show bl d.Man.Abs - k=0 by omega,Nat.pow_zero,Nat.div_one,inc_0 (Nat.mod_one _),Nat.add_zero,canonV hd]
  exact nz_shl' _ _ _ _ _ (by omega)
theorem Ju {n k:Nat} (h0:n≠0) (hk:1≤k):n*2^(k - bl n)/2^(bl n - k)<2^k∧2^(k - 1)≤n*2^(k - bl n)/2^(bl n - k):=by
 obtain ⟨a1,a2,a3⟩:=Fh h0
 constructor
 ·rw [Nat.div_lt_iff_lt_mul (Nat.two_pow_pos _),←Nat.pow_add]
  calc n*2^(k - bl n)<2^bl n*2^(k - bl n):=Nat.mul_lt_mul_of_pos_right a2 (Nat.two_pow_pos _)
   _=2^(k+(bl n - k)):=by rw [←Nat.pow_add];congr 1;omega
 ·rw [Nat.le_div_iff_mul_le (Nat.two_pow_pos _),←Nat.pow_add]
  calc 2^(k - 1+(bl n - k))=2^(bl n - 1)*2^(k - bl n):=by rw [←Nat.pow_add];congr 1;omega
   _≤n*2^(k - bl n):=Nat.mul_le_mul_right _ a1
theorem JR (d:Af) (k:Nat) (dir:Int) (hd:VT d) (ld:Lt d) (hk:1≤k) (hk':k≤4096) (hdir:1≤dir∧dir≤5):BQ (toL d) (k:Int) dir=some (toD (RO d k dir),0)∧Cb (RO d k dir):=by
 have key:Av (ofD d) (k:Int) dir false=some (RO d k dir)∧Cb (RO d k dir):=by
  obtain ⟨r,r1,r3⟩:=Lx d.Man.Neg d.Man.Abs k d.Exp dir (by have:=ld.2;omega) hk hk' (by have:=ld.1.l;omega) (by have:=ld.1.u;omega)
  rw [←canonV hd] at r1
  have hr:r=RO d k dir:=by
   by_cases h:bl d.Man.Abs≤k
   ·rw [RO_small hd h]
    have h1:Av (ofD d) (k:Int) dir false=some (ofD d):=by
     unfold Av ofD
     rw [wBits (show Sm d.Man.Abs from hd.sm),sB,w64 (x:=(bl d.Man.Abs:Int) - (k:Int)) (by have:=ld.2;omega) (by have:=ld.2;omega),if_pos (by omega),sB,if_pos (by decide),normal _ _ _ hd.sm (by have:=ld.1.l;simp only;omega) (by have:=ld.1.u;simp only;omega)]
     have:=canonV hd
     unfold ofD at this
     show some (nz d.Man.Neg d.Man.Abs d.Exp)=_
     rw [this]
    exact Option.some.inj (r1.symm.trans h1)
   ·have h0:d.Man.Abs≠0:=by intro h0;rw [h0,Ft] at h;omega
    have h1:=Li d.Man.Neg d.Man.Abs k d.Exp dir (by have:=ld.2;omega) hk (by omega) (by have:=ld.1.l;omega) (by have:=ld.1.u;omega)
    have h2:r=_:=Option.some.inj (r1.symm.trans h1)
    rw [h2]
    unfold RO
    rw [if_neg h0,show k - bl d.Man.Abs=0 by omega,Nat.pow_zero,Nat.mul_one]
    congr 1
    omega
  rw [hr] at r1 r3
  exact ⟨r1,r3⟩
 refine ⟨?_,key.2⟩
 have hf:=fineP (k:Int)
 rw [if_pos (show 1≤(k:Int)∧(k:Int)≤4096 by omega)] at hf
 have hdr:DK dir=some (.ok ()):=by
  unfold DK
  rw [if_pos hdir.1,sB,decide_eq_true hdir.2];rfl
 unfold BQ FX
 rw [Lg hd,mbo,hf,mbo,hdr,mbo,toNT,sB,inT,sB,key.1,sB,(outOK key.2).1,mbo]
 rfl
end Go.Proofs.Pq
namespace Go.Proofs.Pq
set_option linter.unusedVariables false
set_option linter.unusedSimpArgs false
set_option maxRecDepth 4000
open Go.Proofs Go.Sb Go.Proofs.Sbn Go.Proofs.Lf
def Bm (r:Aj):Prop:=bl r.m.Abs≤20000∧-1000000≤r.e∧r.e≤1000000
theorem Cb.bm {r:Aj} (h:Cb r):Bm r:=⟨h.1,h.2.1,h.2.2.1⟩
theorem Lt.bm {d:Af} (h:Lt d):Bm (ofD d):=⟨by have:=h.2;show bl d.Man.Abs≤_;omega,by have:=h.1.l;show _≤d.Exp;omega,by have:=h.1.u;show d.Exp≤_;omega⟩
theorem Cmp_ok (x y:Af) (hx:VT x) (hy:VT y) {c:Int} (h:Bb (ofD x) (ofD y)=some c):FR (toL x) (toL y)=some (c,0):=by
 unfold FR Hs
 rw [Jg hx hy,mbo,toNT,sB,inT,sB,toNT,sB,inT,sB,h,sB];rfl
theorem below_ok (x y:Af) (hx:VT x) (hy:VT y) (bx:Bm (ofD x)) (by':Bm (ofD y)):∃v,BK x y=some v∧(v=true→LeV (ofD x) (ofD y))∧(v=false→LeV (ofD y) (ofD x))∧(LeV (ofD x) (ofD y)→v=true):=by
 obtain ⟨c,hc,c1,c2⟩:=Mx (ofD x) (ofD y) bx.1 by'.1 bx.2.1 bx.2.2 by'.2.1 by'.2.2
 refine ⟨decide (c≤0),?_,fun h=>c2.1 (by have:=of_decide_eq_true h;omega),fun h=>c1.1 (by have:=of_decide_eq_false h;omega),fun h=>decide_eq_true (by have:=c2.2 h;omega)⟩
 unfold BK
 rw [show FR ⟨⟨x.Man.Neg,limbs x.Man.Abs⟩,x.Exp⟩ ⟨⟨y.Man.Neg,limbs y.Man.Abs⟩,y.Exp⟩=_ from Cmp_ok x y hx hy hc]
 rfl
theorem RO_mono (x y:Af) (hx:VT x) (hy:VT y) (k:Nat) (dir:Int) (hk:1≤k) (h:LeV (ofD x) (ofD y)):LeV (RO x k dir) (RO y k dir):=by
 obtain ⟨⟨s,n⟩,e⟩:=x
 obtain ⟨⟨t,m⟩,f⟩:=y
 have h:∀i j:Nat,e - f=(i:Int) - j→Z s n*(2^i:Nat)≤Z t m*(2^j:Nat):=h
 have nz0:∀(σ:Bool) (F:Int),nz σ 0 F=⟨⟨false,0⟩,0⟩:=fun _ _=>rfl
 unfold RO
 simp only
 by_cases hn:n=0<;>by_cases hm:m=0
 ·rw [if_pos hn,if_pos hm]
  intro i j _
  show Z false 0*_≤Z false 0*_
  rw [Z0,Int.zero_mul,Int.zero_mul];exact Int.le_refl _
 ·obtain ⟨i,j,hij⟩:=Fd e f
  have h1:=h i j hij
  rw [hn,Z0,Int.zero_mul,(HA t (Nat.two_pow_pos j)).1,(LK hm).1] at h1
  rw [if_pos hn,if_neg hm,IX,h1,←nz0 false (f+((bl m - k:Nat):Int) - ((k - bl m:Nat):Int))]
  refine IQ (i:=0) (j:=0) (by omega) ?_
  rw [Z0,Int.zero_mul]
  exact (HA false (Nat.two_pow_pos 0)).1.2 (by unfold Z;rw [if_neg (by decide)];exact Int.natCast_nonneg _)
 ·obtain ⟨i,j,hij⟩:=Fd e f
  have h1:=h i j hij
  rw [hm,Z0,Int.zero_mul,(HA s (Nat.two_pow_pos i)).2,(LK hn).2] at h1
  rw [if_neg hn,if_pos hm,IX,h1,←nz0 false (e+((bl n - k:Nat):Int) - ((k - bl n:Nat):Int))]
  refine IQ (i:=0) (j:=0) (by omega) ?_
  rw [Z0,Int.zero_mul]
  exact (HA true (Nat.two_pow_pos 0)).2.2 (by unfold Z;rw [if_pos rfl];exact Int.neg_nonpos_of_nonneg (Int.natCast_nonneg _))
 ·rw [if_neg hn,if_neg hm,IX,IX]
  obtain ⟨a1,a2⟩:=Ju hn hk
  obtain ⟨b1,b2⟩:=Ju hm hk
  obtain ⟨A,hA⟩:∃A,k - bl n=A:=⟨_,rfl⟩
  obtain ⟨B,hB⟩:∃B,bl n - k=B:=⟨_,rfl⟩
  obtain ⟨A',hA'⟩:∃A',k - bl m=A':=⟨_,rfl⟩
  obtain ⟨B',hB'⟩:∃B',bl m - k=B':=⟨_,rfl⟩
  rw [hA,hB] at a1 a2 ⊢
  rw [hA',hB'] at b1 b2 ⊢
  obtain ⟨p,q,hpq⟩:=Fd (e+(B:Int) - (A:Int)) (f+(B':Int) - (A':Int))
  have h1:=h (A+B' + p) (A' + B+q) (by omega)
  have hD:=Nat.two_pow_pos B
  have hD':=Nat.two_pow_pos B'
  have e1:n*2^A*2^B' * 2^p=n*2^(A+B' + p):=by rw [Nat.pow_add,Nat.pow_add];simp only [Nat.mul_assoc]
  have e2:m*2^A' * 2^B*2^q=m*2^(A' + B+q):=by rw [Nat.pow_add,Nat.pow_add];simp only [Nat.mul_assoc]
  rw [←Fm,←Fm,←e1,←e2] at h1
  cases s
  ·cases t
   ·refine IQ hpq ?_
    rw [←Fm,←Fm]
    exact LB.1.2 (Jw hD hD' (by omega) a1 a2 b1 b2 (k:=p) (k':=q) (by omega) (LB.1.1 h1) hpq)
   ·exfalso
    have q1:0<n*2^A*2^B' * 2^p:=Nat.mul_pos (Nat.mul_pos (Nat.mul_pos (by omega) (Nat.two_pow_pos _)) hD') (Nat.two_pow_pos _)
    generalize n*2^A*2^B' * 2^p=X at *
    generalize m*2^A' * 2^B*2^q=Y at *
    simp only [Z,if_true,Bool.false_eq_true,if_false] at h1
    omega
  ·cases t
   ·refine IQ hpq ?_
    rw [←Fm,←Fm];exact Z_tf _ _
   ·refine IQ hpq ?_
    rw [←Fm,←Fm]
    exact LB.2.2 (Jw (e:=f+(B':Int) - (A':Int)) (e':=e+(B:Int) - (A:Int)) hD' hD (by omega) b1 b2 a1 a2 (k:=q) (k':=p) (by omega) (LB.2.1 h1) (by omega))
def Lt2 (d:Af):Prop:=bl d.Man.Abs≤1930∧-3000≤d.Exp∧d.Exp≤3000
end Go.Proofs.Pq
namespace Go.Proofs.Pq
set_option linter.unusedVariables false
set_option linter.unusedSimpArgs false
set_option maxRecDepth 4000
open Go.Proofs Go.Sb Go.Proofs.Sbn Go.Proofs.Lf
theorem LA {d:Af} (hd:VT d) (h1:bl d.Man.Abs≤9000) (h2 : -5000≤d.Exp) (h3:d.Exp≤5000):Lt d:=⟨⟨fun h=>(hd.z h).1,by omega,h2,h3⟩,h1⟩
theorem Lt2.lt {d:Af} (hd:VT d) (h:Lt2 d):Lt d:=LA hd (by have:=h.1;omega) (by have:=h.2.1;omega) (by have:=h.2.2;omega)
theorem sameNe (a b:Af) (h:Sm a.Man.Abs) (hne:a≠b):AE a b=some false:=by
 obtain ⟨⟨s,n⟩,e⟩:=a
 obtain ⟨⟨t,m⟩,f⟩:=b
 unfold AE CG
 simp only at h ⊢
 by_cases h1:s=t
 ·rw [if_pos h1,same _ _ h,sB,sB,sB]
  by_cases h2:n=m
  ·rw [decide_eq_true h2,if_pos rfl,sB]
   subst h1 h2
   by_cases h3:e=f
   ·subst h3;exact absurd rfl hne
   ·rw [decide_eq_false h3]
  ·rw [decide_eq_false h2,if_neg (by simp),sB]
 ·rw [if_neg h1,sB,sB,if_neg (by simp),sB]
theorem Cb.sm {r:Aj} (h:Cb r):Sm (toD r).Man.Abs:=(outOK h).2.sm
theorem sameR {r r':Aj} (h:Cb r) (he:r=r'):AE (toD r) (toD r')=some true:=by
 subst he;exact Me _ h.sm
theorem sameN {r r':Aj} (h:Cb r) (he:r≠r'):AE (toD r) (toD r')=some false:=by
 refine sameNe _ _ h.sm fun h2=>?_
 obtain ⟨⟨s,n⟩,e⟩:=r
 obtain ⟨⟨t,m⟩,f⟩:=r'
 apply he
 have h3:=congrArg (fun x:Af=>(⟨x.Man,x.Exp⟩:Aj)) h2
 exact h3
end Go.Proofs.Pq
namespace Go.Proofs.Pq
set_option linter.unusedVariables false
set_option linter.unusedSimpArgs false
set_option maxRecDepth 4000
open Go.Proofs Go.Sb Go.Proofs.Sbn Go.Proofs.Lf
theorem VEq.inj {r:Aj} {N N' E:Int} (h:VEq r N E) (h':VEq r N' E):N=N':=by
 have h1:=(h.cross h' (i:=0) (j:=0) (by omega)).1 (Int.le_refl _)
 have h2:=(h'.cross h (i:=0) (j:=0) (by omega)).1 (Int.le_refl _)
 omega
end Go.Proofs.Pq
namespace Go.Proofs.Pq
set_option linter.unusedVariables false
set_option linter.unusedSimpArgs false
set_option maxRecDepth 4000
open Go.Proofs Go.Sb Go.Proofs.Sbn Go.Proofs.Lf
theorem nearB (x y:Aj) (bx:Bd x) (by':Bd y):EB x y=some true:=by
 obtain ⟨⟨s,n⟩,e⟩:=x
 obtain ⟨⟨t,m⟩,f⟩:=y
 obtain ⟨hxs,h1,h2⟩:=bx
 obtain ⟨hys,h3,h4⟩:=by'
 simp only at hxs hys h1 h2 h3 h4
 unfold EB
 rw [sign,sB]
 by_cases hn:n=0
 ·rw [if_pos (by rw [if_pos hn])];rfl
 ·rw [if_neg (by rw [if_neg hn];split<;>decide),sign,sB,sB]
  by_cases hm:m=0
  ·rw [if_pos hm];rfl
  ·rw [decide_eq_false (by rw [if_neg hm];split<;>decide),if_neg (by decide)]
   unfold Cd
   simp only
   rw [wBits (show Sm n by unfold Sm;omega),sB,sB,wBits (show Sm m by unfold Sm;omega),sB,sB]
   rw [w64 (x:=(bl n:Int) - 1) (by omega) (by omega),w64 (x:=(bl n:Int) - 1+e) (by omega) (by omega),w64 (x:=(bl m:Int) - 1) (by omega) (by omega),w64 (x:=(bl m:Int) - 1+f) (by omega) (by omega)]
   rw [w64 (x:=max ((bl n:Int) - 1+e) ((bl m:Int) - 1+f) - min e f) (by omega) (by omega),decide_eq_true (by omega)]
structure EX (d:Af) (N E:Int) (B m:Nat):Prop where
 v:VT d
 e:VEq (ofD d) N E
 b:N.natAbs<2^B
 m:bl d.Man.Abs≤m
theorem VEq.small {d:Af} {N E:Int} {B:Nat} (h:VEq (ofD d) N E) (hv:VT d) (hN:N.natAbs<2^B):d.Man.Abs=0∨(E≤d.Exp∧d.Exp+bl d.Man.Abs≤E+B):=by
 by_cases h0:d.Man.Abs=0
 ·exact Or.inl h0
 ·refine Or.inr ?_
  have hodd:=(hv.o h0).1
  have hE:E≤d.Exp:=by
   refine Int.not_lt.1 fun hlt=>?_
   obtain ⟨j,hj⟩:∃j:Nat,E - d.Exp=(j:Int)+1:=⟨(E - d.Exp - 1).toNat,by omega⟩
   have h1:=h.2 0 (j+1) (by show d.Exp - E=_;omega)
   rw [Nat.pow_succ,Nat.pow_zero] at h1
   have h2:Z d.Man.Neg d.Man.Abs=N*(2^j:Nat)*2:=by
    have e1:((2^j*2:Nat):Int)=(2^j:Nat)*2:=by rw [Int.natCast_mul];rfl
    have e2:Z (ofD d).m.Neg (ofD d).m.Abs=Z d.Man.Neg d.Man.Abs:=rfl
    rw [e1,e2,←Int.mul_assoc] at h1
    simpa using h1
   generalize N*((2^j:Nat):Int)=X at h2
   unfold Z at h2
   split at h2<;>omega
  obtain ⟨i,hi⟩:∃i:Nat,d.Exp - E=(i:Int):=⟨(d.Exp - E).toNat,by omega⟩
  have h1:=h.2 i 0 (by show d.Exp - E=_;omega)
  have h2:Z d.Man.Neg d.Man.Abs*(2^i:Nat)=N:=by
   have e2:Z (ofD d).m.Neg (ofD d).m.Abs=Z d.Man.Neg d.Man.Abs:=rfl
   rw [e2,Nat.pow_zero] at h1
   simpa using h1
  have h3:N.natAbs=d.Man.Abs*2^i:=by
   rw [←h2,Int.natAbs_mul,Int.natAbs_natCast]
   congr 1
   unfold Z;split
   ·rw [Int.natAbs_neg,Int.natAbs_natCast]
   ·rw [Int.natAbs_natCast]
  rw [h3] at hN
  obtain ⟨a1,a2,a3⟩:=Fh h0
  have h4:2^(bl d.Man.Abs - 1+i)<2^B:=by
   rw [Nat.pow_add]
   exact Nat.lt_of_le_of_lt (Nat.mul_le_mul_right _ a1) hN
  have h5:=(Nat.pow_lt_pow_iff_right (by decide:1<2)).1 h4
  omega
theorem EX.bd {d:Af} {N E:Int} {B m:Nat} (h:EX d N E B m) (hm:m≤9000) (h1 : -9000≤E) (h2:E+B≤9000):Bd (ofD d):=by
 have hmm:=h.m
 refine ⟨by show bl d.Man.Abs≤_;omega,?_,?_⟩
 ·show _≤d.Exp
  rcases h.e.small h.v h.b with h0 | h0
  ·rw [(h.v.z h0).2];omega
  ·omega
 ·show d.Exp≤_
  rcases h.e.small h.v h.b with h0 | h0
  ·rw [(h.v.z h0).2];omega
  ·omega
theorem EX.lt {d:Af} {N E:Int} {B m:Nat} (h:EX d N E B m) (hm:m≤9000) (h1 : -5000≤E) (h2:E+B≤5000):Lt d:=by
 have hmm:=h.m
 refine ⟨⟨fun h0=>(h.v.z h0).1,by omega,?_,?_⟩,by omega⟩
 ·rcases h.e.small h.v h.b with h0 | h0
  ·rw [(h.v.z h0).2];omega
  ·omega
 ·rcases h.e.small h.v h.b with h0 | h0
  ·rw [(h.v.z h0).2];omega
  ·omega
theorem EX.uniq {x y:Af} {N E:Int} {B m B' m':Nat} (h:EX x N E B m) (h':EX y N E B' m'):x=y:=by
 have:=h.e.uniq h'.e
 obtain ⟨⟨s,n⟩,e⟩:=x
 obtain ⟨⟨t,k⟩,f⟩:=y
 have e1:=congrArg (fun r:Aj=>(⟨r.m,r.e⟩:Af)) this
 exact e1
theorem EX.same {x y:Af} {N E:Int} {B m B' m':Nat} (h:EX x N E B m) (h':EX y N E B' m'):AE x y=some true:=by
 rw [h.uniq h'];exact Me y h'.v.sm
theorem EX.base {x:Af} {N E:Int} {B m:Nat} (h:EX x N E B m) (k:Nat):EX x (N*(2^k:Nat)) (E - k) (B+k) m:=by
 refine ⟨h.v,h.e.base (p:=k) (q:=0) (by omega) (by rw [Nat.pow_zero];omega),?_,h.m⟩
 rw [Int.natAbs_mul,Int.natAbs_natCast,Nat.pow_add]
 exact Nat.mul_lt_mul_of_pos_right h.b (Nat.two_pow_pos k)
theorem EX.of {r:Aj} {N E:Int} {B:Nat} (hv:VEq r N E) (hb:N.natAbs<2^B) (hc:Cb r):EX (toD r) N E B (bl r.m.Abs):=
 ⟨(outOK hc).2,hv,hb,Nat.le_refl _⟩
theorem natAbs_add_lt {N N':Int} {B B' C:Nat} (h:N.natAbs<2^B) (h':N'.natAbs<2^B') (h1:B<C) (h2:B' < C):(N+N').natAbs<2^C:=by
 have a1:2^B≤2^(C - 1):=Nat.pow_le_pow_right (by decide) (by omega)
 have a2:2^B'≤2^(C - 1):=Nat.pow_le_pow_right (by decide) (by omega)
 have a3:2^C=2^(C - 1)*2:=by rw [←Nat.pow_succ];congr 1;omega
 have:=Int.natAbs_add_le N N'
 generalize 2^(C - 1)=P at *
 omega
theorem canonBl {r:Aj} {N E:Int} {B:Nat} (hv:VEq r N E) (hN:N.natAbs<2^B) (h1 : -9000≤E) (h2:E+B≤100000) (hB:B≤20000):Cb r:=by
 obtain ⟨s,M,F,hr⟩:=hv.1
 by_cases h0:M=0
 ·subst h0
  rw [hr]
  exact ⟨by unfold nz;rw [if_pos rfl];simp only;rw [Ft];omega,by unfold nz;rw [if_pos rfl];simp only;omega,by unfold nz;rw [if_pos rfl];simp only;omega,_,_,_,rfl⟩
 ·have hr2:r=⟨⟨s,M/2^tz M⟩,F+tz M⟩:=by rw [hr];unfold nz;rw [if_neg h0]
  obtain ⟨t1,t2,_⟩:=Eo h0
  have hodd:r.m.Abs%2=1:=by
   have h7:r.m.Abs=M/2^tz M:=by rw [hr2]
   have h8:M/2^tz M=2*t1+1:=by
    generalize tz M=z at *
    rw [t2,Nat.mul_div_cancel_left _ (Nat.two_pow_pos z)]
   rw [h7,h8]
   omega
  have hne:r.m.Abs≠0:=by omega
  have hE:E≤r.e:=by
   refine Int.not_lt.1 fun hlt=>?_
   obtain ⟨j,hj⟩:∃j:Nat,E - r.e=(j:Int)+1:=⟨(E - r.e - 1).toNat,by omega⟩
   have h1:=hv.2 0 (j+1) (by omega)
   rw [Nat.pow_succ,Nat.pow_zero] at h1
   have h2:Z r.m.Neg r.m.Abs=N*(2^j:Nat)*2:=by
    have e1:((2^j*2:Nat):Int)=(2^j:Nat)*2:=by rw [Int.natCast_mul];rfl
    rw [e1,←Int.mul_assoc] at h1
    simpa using h1
   generalize N*((2^j:Nat):Int)=X at h2
   unfold Z at h2
   split at h2<;>omega
  obtain ⟨i,hi⟩:∃i:Nat,r.e - E=(i:Int):=⟨(r.e - E).toNat,by omega⟩
  have h3:=hv.2 i 0 (by omega)
  have h4:N.natAbs=r.m.Abs*2^i:=by
   have h2:Z r.m.Neg r.m.Abs*(2^i:Nat)=N:=by rw [Nat.pow_zero] at h3;simpa using h3
   rw [←h2,Int.natAbs_mul,Int.natAbs_natCast]
   congr 1
   unfold Z;split
   ·rw [Int.natAbs_neg,Int.natAbs_natCast]
   ·rw [Int.natAbs_natCast]
  rw [h4] at hN
  obtain ⟨a1,a2,a3⟩:=Fh hne
  have h5:2^(bl r.m.Abs - 1+i)<2^B:=by
   rw [Nat.pow_add]
   exact Nat.lt_of_le_of_lt (Nat.mul_le_mul_right _ a1) hN
  have h6:=(Nat.pow_lt_pow_iff_right (by decide:1<2)).1 h5
  exact ⟨by omega,by omega,by omega,s,M,F,hr⟩
theorem LY {x y:Af} {N N' E:Int} {B B' m m':Nat} (hx:EX x N E B m) (hy:EX y N' E B' m') (C:Nat) (c1:B<C) (c2:B' < C) (hm:m≤9000) (hm':m'≤9000) (h1 : -9000≤E) (h2:E+C≤9000) (hC:C≤20000) :
  ∃r,Fw (toL x) (toL y)=some (r,0)∧EX r (N+N') E C C:=by
 have bx:=hx.bd hm h1 (by omega)
 have b2:=hy.bd hm' h1 (by omega)
 obtain ⟨r,q1,q2,_⟩:=hx.e.plus hy.e bx b2
 have hb:=natAbs_add_lt hx.b hy.b c1 c2
 have hc:=canonBl q2 hb h1 (by omega) hC
 have ex:=EX.of q2 hb hc
 have hm2:bl r.m.Abs≤C:=by
  rcases ex.e.small ex.v hb with h0 | h0
  ·have:r.m.Abs=0:=h0
   rw [this,Ft];omega
  ·have e1:(toD r).Exp=r.e:=rfl
   have e2:(toD r).Man.Abs=r.m.Abs:=rfl
   rw [e1,e2] at h0
   omega
 refine ⟨toD r,?_,⟨ex.v,ex.e,hb,hm2⟩⟩
 unfold Fw Bi BI
 rw [Jg hx.v hy.v,mbo,toNT,sB,inT,sB,toNT,sB,inT,sB,nearB _ _ bx b2,sB,wantT,mbo,q1,sB,(outOK hc).1,mbo]
 rfl
theorem mul_x {x y:Af} {N N' E E':Int} {B B' m m':Nat} (hx:EX x N E B m) (hy:EX y N' E' B' m') (hm:m+m'≤20000) (h1 : -10000≤E) (h2:E+B≤20000) (h1' : -10000≤E') (h2':E' + B'≤20000) :
  ∃r,Di (toL x) (toL y)=some (r,0)∧EX r (N*N') (E+E') (B+B') (m+m'):=by
 have rx : -10000≤x.Exp∧x.Exp≤20000:=by
  rcases hx.e.small hx.v hx.b with h0 | h0
  ·rw [(hx.v.z h0).2];omega
  ·omega
 have ry : -10000≤y.Exp∧y.Exp≤20000:=by
  rcases hy.e.small hy.v hy.b with h0 | h0
  ·rw [(hy.v.z h0).2];omega
  ·omega
 have ex:=hx.e
 have ey:=hy.e
 have vx:=hx.v
 have vy:=hy.v
 have mx:=hx.m
 have my:=hy.m
 have bx:=hx.b
 have by':=hy.b
 obtain ⟨⟨s,n⟩,e⟩:=x
 obtain ⟨⟨t,k⟩,f⟩:=y
 simp only at rx ry mx my
 have hM:bl (n*k)≤m+m':=by have:=KD n k;omega
 have hc:Cb (nz (decide (¬s=t)) (n*k) (e+f)):=Cb.of (by omega) (by omega) (by omega)
 have hp:Ch (ofD ⟨⟨s,n⟩,e⟩) (ofD ⟨⟨t,k⟩,f⟩)=some (nz (decide (¬s=t)) (n*k) (e+f)):=by
  unfold Ch ES ofD
  simp only
  rw [wMul (by unfold Sm;omega) (by unfold Sm;omega),sB,sB,w64 (x:=e+f) (by omega) (by omega),normal _ _ _ (by unfold Sm;omega) (by omega) (by omega)];rfl
 have hv:VEq (nz (decide (¬s=t)) (n*k) (e+f)) (N*N') (E+E'):=by
  obtain ⟨i,j,hij⟩:=Fd e E
  obtain ⟨i',j',hij'⟩:=Fd f E'
  have g1:Z s n*(2^i:Nat)=N*(2^j:Nat):=ex.2 i j hij
  have g2:Z t k*(2^i':Nat)=N' * (2^j':Nat):=ey.2 i' j' hij'
  refine (IZ _ _ _).base (p:=i+i') (q:=j+j') (by omega) ?_
  have g3:Z (decide (¬s=t)) (n*k)=Z s n*Z t k:=by
   unfold Z;cases s<;>cases t<;>simp [Int.natCast_mul,Int.neg_mul,Int.mul_neg]
  rw [g3,p2add,p2add]
  have a1:Z s n*Z t k*((2^i:Nat)*(2^i':Nat))=Z s n*(2^i:Nat)*(Z t k*(2^i':Nat)):=by
   simp only [Int.mul_assoc,Int.mul_comm,Int.mul_left_comm]
  have a2:N*N' * ((2^j:Nat)*(2^j':Nat))=N*(2^j:Nat)*(N' * (2^j':Nat)):=by
   simp only [Int.mul_assoc,Int.mul_comm,Int.mul_left_comm]
  rw [a1,a2,g1,g2]
 have hb:(N*N').natAbs<2^(B+B'):=by
  rw [Int.natAbs_mul,Nat.pow_add]
  exact Nat.mul_lt_mul'' bx by'
 refine ⟨_,?_,(outOK hc).2,hv,hb,?_⟩
 ·unfold Di Bc Bu
  rw [Jg vx vy,mbo,toNT,sB,inT,sB,toNT,sB,inT,sB]
  unfold FG
  rw [sB,wantT,mbo,hp,sB,(outOK hc).1,mbo]
  rfl
 ·show bl (nz (decide (¬s=t)) (n*k) (e+f)).m.Abs≤_
  unfold nz
  split
  ·simp only;rw [Ft];omega
  ·simp only
   have:=IW (n*k) (2^tz (n*k));omega
end Go.Proofs.Pq
namespace Go.Proofs.Pq
set_option linter.unusedVariables false
set_option linter.unusedSimpArgs false
set_option maxRecDepth 4000
open Go.Proofs Go.Sb Go.Proofs.Sbn Go.Proofs.Lf
theorem LeV.trans {x y z:Aj} (h:LeV x y) (h':LeV y z):LeV x z:=by
 intro i j hij
 obtain ⟨a,b,hab⟩:=Fd x.e y.e
 obtain ⟨c,d,hcd⟩:=Fd y.e z.e
 have g1:=h a b hab
 have g2:=h' c d hcd
 refine (GB (a:=a+c) (c:=d+b) (i:=i) (j:=j) (by omega)).1 ?_
 rw [p2add,p2add,←Int.mul_assoc,←Int.mul_assoc]
 have g3:=Int.mul_le_mul_of_nonneg_right g1 (Int.le_of_lt (p2 c))
 have g4:=Int.mul_le_mul_of_nonneg_right g2 (Int.le_of_lt (p2 b))
 refine Int.le_trans g3 (Int.le_trans (Int.le_of_eq ?_) g4)
 rw [Int.mul_assoc,Int.mul_assoc,Int.mul_comm ((2^b:Nat):Int)]
theorem HW (x:Aj):LeV x x:=fun i j hij=>by rw [show i=j by omega];exact Int.le_refl _
theorem Round_of {w r:Aj} {k:Nat} {dir:Int} (hw:Cb w) (hk:1≤k) (hk':k≤4096) (hdir:1≤dir∧dir≤5) (h:Av w (k:Int) dir false=some r) (hr:Cb r):BQ (toL (toD w)) (k:Int) dir=some (toD r,0):=by
 have hf:=fineP (k:Int)
 rw [if_pos (show 1≤(k:Int)∧(k:Int)≤4096 by omega)] at hf
 have hdr:DK dir=some (.ok ()):=by
  unfold DK
  rw [if_pos hdir.1,sB,decide_eq_true hdir.2];rfl
 have hv:=(outOK hw).2
 unfold BQ FX
 rw [Lg hv,mbo,hf,mbo,hdr,mbo,toNT,sB,inT,sB,show Av (ofD (toD w)) (k:Int) dir false=some r from h,sB,(outOK hr).1,mbo]
 rfl
theorem KL {x y:Aj} (hx:Cb x) (hy:Cb y):∃c,Bb x y=some c∧(¬c<0↔LeV y x)∧(¬0<c↔LeV x y):=
 Mx x y hx.1 hy.1 hx.2.1 hx.2.2.1 hy.2.1 hy.2.2.1
theorem JX {x y:Aj} {c:Int} (h:(¬c<0↔LeV y x)∧(¬0<c↔LeV x y)):LeV y (if 0<c then x else y)∧LeV x (if 0<c then x else y):=by
 by_cases h0:0<c
 ·rw [if_pos h0];exact ⟨h.1.1 (by omega),HW _⟩
 ·rw [if_neg h0];exact ⟨HW _,h.2.1 h0⟩
theorem Kf {x y:Aj} {c:Int} (h:(¬c<0↔LeV y x)∧(¬0<c↔LeV x y)):LeV (if c<0 then x else y) y∧LeV (if c<0 then x else y) x:=by
 by_cases h0:c<0
 ·rw [if_pos h0];exact ⟨h.2.1 (by omega),HW _⟩
 ·rw [if_neg h0];exact ⟨HW _,h.1.1 h0⟩
def Lt3 (d:Af):Prop:=bl d.Man.Abs≤640∧-800≤d.Exp∧d.Exp≤800
theorem EX.self {d:Af} {m:Nat} (hd:VT d) (hb:bl d.Man.Abs≤m):EX d (Z d.Man.Neg d.Man.Abs) d.Exp m m:=by
 refine ⟨hd,hd.veq,?_,hb⟩
 have:(Z d.Man.Neg d.Man.Abs).natAbs=d.Man.Abs:=by unfold Z;split<;>simp
 rw [this]
 exact EK.1 hb
theorem Kq {x y:Af} (vx:VT x) (vy:VT y) (hx:Lt3 x) (hy:Lt3 y):∃r,Ch (ofD x) (ofD y)=some r∧Di (toL x) (toL y)=some (toD r,0)∧Cb r∧Pb r∧Lt (toD r):=by
 obtain ⟨h1,h2,h3⟩:=hx
 obtain ⟨k1,k2,k3⟩:=hy
 obtain ⟨σ,M,E,p1,p3,p4,p5⟩:=timesC x y (by omega) (by omega) (by omega) (by omega) (by omega) (by omega)
 have lx:Lt x:=LA vx (by omega) (by omega) (by omega)
 have ly:Lt y:=LA vy (by omega) (by omega) (by omega)
 have hc:Cb (nz σ M E):=Cb.of (by omega) (by omega) (by omega)
 have a1:Di (toL x) (toL y)=some (toD (nz σ M E),0):=by
  unfold Di Bc Bu
  rw [Jg vx vy,mbo,toNT,sB,inT,sB,toNT,sB,inT,sB]
  unfold FG
  rw [sB,wantT,mbo,p1,sB,(outOK hc).1,mbo]
  rfl
 obtain ⟨q,q1,q2⟩:=mul_x (EX.self vx h1) (EX.self vy k1) (by omega) (by omega) (by omega) (by omega) (by omega)
 have eq:q=toD (nz σ M E):=congrArg Prod.fst (Option.some.inj (q1.symm.trans a1))
 rw [eq] at q2
 exact ⟨_,p1,a1,hc,⟨_,_,_,rfl,p3,p4,p5⟩,q2.lt (by omega) (by omega) (by omega)⟩
theorem Kb (d:Af) (k:Nat) (dir:Int) (hd:VT d) (ld:Lt d) (hk:1≤k) (hk':k≤4096) (hdir:1≤dir∧dir≤5):Av (ofD d) (k:Int) dir false=some (RO d k dir)∧Cb (RO d k dir):=by
 obtain ⟨h1,h2⟩:=JR d k dir hd ld hk hk' hdir
 obtain ⟨r,r1,r3⟩:=Lx d.Man.Neg d.Man.Abs k d.Exp dir (by have:=ld.2;omega) hk hk' (by have:=ld.1.l;omega) (by have:=ld.1.u;omega)
 rw [←canonV hd] at r1
 have hc:Cb (ofD d):=by
  have:=canonV hd
  refine ⟨ld.1.s,?_,?_,_,_,_,this⟩
  ·have:=ld.1.l;show _≤d.Exp;omega
  ·have:=ld.1.u;show d.Exp≤_;omega
 have h3:=Round_of hc hk hk' hdir r1 r3
 have h4:toD r=toD (RO d k dir):=congrArg Prod.fst (Option.some.inj (h3.symm.trans h1))
 have h5:r=RO d k dir:=congrArg (fun x:Af=>(⟨x.Man,x.Exp⟩:Aj)) h4
 rw [←h5]
 exact ⟨r1,r3⟩
theorem tightTimes (a0 a1 c0 c1:Af) (b:Nat) (hb:1≤b) (hb':b≤4096) (v1:VT a0) (v2:VT a1) (v3:VT c0) (v4:VT c1) (l1:Lt3 a0) (l2:Lt3 a1) (l3:Lt3 c0) (l4:Lt3 c1) :
  ∃r1 r2 r3 r4 L H,Di (toL a0) (toL c0)=some (toD r1,0)∧Di (toL a0) (toL c1)=some (toD r2,0)∧Di (toL a1) (toL c0)=some (toD r3,0)∧Di (toL a1) (toL c1)=some (toD r4,0)∧
   DV ⟨ofD a0,ofD a1⟩ ⟨ofD c0,ofD c1⟩ (b:Int)=some (.ok ⟨toD (RO (toD L) b 5),toD (RO (toD H) b 4)⟩)∧
   (∀r,r=r1∨r=r2∨r=r3∨r=r4→Cb r∧Lt (toD r)∧LeV L r∧LeV r H)∧(H=r1∨H=r2∨H=r3∨H=r4)∧(L=r1∨L=r2∨L=r3∨L=r4):=by
 obtain ⟨r1,p1,q1,b1,_,t1⟩:=Kq v1 v3 l1 l3
 obtain ⟨r2,p2,q2,b2,_,t2⟩:=Kq v1 v4 l1 l4
 obtain ⟨r3,p3,q3,b3,_,t3⟩:=Kq v2 v3 l2 l3
 obtain ⟨r4,p4,q4,b4,_,t4⟩:=Kq v2 v4 l2 l4
 obtain ⟨z1,hz1,_⟩:=KL b1 b1
 obtain ⟨c2,hc2,i2⟩:=KL b2 b1
 have el2:(if c2<0 then r2 else r1)=r1∨(if c2<0 then r2 else r1)=r2:=by split<;>simp
 have eh2:(if 0<c2 then r2 else r1)=r1∨(if 0<c2 then r2 else r1)=r2:=by split<;>simp
 have bl2:Cb (if c2<0 then r2 else r1):=by split<;>assumption
 have bh2:Cb (if 0<c2 then r2 else r1):=by split<;>assumption
 have pl2:=Kf i2
 have ph2:=JX i2
 generalize gL2:(if c2<0 then r2 else r1)=L2 at el2 bl2 pl2
 generalize gH2:(if 0<c2 then r2 else r1)=H2 at eh2 bh2 ph2
 obtain ⟨c3,hc3,i3⟩:=KL b3 bl2
 obtain ⟨d3,hd3,j3⟩:=KL b3 bh2
 have el3:(if c3<0 then r3 else L2)=L2∨(if c3<0 then r3 else L2)=r3:=by split<;>simp
 have eh3:(if 0<d3 then r3 else H2)=H2∨(if 0<d3 then r3 else H2)=r3:=by split<;>simp
 have bl3:Cb (if c3<0 then r3 else L2):=by split<;>assumption
 have bh3:Cb (if 0<d3 then r3 else H2):=by split<;>assumption
 have pl3:=Kf i3
 have ph3:=JX j3
 generalize gL3:(if c3<0 then r3 else L2)=L3 at el3 bl3 pl3
 generalize gH3:(if 0<d3 then r3 else H2)=H3 at eh3 bh3 ph3
 obtain ⟨c4,hc4,i4⟩:=KL b4 bl3
 obtain ⟨d4,hd4,j4⟩:=KL b4 bh3
 have el4:(if c4<0 then r4 else L3)=L3∨(if c4<0 then r4 else L3)=r4:=by split<;>simp
 have eh4:(if 0<d4 then r4 else H3)=H3∨(if 0<d4 then r4 else H3)=r4:=by split<;>simp
 have pl4:=Kf i4
 have ph4:=JX j4
 generalize gL4:(if c4<0 then r4 else L3)=L4 at el4 pl4
 generalize gH4:(if 0<d4 then r4 else H3)=H4 at eh4 ph4
 have hL:L4=r1∨L4=r2∨L4=r3∨L4=r4:=by
  rcases el4 with h | h
  ·rcases el3 with h3 | h3
   ·rcases el2 with h2 | h2
    ·left;rw [h,h3,h2]
    ·right;left;rw [h,h3,h2]
   ·right;right;left;rw [h,h3]
  ·right;right;right;exact h
 have hH:H4=r1∨H4=r2∨H4=r3∨H4=r4:=by
  rcases eh4 with h | h
  ·rcases eh3 with h3 | h3
   ·rcases eh2 with h2 | h2
    ·left;rw [h,h3,h2]
    ·right;left;rw [h,h3,h2]
   ·right;right;left;rw [h,h3]
  ·right;right;right;exact h
 have all:∀r,r=r1∨r=r2∨r=r3∨r=r4→Cb r∧Lt (toD r)∧LeV L4 r∧LeV r H4:=by
  intro r hr
  rcases hr with rfl | rfl | rfl | rfl
  ·exact ⟨b1,t1,(pl4.1.trans pl3.1).trans pl2.1,(ph2.1.trans ph3.1).trans ph4.1⟩
  ·exact ⟨b2,t2,(pl4.1.trans pl3.1).trans pl2.2,(ph2.2.trans ph3.1).trans ph4.1⟩
  ·exact ⟨b3,t3,pl4.1.trans pl3.2,ph3.2.trans ph4.1⟩
  ·exact ⟨b4,t4,pl4.2,ph4.2⟩
 obtain ⟨cL,tL,_⟩:=all L4 hL
 obtain ⟨cH,tH,_⟩:=all H4 hH
 obtain ⟨w1,w2⟩:=Kb (toD L4) b 5 (outOK cL).2 tL hb hb' (by decide)
 obtain ⟨w3,w4⟩:=Kb (toD H4) b 4 (outOK cH).2 tH hb hb' (by decide)
 refine ⟨r1,r2,r3,r4,L4,H4,q1,q2,q3,q4,?_,all,hH,hL⟩
 unfold DV Gl
 rw [p1,sB,hz1,sB,Ky,sB,sB,Ky,sB,sB]
 unfold Ee
 simp only
 rw [p2,sB,hc2,sB,pickn,sB,sB,pickn,sB,sB,gL2,gH2]
 simp only
 rw [p3,sB,hc3,sB,pickn,sB,hd3,sB,pickn,sB,sB,gL3,gH3]
 simp only
 rw [p4,sB,hc4,sB,pickn,sB,hd4,sB,pickn,sB,sB,gL4,gH4]
 unfold Er
 simp only
 rw [show Av L4 (b:Int) 5 false=_ from w1,sB,show Av H4 (b:Int) 4 false=_ from w3,sB,sB,Jr w2 w4]
 rfl
end Go.Proofs.Pq
namespace Go.Proofs.Pq
set_option linter.unusedVariables false
set_option linter.unusedSimpArgs false
set_option maxRecDepth 4000
open Go.Proofs Go.Sb Go.Proofs.Sbn Go.Proofs.Lf
end Go.Proofs.Pq
namespace Go.Proofs.Pq
set_option linter.unusedVariables false
set_option linter.unusedSimpArgs false
set_option maxRecDepth 4000
open Go.Proofs Go.Sb Go.Proofs.Sbn Go.Proofs.Lf
theorem Lt3.lt {d:Af} (hd:VT d) (h:Lt3 d):Lt d:=LA hd (by have:=h.1;omega) (by have:=h.2.1;omega) (by have:=h.2.2;omega)
theorem ex3g {d:Af} {m:Nat} (hd:VT d) (h1:bl d.Man.Abs≤m) (h2 : -800≤d.Exp) (h3:d.Exp≤800):∃N,EX d N (-800) (m+1600) m:=by
 obtain ⟨k,hk⟩:∃k:Nat,d.Exp+800=(k:Int):=⟨(d.Exp+800).toNat,by omega⟩
 have e1:=(EX.self hd h1).base k
 have hE:d.Exp - (k:Int) = -800:=by omega
 rw [hE] at e1
 exact ⟨_,e1.v,e1.e,Nat.lt_of_lt_of_le e1.b (Nat.pow_le_pow_right (by decide) (by omega)),e1.m⟩
theorem ex3 {d:Af} (hd:VT d) (h:Lt3 d):∃N,EX d N (-800) (640+1600) 640:=ex3g hd h.1 h.2.1 h.2.2
theorem sum3 {x y:Af} {N N':Int} (vx:VT x) (vy:VT y) (hx:Lt3 x) (hy:Lt3 y) (ex:EX x N (-800) (640+1600) 640) (ey:EX y N' (-800) (640+1600) 640) (b:Nat) (dir:Int) (hb:1≤b) (hb':b≤4096) (hdir:1≤dir∧dir≤5) :
  ∃S,FS (ofD x) (ofD y) (b:Int) dir=some (RO (toD S) b dir)∧Cb (RO (toD S) b dir)∧Cb S∧Lt (toD S)∧VEq S (N+N') (-800):=by
 have l1:=hx.lt vx
 have l3:=hy.lt vy
 obtain ⟨σ,M,E,p1,p3,p4,p5⟩:=plusC x y l1.2 l3.2 l1.1.l l1.1.u l3.1.l l3.1.u
 have hc:Cb (nz σ M E):=Cb.of p3 (by omega) (by omega)
 have ha:Fw (toL x) (toL y)=some (toD (nz σ M E),0):=by
  unfold Fw Bi BI
  rw [Jg vx vy,mbo,toNT,sB,inT,sB,toNT,sB,inT,sB,nearT (ofD x) (ofD y) l1.2 l3.2 l1.1.l l1.1.u l3.1.l l3.1.u,sB,wantT,mbo,p1,sB,(outOK hc).1,mbo]
  rfl
 obtain ⟨q,q1,q2⟩:=LY ex ey 2241 (by omega) (by omega) (by omega) (by omega) (by omega) (by omega) (by omega)
 have eq:q=toD (nz σ M E):=congrArg Prod.fst (Option.some.inj (q1.symm.trans ha))
 rw [eq] at q2
 have hl:=q2.lt (by omega) (by omega) (by omega)
 obtain ⟨w1,w2⟩:=Kb (toD (nz σ M E)) b dir (outOK hc).2 hl hb hb' hdir
 refine ⟨nz σ M E,?_,w2,hc,hl,q2.e⟩
 unfold FS
 rw [nearT (ofD x) (ofD y) l1.2 l3.2 l1.1.l l1.1.u l3.1.l l3.1.u,sB,if_pos rfl,p1,sB,show Av (nz σ M E) (b:Int) dir false=_ from w1,sB]
end Go.Proofs.Pq
namespace Go.Proofs.Pq
set_option linter.unusedVariables false
set_option linter.unusedSimpArgs false
set_option maxRecDepth 4000
open Go.Proofs Go.Sb Go.Proofs.Sbn Go.Proofs.Lf
theorem tightStep {r H:Aj} {k:Nat} {K:Af × Int→Option Bool} (hk:1≤k) (hk':k≤4096) (cr:Cb r) (lr:Lt (toD r)) (cH:Cb H) (lH:Lt (toD H)) (h:LeV r H) :
  ((BQ ((⟨(⟨(toD r).Man.Neg,(limbs (toD r).Man.Abs)⟩:AC),(toD r).Exp⟩:Ao)) (k:Int) 4).bind fun r451=>
 (if ¬r451.2=0 then some (true) else (BK r451.1 (toD (RO (toD H) k 4))).bind fun r502=>
 some ((decide (¬(r502=true))))).bind fun m485=>
 if m485=true then some false else K r451)=K (toD (RO (toD r) k 4),0):=by
 have vr:=(outOK cr).2
 have vH:=(outOK cH).2
 obtain ⟨a1,a2⟩:=JR (toD r) k 4 vr lr hk hk' (by decide)
 obtain ⟨b1,b2⟩:=JR (toD H) k 4 vH lH hk hk' (by decide)
 obtain ⟨v,hv,_,_,h3⟩:=below_ok (toD (RO (toD r) k 4)) (toD (RO (toD H) k 4)) (outOK a2).2 (outOK b2).2 a2.bm b2.bm
 have hv1:=h3 (RO_mono (toD r) (toD H) vr vH k 4 hk h)
 subst hv1
 rw [show BQ ⟨⟨(toD r).Man.Neg,limbs (toD r).Man.Abs⟩,(toD r).Exp⟩ (k:Int) 4=_ from a1,sB,if_neg (by simp),hv,sB,sB,if_neg (by simp)]
end Go.Proofs.Pq
namespace Go.Proofs.Pq
set_option linter.unusedVariables false
set_option linter.unusedSimpArgs false
set_option maxRecDepth 4000
open Go.Proofs Go.Sb Go.Proofs.Sbn Go.Proofs.Lf
theorem Kt (x:Aq) (h0:Dig x.Lo.Man.Abs) (h1:Dig x.Hi.Man.Abs) (k0:∀d,x.Lo=toL d→VT d→Lt3 d) (k1:∀d,x.Hi=toL d→VT d→Lt3 d) :
  ∃v,CA x=some v∧(v=true→∃lo hi,x=⟨toL lo,toL hi⟩∧VT lo∧VT hi∧Lt3 lo∧Lt3 hi∧LeV (ofD lo) (ofD hi)):=by
 obtain ⟨a,b⟩:=x
 obtain ⟨v0,e0,f0,g0⟩:=JE a h0
 obtain ⟨v1,e1,f1,g1⟩:=JE b h1
 unfold CA
 simp only
 rw [f0,sB]
 cases v0
 ·exact ⟨false,rfl,fun h=>by cases h⟩
 ·rw [if_pos rfl,f1,sB]
  cases v1
  ·exact ⟨false,rfl,fun h=>by cases h⟩
  ·obtain ⟨lo,rfl,hlo⟩:=g0 rfl
   obtain ⟨hi,rfl,hhi⟩:=g1 rfl
   have o0:=k0 lo rfl hlo
   have o1:=k1 hi rfl hhi
   obtain ⟨c,hc,_,hc2⟩:=Mx (ofD lo) (ofD hi) (o0.lt hlo).bm.1 (o1.lt hhi).bm.1 (o0.lt hlo).bm.2.1 (o0.lt hlo).bm.2.2 (o1.lt hhi).bm.2.1 (o1.lt hhi).bm.2.2
   rw [if_pos rfl,toNT,sB,inT,sB,toNT,sB,inT,sB,hc,sB]
   refine ⟨_,rfl,fun hv=>⟨lo,hi,rfl,hlo,hhi,o0,o1,hc2.1 ?_⟩⟩
   have:=of_decide_eq_true hv
   omega
theorem few3 (x:Aq) (h0:Dig x.Lo.Man.Abs) (h1:Dig x.Hi.Man.Abs):∃v,Du x=some v∧(v=true→(∀d,x.Lo=toL d→VT d→Lt3 d)∧∀d,x.Hi=toL d→VT d→Lt3 d):=by
 obtain ⟨a,b⟩:=x
 obtain ⟨v0,e0,_,_⟩:=JE a h0
 obtain ⟨v1,e1,_,_⟩:=JE b h1
 have step:∀(a:Ao) (v:Bool),Bs a=some v→∃q,(if 20<((List.length a.Man.Abs:Int)) then some (true) else (Bs a).bind fun r144=>
   (if r144=true then (if a.Exp<((-800)) then some (true) else some ((decide (800<a.Exp)))).bind fun m209=>some (m209) else some (false)).bind fun m178=>some (m178))=some q∧(q=false→∀d,a=toL d→VT d→Lt3 d):=by
  intro a v hv
  by_cases hl:20<(List.length a.Man.Abs:Int)
  ·exact ⟨true,if_pos hl,fun h=>by cases h⟩
  ·rw [if_neg hl,hv,sB]
   have key:(-800≤a.Exp∧a.Exp≤800)→∀d,a=toL d→VT d→Lt3 d:=by
    rintro ⟨k1,k2⟩ d rfl hd
    have e1:(toL d).Exp=d.Exp:=rfl
    have e2:(toL d).Man.Abs.length=Sbn.sz d.Man.Abs:=rfl
    exact ⟨by have:=Js (show Sbn.sz d.Man.Abs≤20 by omega);omega,by omega,by omega⟩
   cases v
   ·refine ⟨false,rfl,fun _ d hd hv'=>?_⟩
    subst hd;rw [(validT hv').1] at hv;cases hv
   ·rw [if_pos rfl]
    by_cases k1:a.Exp < -800
    ·exact ⟨true,by rw [if_pos k1];rfl,fun h=>by cases h⟩
    ·rw [if_neg k1]
     exact ⟨decide (800<a.Exp),rfl,fun h=>key ⟨by omega,by have:=of_decide_eq_false h;omega⟩⟩
 obtain ⟨q0,s0,k0⟩:=step a v0 e0
 obtain ⟨q1,s1,k1⟩:=step b v1 e1
 unfold Du
 simp only
 rw [s0,sB]
 cases q0
 ·rw [if_neg (by decide),s1,sB]
  cases q1
  ·exact ⟨true,rfl,fun _=>⟨k0 rfl,k1 rfl⟩⟩
  ·exact ⟨false,rfl,fun h=>by cases h⟩
 ·exact ⟨false,rfl,fun h=>by cases h⟩
end Go.Proofs.Pq
namespace Go.Proofs.Pq
set_option linter.unusedVariables false
set_option linter.unusedSimpArgs false
set_option maxRecDepth 4000
open Go.Proofs Go.Sb Go.Proofs.Sbn Go.Proofs.Lf
theorem lawTight (x0 x1:Aq) (x2:Int) (h0:Dig x0.Lo.Man.Abs) (h1:Dig x0.Hi.Man.Abs) (h2:Dig x1.Lo.Man.Abs) (h3:Dig x1.Hi.Man.Abs):Dy x0 x1 x2=some true:=by
 obtain ⟨w0,fe0,fk0⟩:=few3 x0 h0 h1
 obtain ⟨w1,fe1,fk1⟩:=few3 x1 h2 h3
 unfold Dy
 rw [fe0,sB,sanity]
 cases w0
 ·rfl
 rw [if_neg (by simp),fe1,sB,sB]
 cases w1
 ·rfl
 obtain ⟨ka,kb⟩:=fk0 rfl
 obtain ⟨kc,kd⟩:=fk1 rfl
 obtain ⟨v0,pe0,pk0⟩:=Kt x0 h0 h1 ka kb
 obtain ⟨v1,pe1,pk1⟩:=Kt x1 h2 h3 kc kd
 rw [if_neg (by simp),sB]
 by_cases c1:x2<1
 ·rw [decide_eq_true c1];rfl
 rw [decide_eq_false c1,if_neg (by simp),sB]
 by_cases c2:500<x2
 ·rw [decide_eq_true c2];rfl
 rw [decide_eq_false c2,if_neg (by simp),pe0,sB,sB]
 cases v0
 ·rfl
 rw [if_neg (by simp),pe1,sB,sB]
 cases v1
 ·rfl
 rw [if_neg (by simp)]
 obtain ⟨lo,hi,hx0,va,vb,la,lb,_⟩:=pk0 rfl
 obtain ⟨lo',hi',hx1,vc,vd,lc,ld,_⟩:=pk1 rfl
 obtain ⟨k,rfl⟩:∃k:Nat,x2=(k:Int):=⟨x2.toNat,by omega⟩
 have hk:1≤k:=by omega
 have hk':k≤4096:=by omega
 obtain ⟨N0,e0⟩:=ex3 va la
 obtain ⟨N1,e1⟩:=ex3 vb lb
 obtain ⟨M0,f0⟩:=ex3 vc lc
 obtain ⟨M1,f1⟩:=ex3 vd ld
 obtain ⟨S,p1,p2,p3,p4,p5⟩:=sum3 va vc la lc e0 f0 k 5 hk hk' (by decide)
 obtain ⟨T,t1,t2,t3,t4,t5⟩:=sum3 vb vd lb ld e1 f1 k 4 hk hk' (by decide)
 have hpl:Ep ⟨ofD lo,ofD hi⟩ ⟨ofD lo',ofD hi'⟩ (k:Int)=some (.ok ⟨toD (RO (toD S) k 5),toD (RO (toD T) k 4)⟩):=by
  unfold Ep
  simp only
  rw [p1,sB,t1,sB,Jr p2 t2];rfl
 obtain ⟨q,q1,q2⟩:=LY e0 f0 2241 (by omega) (by omega) (by omega) (by omega) (by omega) (by omega) (by omega)
 have hq:q=toD S:=q2.uniq (EX.of p5 q2.b p3)
 subst hq
 obtain ⟨r1,r2,r3,r4,L,H,m1,m2,m3,m4,m5,m6,m7,m8⟩:=tightTimes lo hi lo' hi' k hk hk' va vb vc vd la lb lc ld
 have hf:1≤(k:Int)∧(k:Int)≤4096:=by omega
 rw [madePlus.2 ⟨lo,hi⟩ ⟨lo',hi'⟩ k x0 x1 hx0 hx1 pe0 pe1 hf _ _ hpl,sB]
 have hT:=madeTimes.2 ⟨lo,hi⟩ ⟨lo',hi'⟩ k x0 x1 hx0 hx1 pe0 pe1 hf _ _ m5
 rw [hT]
 subst hx0 hx1
 have rS:=(JR (toD S) k 5 (outOK p3).2 p4 hk hk' (by decide)).1
 rw [q1,sB,show BQ ⟨⟨(toD S).Man.Neg,limbs (toD S).Man.Abs⟩,(toD S).Exp⟩ (k:Int) 5=_ from rS,sB]
 rw [if_neg (by simp),sB,if_neg (by simp),sB,if_neg (by simp),sameR p2 rfl,sB,sB,if_neg (by simp),sB,if_neg (by simp),toNT,sB,toNT,sB]
 have mu:∀(x y:Af) (r:Aj),Di (toL x) (toL y)=some (toD r,0)→Cv x y=some (toD r):=fun x y r h=>by
  unfold Cv
  rw [show Di ⟨⟨x.Man.Neg,limbs x.Man.Abs⟩,x.Exp⟩ ⟨⟨y.Man.Neg,limbs y.Man.Abs⟩,y.Exp⟩=_ from h];rfl
 have d0:∀d:Af,(⟨⟨(toL d).Man.Neg,d.Man.Abs⟩,(toL d).Exp⟩:Af)=d:=fun _=>rfl
 rw [d0 lo,d0 lo',mu lo lo' r1 m1,sB,toNT,sB,d0 hi',mu lo hi' r2 m2,sB,toNT,sB,d0 hi,mu hi lo' r3 m3,sB,mu hi hi' r4 m4,sB]
 have cH:=m6 H (by rcases m7 with h | h | h | h<;>simp [h])
 have z1:=m6 r1 (by simp)
 have z2:=m6 r2 (by simp)
 have z3:=m6 r3 (by simp)
 have z4:=m6 r4 (by simp)
 have same:∀r,Cb r→Lt (toD r)→∃v,AE (toD (RO (toD r) k 4)) (toD (RO (toD H) k 4))=some v∧(r=H→v=true):=fun r c l=>by
  have cc:=(JR (toD r) k 4 (outOK c).2 l hk hk' (by decide)).2
  by_cases he:RO (toD r) k 4=RO (toD H) k 4
  ·exact ⟨true,sameR cc he,fun _=>rfl⟩
  ·exact ⟨false,sameN cc he,fun h=>absurd (by rw [h]) he⟩
 obtain ⟨s1,g1,i1⟩:=same r1 z1.1 z1.2.1
 obtain ⟨s2,g2,i2⟩:=same r2 z2.1 z2.2.1
 obtain ⟨s3,g3,i3⟩:=same r3 z3.1 z3.2.1
 obtain ⟨s4,g4,i4⟩:=same r4 z4.1 z4.2.1
 refine (tightStep hk hk' z1.1 z1.2.1 cH.1 cH.2.1 z1.2.2.2).trans ?_
 rw [g1,sB]
 refine (tightStep hk hk' z2.1 z2.2.1 cH.1 cH.2.1 z2.2.2.2).trans ?_
 rw [g2,show (if s1=true then some true else (some s2).bind fun r630=>some r630)=some (s1 || s2) by cases s1<;>rfl,sB]
 refine (tightStep hk hk' z3.1 z3.2.1 cH.1 cH.2.1 z3.2.2.2).trans ?_
 rw [g3,show (if (s1 || s2)=true then some true else (some s3).bind fun r630=>some r630)=some (s1 || s2 || s3) by cases s1<;>cases s2<;>rfl,sB]
 refine (tightStep hk hk' z4.1 z4.2.1 cH.1 cH.2.1 z4.2.2.2).trans ?_
 rw [g4,show (if (s1 || s2 || s3)=true then some true else (some s4).bind fun r630=>some r630)=some (s1 || s2 || s3 || s4) by cases s1<;>cases s2<;>cases s3<;>rfl,sB,sB,if_pos rfl,sB]
 rcases m7 with h | h | h | h
 ·rw [i1 h.symm];rfl
 ·rw [i2 h.symm];simp
 ·rw [i3 h.symm];simp
 ·rw [i4 h.symm];simp
end Go.Proofs.Pq
