import Derived.Test.YtabiobmfelafoaaDoorPC
namespace Go.Proofs.Pq
set_option linter.unusedVariables false
set_option linter.unusedSimpArgs false
set_option maxRecDepth 4000
open Go.Proofs Go.Sb Go.Proofs.Sbn Go.Proofs.Lf
def VEq (r:An) (N:Int) (E:Int):Prop:=(∃s M F,r=nz s M F)∧∀i j:Nat,r.e - E=(i:Int) - j→Z r.m.Neg r.m.Abs*(2^i:Nat)=N*(2^j:Nat)
theorem p2 (k:Nat):(0:Int)<(2^k:Nat):=by have:=Nat.two_pow_pos k;omega
theorem p2add (a b:Nat):((2^(a+b):Nat):Int)=(2^a:Nat)*(2^b:Nat):=by rw [Nat.pow_add,Int.natCast_mul]
theorem Z0 (s:Bool):Z s 0=0:=by cases s<;>rfl
theorem Ia (s:Bool) (M:Nat) (F:Int):VEq (nz s M F) (Z s M) F:=by
 refine ⟨⟨s,M,F,rfl⟩,fun i j hij=>?_⟩
 unfold nz at hij ⊢
 by_cases h0:M=0
 ·subst h0
  rw [if_pos rfl] at hij ⊢
  rw [Z0,Z0,Int.zero_mul,Int.zero_mul]
 ·rw [if_neg h0] at hij ⊢
  simp only at hij ⊢
  obtain ⟨q,hq⟩:=Kk M
  have hqd:M/2^tz M=q:=by generalize tz M=z at *;rw [hq,Nat.mul_div_cancel _ (Nat.two_pow_pos z)]
  rw [hqd]
  generalize tz M=z at *
  rw [hq,HO,show i=z+j by omega,p2add,Int.mul_assoc]
theorem Gu (a b:Int):∃i j:Nat,a - b=(i:Int) - j:=⟨(a - b).toNat,(-(a - b)).toNat,by omega⟩
theorem VEq.base {r:An} {N N' E E':Int} {p q:Nat} (h:VEq r N E) (hpq:E - E'=(p:Int) - q) (hN:N*(2^p:Nat)=N' * (2^q:Nat)):VEq r N' E':=by
 refine ⟨h.1,fun i j hij=>?_⟩
 obtain ⟨a,b,hab⟩:=Gu r.e E
 have h1:=h.2 a b hab
 have h2:=p2 b
 have h3:=p2 p
 have h4:=p2 q
 have e1:Z r.m.Neg r.m.Abs*(2^(a+p):Nat)=N' * (2^(b+q):Nat):=by
  rw [p2add,p2add,←Int.mul_assoc,h1,Int.mul_assoc,Int.mul_comm ((2^b:Nat):Int) ((2^p:Nat):Int),←Int.mul_assoc,hN,Int.mul_assoc,Int.mul_comm ((2^q:Nat):Int)]
 have k1:=(HD (X:=Z r.m.Neg r.m.Abs) (Y:=N') (a:=a+p) (c:=b+q) (i:=i) (j:=j) (by omega)).1 (Int.le_of_eq e1)
 have k2:=(HD (X:=N') (Y:=Z r.m.Neg r.m.Abs) (a:=b+q) (c:=a+p) (i:=j) (j:=i) (by omega)).1 (Int.le_of_eq e1.symm)
 exact Int.le_antisymm k1 k2
theorem VEq.cross {r r':An} {N N' E:Int} (h:VEq r N E) (h':VEq r' N' E) {i j:Nat} (hij:r.e - r'.e=(i:Int) - j) :
  (Z r.m.Neg r.m.Abs*(2^i:Nat)≤Z r'.m.Neg r'.m.Abs*(2^j:Nat)↔N≤N'):=by
 obtain ⟨a,b,hab⟩:=Gu r.e E
 obtain ⟨c,d,hcd⟩:=Gu r'.e E
 have h1:=h.2 a b hab
 have h2:=h'.2 c d hcd
 rw [HD (a:=i) (c:=j) (i:=a+d) (j:=c+b) (by omega),p2add,p2add,←Int.mul_assoc,h1,←Int.mul_assoc,h2,Int.mul_assoc,Int.mul_assoc,Int.mul_comm ((2^d:Nat):Int)]
 have hp:(0:Int)<(2^b:Nat)*(2^d:Nat):=Int.mul_pos (p2 b) (p2 d)
 constructor
 ·intro h;exact Int.le_of_mul_le_mul_right h hp
 ·intro h;exact Int.mul_le_mul_of_nonneg_right h (Int.le_of_lt hp)
theorem VEq.uniq {r r':An} {N E:Int} (h:VEq r N E) (h':VEq r' N E):r=r':=by
 obtain ⟨s,M,F,hr⟩:=h.1
 obtain ⟨t,M',F',hr'⟩:=h'.1
 subst hr hr'
 exact nz_eq (fun i j hij=>(h.cross h' hij).2 (Int.le_refl _)) (fun i j hij=>(h'.cross h hij).2 (Int.le_refl _))
def Bd (r:An):Prop:=bl r.m.Abs≤9000∧-9000≤r.e∧r.e≤9000
theorem VEq.plus {x y:An} {N N' E:Int} (hx:VEq x N E) (hy:VEq y N' E) (bx:Bd x) (by':Bd y):∃r,AQ x y=some r∧VEq r (N+N') E∧bl r.m.Abs≤30000∧-9000≤r.e∧r.e≤60000:=by
 have bnz:∀(σ:Bool) (M:Nat) (F:Int),bl M≤30000→-9000≤F→F≤9000→bl (nz σ M F).m.Abs≤30000∧-9000≤(nz σ M F).e∧(nz σ M F).e≤60000:=by
  intro σ M F h1 h2 h3
  unfold nz
  by_cases h0:M=0
  ·rw [if_pos h0];simp only;rw [GL];omega
  ·rw [if_neg h0];simp only
   have:=Jm M (2^tz M)
   obtain ⟨_,_,hq⟩:=EV h0
   omega
 obtain ⟨⟨s,n⟩,e⟩:=x
 obtain ⟨⟨t,m⟩,f⟩:=y
 obtain ⟨b1,b2,b3⟩:=bx
 obtain ⟨c1,c2,c3⟩:=by'
 simp only at b1 b2 b3 c1 c2 c3
 have zero:∀ {r:An} {N:Int},VEq r N E→r.m.Abs=0→N=0:=by
  intro r N h h0
  obtain ⟨a,b,hab⟩:=Gu r.e E
  have h1:=h.2 a b hab
  rw [h0,Z0,Int.zero_mul] at h1
  rcases Int.mul_eq_zero.1 h1.symm with h2 | h2
  ·exact h2
  ·have:=p2 b;omega
 by_cases hn:n=0
 ·have:=zero hx hn
  subst hn this
  have hc:nz t m f=⟨⟨t,m⟩,f⟩:=(Ia t m f).uniq (by
   refine ⟨hy.1,fun i j hij=>?_⟩
   simp only at hij ⊢
   rw [show i=j by omega])
  refine ⟨_,plus0l s t m e f (by omega) (by omega) (by omega) (by omega) (by omega),?_,bnz _ _ _ (by omega) (by omega) (by omega)⟩
  rw [hc,Int.zero_add];exact hy
 ·by_cases hm:m=0
  ·have:=zero hy hm
   subst hm this
   have hc:nz s n e=⟨⟨s,n⟩,e⟩:=(Ia s n e).uniq (by
    refine ⟨hx.1,fun i j hij=>?_⟩
    simp only at hij ⊢
    rw [show i=j by omega])
   refine ⟨_,plus0r s t n e f hn (by omega) (by omega) (by omega),?_,bnz _ _ _ (by omega) (by omega) (by omega)⟩
   rw [hc,Int.add_zero];exact hx
  ·obtain ⟨a,ha⟩:∃a:Nat,(e - min e f).toNat=a:=⟨_,rfl⟩
   obtain ⟨c,hc⟩:∃c:Nat,(f - min e f).toNat=c:=⟨_,rfl⟩
   have hp:=plusP s t n m e f hn hm (by omega) (by omega) (by omega) (by omega) (by omega) (by omega) (by omega) (by omega) _ _ rfl rfl
   rw [ha,hc] at hp
   refine ⟨_,hp,?_,bnz _ _ _ ?_ (by omega) (by omega)⟩
   ·obtain ⟨p,q,hpq⟩:=Gu (min e f) E
    refine (Ia _ _ _).base hpq ?_
    rw [addZ_Z,HO,HO,Int.add_mul,Int.add_mul,Int.mul_assoc,Int.mul_assoc,←p2add,←p2add]
    have h1:=hx.2 (a+p) q (by simp only;omega)
    have h2:=hy.2 (c+p) q (by simp only;omega)
    simp only at h1 h2
    rw [h1,h2]
   ·have e1:bl (n*2^a)≤29000:=by have:=HX n a;omega
    have e2:bl (m*2^c)≤29000:=by have:=HX m c;omega
    have l0:=Jf e1 e2
    have hsum:∀X:Nat,X≤n*2^a+m*2^c→bl X≤30000:=fun X hX=>by have:=Jj hX;omega
    apply hsum
    unfold addZ
    generalize n*2^a=A
    generalize m*2^c=C
    split
    ·exact Nat.le_refl _
    ·split<;>simp only<;>omega
theorem VT.veq {d:Af} (h:VT d):VEq (ofD d) (Z d.Man.Neg d.Man.Abs) d.Exp:=by
 rw [canonV h];exact Ia _ _ _
theorem VT.of {r:An} (h:Cb r):VT (toD r):=(outOK h).2
end Go.Proofs.Pq
namespace Go.Proofs.Pq
set_option linter.unusedVariables false
set_option linter.unusedSimpArgs false
set_option maxRecDepth 4000
open Go.Proofs Go.Sb Go.Proofs.Sbn Go.Proofs.Lf
theorem plusC (x y:Af) (hxs:bl x.Man.Abs≤9000) (hys:bl y.Man.Abs≤9000) (h1 : -5000≤x.Exp) (h2:x.Exp≤5000) (h3 : -5000≤y.Exp) (h4:y.Exp≤5000) :
  ∃σ M E,AQ (ofD x) (ofD y)=some (nz σ M E)∧bl M≤20000∧-5000≤E∧E≤5000:=by
 obtain ⟨⟨s,n⟩,e⟩:=x
 obtain ⟨⟨t,m⟩,f⟩:=y
 simp only at hxs hys h1 h2 h3 h4
 by_cases hn:n=0
 ·subst hn
  exact ⟨t,m,f,plus0l s t m e f (by omega) (by omega) (by omega) (by omega) (by omega),by omega,h3,h4⟩
 ·by_cases hm:m=0
  ·subst hm
   exact ⟨s,n,e,plus0r s t n e f hn (by omega) (by omega) (by omega),by omega,h1,h2⟩
  ·refine ⟨_,_,_,plusP s t n m e f hn hm (by omega) (by omega) (by omega) (by omega) (by omega) (by omega) (by omega) (by omega) _ _ rfl rfl,?_,by omega,by omega⟩
   obtain ⟨a,ha⟩:∃a:Nat,(e - min e f).toNat=a:=⟨_,rfl⟩
   obtain ⟨c,hc⟩:∃c:Nat,(f - min e f).toNat=c:=⟨_,rfl⟩
   rw [ha,hc]
   have e1:bl (n*2^a)≤19000:=by have:=HX n a;omega
   have e2:bl (m*2^c)≤19000:=by have:=HX m c;omega
   generalize n*2^a=A at *
   generalize m*2^c=C at *
   have l0:=Jf e1 e2
   have hsum:∀X:Nat,X≤A+C→bl X≤20000:=fun X hX=>by have:=Jj hX;omega
   apply hsum
   unfold addZ
   split
   ·exact Nat.le_refl _
   ·split<;>simp only<;>omega
theorem minusC (d:Af):Dl (ofD d)=some ⟨⟨!d.Man.Neg,d.Man.Abs⟩,d.Exp⟩:=by
 obtain ⟨⟨s,n⟩,e⟩:=d
 unfold Dl ES ofD;cases s<;>rfl
end Go.Proofs.Pq
namespace Go.Proofs.Pq
set_option linter.unusedVariables false
set_option linter.unusedSimpArgs false
set_option maxRecDepth 4000
open Go.Proofs Go.Sb Go.Proofs.Sbn Go.Proofs.Lf
end Go.Proofs.Pq
namespace Go.Proofs.Pq
set_option linter.unusedVariables false
set_option linter.unusedSimpArgs false
set_option maxRecDepth 4000
open Go.Proofs Go.Sb Go.Proofs.Sbn Go.Proofs.Lf
def Lt2 (d:Af):Prop:=bl d.Man.Abs≤1930∧-3000≤d.Exp∧d.Exp≤3000
end Go.Proofs.Pq
namespace Go.Proofs.Pq
set_option linter.unusedVariables false
set_option linter.unusedSimpArgs false
set_option maxRecDepth 4000
open Go.Proofs Go.Sb Go.Proofs.Sbn Go.Proofs.Lf
theorem mkLt {d:Af} (hd:VT d) (h1:bl d.Man.Abs≤9000) (h2 : -5000≤d.Exp) (h3:d.Exp≤5000):Lt d:=⟨⟨fun h=>(hd.z h).1,by omega,h2,h3⟩,h1⟩
theorem Lt2.lt {d:Af} (hd:VT d) (h:Lt2 d):Lt d:=mkLt hd (by have:=h.1;omega) (by have:=h.2.1;omega) (by have:=h.2.2;omega)
theorem Cb.sm {r:An} (h:Cb r):Sm (toD r).Man.Abs:=(outOK h).2.sm
end Go.Proofs.Pq
namespace Go.Proofs.Pq
set_option linter.unusedVariables false
set_option linter.unusedSimpArgs false
set_option maxRecDepth 4000
open Go.Proofs Go.Sb Go.Proofs.Sbn Go.Proofs.Lf
theorem JS (x:Al) (h:Dig x.Man.Abs):∃v,Co x=some v∧(v=true→∀d,x=toL d→VT d→Lt2 d):=by
 obtain ⟨w,hv,_,_⟩:=Jo x h
 unfold Co
 by_cases hl:(List.length x.Man.Abs:Int)≤60
 ·have key:(-3000≤x.Exp∧x.Exp≤3000)→∀d,x=toL d→VT d→Lt2 d:=by
   rintro ⟨k1,k2⟩ d rfl hd
   have e1:(toL d).Exp=d.Exp:=rfl
   have e2:(toL d).Man.Abs.length=Sbn.sz d.Man.Abs:=rfl
   have h60:Sbn.sz d.Man.Abs≤60:=by omega
   exact ⟨by have:=IJ h60;omega,k1,k2⟩
  have nov:w=false→∀d,x=toL d→VT d→Lt2 d:=by
   intro hw d hd hvt
   subst hd;rw [(validT hvt).1,hw] at hv;cases hv
  rw [if_pos hl,hv]
  by_cases k1 : -3000≤x.Exp
  ·rw [if_pos k1,sB]
   by_cases k2:x.Exp≤3000
   ·exact ⟨true,by rw [decide_eq_true k2];rfl,fun _=>key ⟨k1,k2⟩⟩
   ·refine ⟨!w,by rw [decide_eq_false k2];cases w<;>rfl,fun hw=>nov (by cases w<;>simp_all)⟩
  ·rw [if_neg k1,sB]
   refine ⟨!w,by cases w<;>rfl,fun hw=>nov (by cases w<;>simp_all)⟩
 ·rw [if_neg hl]
  exact ⟨false,rfl,fun h=>by cases h⟩
theorem VEq.inj {r:An} {N N' E:Int} (h:VEq r N E) (h':VEq r N' E):N=N':=by
 have h1:=(h.cross h' (i:=0) (j:=0) (by omega)).1 (Int.le_refl _)
 have h2:=(h'.cross h (i:=0) (j:=0) (by omega)).1 (Int.le_refl _)
 omega
end Go.Proofs.Pq
namespace Go.Proofs.Pq
set_option linter.unusedVariables false
set_option linter.unusedSimpArgs false
set_option maxRecDepth 4000
open Go.Proofs Go.Sb Go.Proofs.Sbn Go.Proofs.Lf
theorem nearB (x y:An) (bx:Bd x) (by':Bd y):En x y=some true:=by
 obtain ⟨⟨s,n⟩,e⟩:=x
 obtain ⟨⟨t,m⟩,f⟩:=y
 obtain ⟨hxs,h1,h2⟩:=bx
 obtain ⟨hys,h3,h4⟩:=by'
 simp only at hxs hys h1 h2 h3 h4
 unfold En
 rw [sign,sB]
 by_cases hn:n=0
 ·rw [if_pos (by rw [if_pos hn])];rfl
 ·rw [if_neg (by rw [if_neg hn];split<;>decide),sign,sB,sB]
  by_cases hm:m=0
  ·rw [if_pos hm];rfl
  ·rw [decide_eq_false (by rw [if_neg hm];split<;>decide),if_neg (by decide)]
   unfold Dr
   simp only
   rw [wBits (show Sm n by unfold Sm;omega),sB,sB,wBits (show Sm m by unfold Sm;omega),sB,sB]
   rw [w64 (x:=(bl n:Int) - 1) (by omega) (by omega),w64 (x:=(bl n:Int) - 1+e) (by omega) (by omega),w64 (x:=(bl m:Int) - 1) (by omega) (by omega),w64 (x:=(bl m:Int) - 1+f) (by omega) (by omega)]
   rw [w64 (x:=max ((bl n:Int) - 1+e) ((bl m:Int) - 1+f) - min e f) (by omega) (by omega),decide_eq_true (by omega)]
structure EX (d:Af) (N E:Int) (B m:Nat):Prop where
 v:VT d
 e:VEq (ofD d) N E
 b:N.natAbs<2^B
 m:bl d.Man.Abs≤m
theorem VEq.small {d:Af} {N E:Int} {B:Nat} (h:VEq (ofD d) N E) (hv:VT d) (hN:N.natAbs<2^B):d.Man.Abs=0∨(E≤d.Exp∧d.Exp+bl d.Man.Abs≤E+B):=by
 by_cases h0:d.Man.Abs=0
 ·exact Or.inl h0
 ·refine Or.inr ?_
  have hodd:=(hv.o h0).1
  have hE:E≤d.Exp:=by
   refine Int.not_lt.1 fun hlt=>?_
   obtain ⟨j,hj⟩:∃j:Nat,E - d.Exp=(j:Int)+1:=⟨(E - d.Exp - 1).toNat,by omega⟩
   have h1:=h.2 0 (j+1) (by show d.Exp - E=_;omega)
   rw [Nat.pow_succ,Nat.pow_zero] at h1
   have h2:Z d.Man.Neg d.Man.Abs=N*(2^j:Nat)*2:=by
    have e1:((2^j*2:Nat):Int)=(2^j:Nat)*2:=by rw [Int.natCast_mul];rfl
    have e2:Z (ofD d).m.Neg (ofD d).m.Abs=Z d.Man.Neg d.Man.Abs:=rfl
    rw [e1,e2,←Int.mul_assoc] at h1
    simpa using h1
   generalize N*((2^j:Nat):Int)=X at h2
   unfold Z at h2
   split at h2<;>omega
  obtain ⟨i,hi⟩:∃i:Nat,d.Exp - E=(i:Int):=⟨(d.Exp - E).toNat,by omega⟩
  have h1:=h.2 i 0 (by show d.Exp - E=_;omega)
  have h2:Z d.Man.Neg d.Man.Abs*(2^i:Nat)=N:=by
   have e2:Z (ofD d).m.Neg (ofD d).m.Abs=Z d.Man.Neg d.Man.Abs:=rfl
   rw [e2,Nat.pow_zero] at h1
   simpa using h1
  have h3:N.natAbs=d.Man.Abs*2^i:=by
   rw [←h2,Int.natAbs_mul,Int.natAbs_natCast]
   congr 1
   unfold Z;split
   ·rw [Int.natAbs_neg,Int.natAbs_natCast]
   ·rw [Int.natAbs_natCast]
  rw [h3] at hN
  obtain ⟨a1,a2,a3⟩:=IX h0
  have h4:2^(bl d.Man.Abs - 1+i)<2^B:=by
   rw [Nat.pow_add]
   exact Nat.lt_of_le_of_lt (Nat.mul_le_mul_right _ a1) hN
  have h5:=(Nat.pow_lt_pow_iff_right (by decide:1<2)).1 h4
  omega
theorem EX.bd {d:Af} {N E:Int} {B m:Nat} (h:EX d N E B m) (hm:m≤9000) (h1 : -9000≤E) (h2:E+B≤9000):Bd (ofD d):=by
 have hmm:=h.m
 refine ⟨by show bl d.Man.Abs≤_;omega,?_,?_⟩
 ·show _≤d.Exp
  rcases h.e.small h.v h.b with h0 | h0
  ·rw [(h.v.z h0).2];omega
  ·omega
 ·show d.Exp≤_
  rcases h.e.small h.v h.b with h0 | h0
  ·rw [(h.v.z h0).2];omega
  ·omega
theorem EX.lt {d:Af} {N E:Int} {B m:Nat} (h:EX d N E B m) (hm:m≤9000) (h1 : -5000≤E) (h2:E+B≤5000):Lt d:=by
 have hmm:=h.m
 refine ⟨⟨fun h0=>(h.v.z h0).1,by omega,?_,?_⟩,by omega⟩
 ·rcases h.e.small h.v h.b with h0 | h0
  ·rw [(h.v.z h0).2];omega
  ·omega
 ·rcases h.e.small h.v h.b with h0 | h0
  ·rw [(h.v.z h0).2];omega
  ·omega
theorem EX.uniq {x y:Af} {N E:Int} {B m B' m':Nat} (h:EX x N E B m) (h':EX y N E B' m'):x=y:=by
 have:=h.e.uniq h'.e
 obtain ⟨⟨s,n⟩,e⟩:=x
 obtain ⟨⟨t,k⟩,f⟩:=y
 have e1:=congrArg (fun r:An=>(⟨r.m,r.e⟩:Af)) this
 exact e1
theorem EX.same {x y:Af} {N E:Int} {B m B' m':Nat} (h:EX x N E B m) (h':EX y N E B' m'):AK x y=some true:=by
 rw [h.uniq h'];exact sameD y h'.v.sm
theorem EX.base {x:Af} {N E:Int} {B m:Nat} (h:EX x N E B m) (k:Nat):EX x (N*(2^k:Nat)) (E - k) (B+k) m:=by
 refine ⟨h.v,h.e.base (p:=k) (q:=0) (by omega) (by rw [Nat.pow_zero];omega),?_,h.m⟩
 rw [Int.natAbs_mul,Int.natAbs_natCast,Nat.pow_add]
 exact Nat.mul_lt_mul_of_pos_right h.b (Nat.two_pow_pos k)
theorem EX.light {d:Af} {m:Nat} (hd:VT d) (hb:bl d.Man.Abs≤m) (h1 : -3000≤d.Exp) (h2:d.Exp≤3000):∃N,EX d N (-3000) (m+6000) m:=by
 obtain ⟨k,hk⟩:∃k:Nat,d.Exp+3000=(k:Int):=⟨(d.Exp+3000).toNat,by omega⟩
 have e0:EX d (Z d.Man.Neg d.Man.Abs) d.Exp m m:=by
  refine ⟨hd,hd.veq,?_,hb⟩
  have:(Z d.Man.Neg d.Man.Abs).natAbs=d.Man.Abs:=by unfold Z;split<;>simp
  rw [this]
  exact Fe.1 hb
 have e1:=e0.base k
 have hE:d.Exp - (k:Int) = -3000:=by omega
 rw [hE] at e1
 refine ⟨_,e1.v,e1.e,?_,e1.m⟩
 exact Nat.lt_of_lt_of_le e1.b (Nat.pow_le_pow_right (by decide) (by omega))
theorem EX.of {r:An} {N E:Int} {B:Nat} (hv:VEq r N E) (hb:N.natAbs<2^B) (hc:Cb r):EX (toD r) N E B (bl r.m.Abs):=
 ⟨(outOK hc).2,hv,hb,Nat.le_refl _⟩
theorem natAbs_add_lt {N N':Int} {B B' C:Nat} (h:N.natAbs<2^B) (h':N'.natAbs<2^B') (h1:B<C) (h2:B' < C):(N+N').natAbs<2^C:=by
 have a1:2^B≤2^(C - 1):=Nat.pow_le_pow_right (by decide) (by omega)
 have a2:2^B'≤2^(C - 1):=Nat.pow_le_pow_right (by decide) (by omega)
 have a3:2^C=2^(C - 1)*2:=by rw [←Nat.pow_succ];congr 1;omega
 have:=Int.natAbs_add_le N N'
 generalize 2^(C - 1)=P at *
 omega
theorem canonBl {r:An} {N E:Int} {B:Nat} (hv:VEq r N E) (hN:N.natAbs<2^B) (h1 : -9000≤E) (h2:E+B≤100000) (hB:B≤20000):Cb r:=by
 obtain ⟨s,M,F,hr⟩:=hv.1
 by_cases h0:M=0
 ·subst h0
  rw [hr]
  exact ⟨by unfold nz;rw [if_pos rfl];simp only;rw [GL];omega,by unfold nz;rw [if_pos rfl];simp only;omega,by unfold nz;rw [if_pos rfl];simp only;omega,_,_,_,rfl⟩
 ·have hr2:r=⟨⟨s,M/2^tz M⟩,F+tz M⟩:=by rw [hr];unfold nz;rw [if_neg h0]
  obtain ⟨t1,t2,_⟩:=EV h0
  have hodd:r.m.Abs%2=1:=by
   have h7:r.m.Abs=M/2^tz M:=by rw [hr2]
   have h8:M/2^tz M=2*t1+1:=by
    generalize tz M=z at *
    rw [t2,Nat.mul_div_cancel_left _ (Nat.two_pow_pos z)]
   rw [h7,h8]
   omega
  have hne:r.m.Abs≠0:=by omega
  have hE:E≤r.e:=by
   refine Int.not_lt.1 fun hlt=>?_
   obtain ⟨j,hj⟩:∃j:Nat,E - r.e=(j:Int)+1:=⟨(E - r.e - 1).toNat,by omega⟩
   have h1:=hv.2 0 (j+1) (by omega)
   rw [Nat.pow_succ,Nat.pow_zero] at h1
   have h2:Z r.m.Neg r.m.Abs=N*(2^j:Nat)*2:=by
    have e1:((2^j*2:Nat):Int)=(2^j:Nat)*2:=by rw [Int.natCast_mul];rfl
    rw [e1,←Int.mul_assoc] at h1
    simpa using h1
   generalize N*((2^j:Nat):Int)=X at h2
   unfold Z at h2
   split at h2<;>omega
  obtain ⟨i,hi⟩:∃i:Nat,r.e - E=(i:Int):=⟨(r.e - E).toNat,by omega⟩
  have h3:=hv.2 i 0 (by omega)
  have h4:N.natAbs=r.m.Abs*2^i:=by
   have h2:Z r.m.Neg r.m.Abs*(2^i:Nat)=N:=by rw [Nat.pow_zero] at h3;simpa using h3
   rw [←h2,Int.natAbs_mul,Int.natAbs_natCast]
   congr 1
   unfold Z;split
   ·rw [Int.natAbs_neg,Int.natAbs_natCast]
   ·rw [Int.natAbs_natCast]
  rw [h4] at hN
  obtain ⟨a1,a2,a3⟩:=IX hne
  have h5:2^(bl r.m.Abs - 1+i)<2^B:=by
   rw [Nat.pow_add]
   exact Nat.lt_of_le_of_lt (Nat.mul_le_mul_right _ a1) hN
  have h6:=(Nat.pow_lt_pow_iff_right (by decide:1<2)).1 h5
  exact ⟨by omega,by omega,by omega,s,M,F,hr⟩
theorem IE {x y:Af} {N N' E:Int} {B B' m m':Nat} (hx:EX x N E B m) (hy:EX y N' E B' m') (C:Nat) (c1:B<C) (c2:B' < C) (hm:m≤9000) (hm':m'≤9000) (h1 : -9000≤E) (h2:E+C≤9000) (hC:C≤20000) :
  ∃r,BL (toL x) (toL y)=some (r,0)∧EX r (N+N') E C C:=by
 have bx:=hx.bd hm h1 (by omega)
 have b2:=hy.bd hm' h1 (by omega)
 obtain ⟨r,q1,q2,_⟩:=hx.e.plus hy.e bx b2
 have hb:=natAbs_add_lt hx.b hy.b c1 c2
 have hc:=canonBl q2 hb h1 (by omega) hC
 have ex:=EX.of q2 hb hc
 have hm2:bl r.m.Abs≤C:=by
  rcases ex.e.small ex.v hb with h0 | h0
  ·have:r.m.Abs=0:=h0
   rw [this,GL];omega
  ·have e1:(toD r).Exp=r.e:=rfl
   have e2:(toD r).Man.Abs=r.m.Abs:=rfl
   rw [e1,e2] at h0
   omega
 refine ⟨toD r,?_,⟨ex.v,ex.e,hb,hm2⟩⟩
 unfold BL Bg BE
 rw [Jk hx.v hy.v,mbo,toNT,sB,inT,sB,toNT,sB,inT,sB,nearB _ _ bx b2,sB,wantT,mbo,q1,sB,(outOK hc).1,mbo]
 rfl
theorem Ij {x y:Af} {N N' E E':Int} {B B' m m':Nat} (hx:EX x N E B m) (hy:EX y N' E' B' m') (hm:m+m'≤20000) (h1 : -10000≤E) (h2:E+B≤20000) (h1' : -10000≤E') (h2':E' + B'≤20000) :
  ∃r,BM (toL x) (toL y)=some (r,0)∧EX r (N*N') (E+E') (B+B') (m+m'):=by
 have rx : -10000≤x.Exp∧x.Exp≤20000:=by
  rcases hx.e.small hx.v hx.b with h0 | h0
  ·rw [(hx.v.z h0).2];omega
  ·omega
 have ry : -10000≤y.Exp∧y.Exp≤20000:=by
  rcases hy.e.small hy.v hy.b with h0 | h0
  ·rw [(hy.v.z h0).2];omega
  ·omega
 have ex:=hx.e
 have ey:=hy.e
 have vx:=hx.v
 have vy:=hy.v
 have mx:=hx.m
 have my:=hy.m
 have bx:=hx.b
 have by':=hy.b
 obtain ⟨⟨s,n⟩,e⟩:=x
 obtain ⟨⟨t,k⟩,f⟩:=y
 simp only at rx ry mx my
 have hM:bl (n*k)≤m+m':=by have:=bl_mul2 n k;omega
 have hc:Cb (nz (decide (¬s=t)) (n*k) (e+f)):=Cb.of (by omega) (by omega) (by omega)
 have hp:De (ofD ⟨⟨s,n⟩,e⟩) (ofD ⟨⟨t,k⟩,f⟩)=some (nz (decide (¬s=t)) (n*k) (e+f)):=by
  unfold De Ft ofD
  simp only
  rw [wMul (by unfold Sm;omega) (by unfold Sm;omega),sB,sB,w64 (x:=e+f) (by omega) (by omega),normal _ _ _ (by unfold Sm;omega) (by omega) (by omega)];rfl
 have hv:VEq (nz (decide (¬s=t)) (n*k) (e+f)) (N*N') (E+E'):=by
  obtain ⟨i,j,hij⟩:=Gu e E
  obtain ⟨i',j',hij'⟩:=Gu f E'
  have g1:Z s n*(2^i:Nat)=N*(2^j:Nat):=ex.2 i j hij
  have g2:Z t k*(2^i':Nat)=N' * (2^j':Nat):=ey.2 i' j' hij'
  refine (Ia _ _ _).base (p:=i+i') (q:=j+j') (by omega) ?_
  have g3:Z (decide (¬s=t)) (n*k)=Z s n*Z t k:=by
   unfold Z;cases s<;>cases t<;>simp [Int.natCast_mul,Int.neg_mul,Int.mul_neg]
  rw [g3,p2add,p2add]
  have a1:Z s n*Z t k*((2^i:Nat)*(2^i':Nat))=Z s n*(2^i:Nat)*(Z t k*(2^i':Nat)):=by
   simp only [Int.mul_assoc,Int.mul_comm,Int.mul_left_comm]
  have a2:N*N' * ((2^j:Nat)*(2^j':Nat))=N*(2^j:Nat)*(N' * (2^j':Nat)):=by
   simp only [Int.mul_assoc,Int.mul_comm,Int.mul_left_comm]
  rw [a1,a2,g1,g2]
 have hb:(N*N').natAbs<2^(B+B'):=by
  rw [Int.natAbs_mul,Nat.pow_add]
  exact Nat.mul_lt_mul'' bx by'
 refine ⟨_,?_,(outOK hc).2,hv,hb,?_⟩
 ·unfold BM BA BY
  rw [Jk vx vy,mbo,toNT,sB,inT,sB,toNT,sB,inT,sB]
  unfold Gc
  rw [sB,wantT,mbo,hp,sB,(outOK hc).1,mbo]
  rfl
 ·show bl (nz (decide (¬s=t)) (n*k) (e+f)).m.Abs≤_
  unfold nz
  split
  ·simp only;rw [GL];omega
  ·simp only
   have:=Jm (n*k) (2^tz (n*k));omega
end Go.Proofs.Pq
