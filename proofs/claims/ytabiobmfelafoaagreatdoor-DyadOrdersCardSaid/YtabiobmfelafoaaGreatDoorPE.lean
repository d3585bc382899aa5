import Derived.Test.YtabiobmfelafoaaGreatDoorPC
import Derived.Test.YtabiobmfelafoaaGreatDoorPD
namespace Go.Proofs.Pq
set_option linter.unusedVariables false
set_option linter.unusedSimpArgs false
set_option maxRecDepth 4000
open Go.Proofs Go.Sb Go.Proofs.Sbn Go.Proofs.Lf
def ratD (d:Ak):Cz:=if 0≤d.Exp then ⟨⟨d.Man.Neg,d.Man.Abs*2^d.Exp.toNat⟩,1⟩ else ⟨d.Man,2^(-d.Exp).toNat⟩
theorem Nj (x:Ak) (hx:VT x) (hs:bl x.Man.Abs≤9600) (hl : -5000≤x.Exp) (hu:x.Exp≤5000):Eg x=some (ratD x):=by
 obtain ⟨⟨s,n⟩,e⟩:=x
 simp only at hs hl hu
 have hsm:Sm n:=hx.sm
 unfold Eg ratD
 show (if 0≤e then _ else _:Option Cz)=some (if 0≤e then _ else _)
 by_cases he:0≤e
 ·obtain ⟨k,rfl⟩:∃k:Nat,e=k:=⟨e.toNat,by omega⟩
  rw [if_pos he,if_pos he]
  show ((Br n (k:Int)).bind _)=_
  rw [rShl hsm (by omega),sB];rfl
 ·obtain ⟨k,rfl⟩:∃k:Nat,e = -(k:Int):=⟨(-e).toNat,by omega⟩
  have hn0:n≠0:=fun h=>by have:=(hx.z h).2;simp only at this;omega
  have hodd:=(hx.o hn0).1
  simp only at hodd
  have hb2:bl (2^k)≤k+1:=KJ k
  have hg:Nat.gcd n (2^k)=1:=odd_gcd n k hodd
  have h1:Bc (limbs 1) (limbs 1)=some true:=by
   rw [show Bc (limbs 1) (limbs 1)=_ from Rb (Ao _) (Ao _) (by decide),decide_eq_true ⟨rfl,rfl⟩]
  rw [if_neg he,if_neg he]
  show ((some 1).bind fun r61=>(Br r61 (wi64 (0 - -(k:Int)))).bind fun r70=>(Gr ⟨s,n⟩ r70).bind fun r79=>some r79)=_
  rw [sB,show wi64 (0 - -(k:Int))=(k:Int) from w64n (by omega) (by omega),rShl sm1 (by omega),sB,Nat.one_mul]
  unfold Gr
  simp only
  rw [gcd n (2^k) (by omega) (by omega),sB,hg,show BM=some 1 from rfl,sB]
  show (((Bc (limbs 1) (limbs 1)).bind _).bind _)=_
  rw [h1,Int.neg_neg];rfl
end Go.Proofs.Pq
namespace Go.Proofs.Pq
set_option linter.unusedVariables false
set_option linter.unusedSimpArgs false
set_option maxRecDepth 4000
open Go.Proofs Go.Sb Go.Proofs.Sbn Go.Proofs.Lf
theorem top_ok (x:Ak) (hx:VT x) (lx:Lt x) (h0:x.Man.Abs≠0):GW (toL x)=some ((bl x.Man.Abs:Int) - 1+x.Exp,0):=by
 have hl:(0:Int)<((limbs x.Man.Abs).length:Int):=by
  have:Sbn.sz x.Man.Abs≠0:=fun h=>h0 (Gk h)
  have e:Sbn.sz x.Man.Abs=(limbs x.Man.Abs).length:=rfl
  omega
 have h1:=lx.2
 have h2:=lx.1.l
 have h3:=lx.1.u
 unfold GW JS
 rw [OY hx,mbo,show decide ((0:Int)<((List.length (toL x).Man.Abs:Int)))=true from decide_eq_true hl,show BR true 5=some (.ok ()) from rfl,mbo,toNT,sB,inT,sB]
 unfold FO
 rw [show BA (ofD x).m.Abs=some ((bl x.Man.Abs:Nat):Int) from wBits hx.sm,sB,w64 (x:=((bl x.Man.Abs:Nat):Int) - 1) (by omega) (by omega),show (ofD x).e=x.Exp from rfl,w64 (x:=((bl x.Man.Abs:Nat):Int) - 1+x.Exp) (by omega) (by omega),sB]
 rfl
theorem top_zero:GW (toL zD)=some (0,5):=rfl
end Go.Proofs.Pq
namespace Go.Proofs.Pq
set_option linter.unusedVariables false
set_option linter.unusedSimpArgs false
set_option maxRecDepth 4000
open Go.Proofs Go.Sb Go.Proofs.Sbn Go.Proofs.Lf
theorem ratOf_nz (s:Bool) (n d:Nat) (h1:Sm n) (h2:Sm d):Ir ⟨⟨s,n⟩,d⟩=some (nz s n 0,nz false d 0):=by
 unfold Ir
 show (((some (⟨s,n⟩:Ah)).bind fun r28=>(Dc r28 0).bind fun r37=>(Dc ((⟨false,d⟩:Ah)) 0).bind fun r46=>some (r37,r46)))=_
 rw [sB,normal s n 0 h1 (by omega) (by omega),sB,normal false d 0 h2 (by omega) (by omega),sB]
end Go.Proofs.Pq
namespace Go.Proofs.Pq
set_option linter.unusedVariables false
set_option linter.unusedSimpArgs false
set_option maxRecDepth 4000
open Go.Proofs Go.Sb Go.Proofs.Sbn Go.Proofs.Lf
theorem light_60 (x:Ak) (hx:VT x) (h:CT (toL x)=some true):Sbn.sz x.Man.Abs≤60∧-3000≤x.Exp∧x.Exp≤3000:=by
 unfold CT at h
 rw [(validT hx).1] at h
 have e:(List.length (toL x).Man.Abs)=Sbn.sz x.Man.Abs:=rfl
 have e2:(toL x).Exp=x.Exp:=rfl
 rw [e,e2] at h
 by_cases h1:(Sbn.sz x.Man.Abs:Int)≤60
 ·by_cases h2 : -3000≤x.Exp
  ·by_cases h3:x.Exp≤3000
   ·exact ⟨by omega,h2,h3⟩
   ·simp [h1,h2,h3] at h
  ·simp [h1,h2] at h
 ·simp [h1] at h
end Go.Proofs.Pq
namespace Go.Proofs.Pq
set_option linter.unusedVariables false
set_option linter.unusedSimpArgs false
set_option maxRecDepth 4000
open Go.Proofs Go.Sb Go.Proofs.Sbn Go.Proofs.Lf
theorem sgnc01 (a b:Nat) : -1≤sgnc a b∧sgnc a b≤1:=by unfold sgnc;split<;>(try split)<;>omega
theorem NB (a b:Int):∃c,Fj a b=some c∧-1≤c∧c≤1:=by
 unfold Fj
 split
 ·exact ⟨-1,rfl,by omega,by omega⟩
 ·split
  ·exact ⟨1,rfl,by omega,by omega⟩
  ·exact ⟨0,rfl,by omega,by omega⟩
theorem NZ (x:Am):∃c,Bz x=some c∧-1≤c∧c≤1:=by
 obtain ⟨⟨s,n⟩,e⟩:=x
 refine ⟨sv s n,sign s n e,?_⟩
 have:=sv01 s n
 omega
theorem Kt {α β:Type} {o:Option α} {f:α→Option β} {c:β} (h:o.bind f=some c):∃a,o=some a∧f a=some c:=by
 cases o with
 | none=>cases h
 | some a=>exact ⟨a,rfl,h⟩
theorem cmp01 {x y:Am} {c:Int} (h:Bp x y=some c) : -1≤c∧c≤1:=by
 unfold Bp at h
 obtain ⟨a,ha,a1,a2⟩:=NZ x
 obtain ⟨b,hb,b1,b2⟩:=NZ y
 rw [ha,hb,sB,sB] at h
 obtain ⟨m,_,h⟩:=Kt h
 split at h
 ·obtain ⟨d,hd,d1,d2⟩:=NB a b
  rw [hd,sB] at h
  cases h
  exact ⟨d1,d2⟩
 ·obtain ⟨t,_,h⟩:=Kt h
  obtain ⟨u,_,h⟩:=Kt h
  split at h
  ·obtain ⟨d,hd,d1,d2⟩:=NB t u
   rw [sB,hd,sB] at h
   cases h
   have ea:a = -1∨a=0∨a=1:=by omega
   have ed:d = -1∨d=0∨d=1:=by omega
   rcases ea with rfl | rfl | rfl<;>rcases ed with rfl | rfl | rfl<;>decide
  ·obtain ⟨v,_,h⟩:=Kt h
   obtain ⟨z,_,h⟩:=Kt h
   obtain ⟨d,hd,d1,d2⟩:=NZ z
   rw [hd,sB] at h
   cases h
   exact ⟨d1,d2⟩
theorem refCmp01 {x y:Cz} {c:Int} (h1:Sm (x.Num.Abs*y.Den)) (h2:Sm (y.Num.Abs*x.Den)) (hx:Sm x.Num.Abs) (hxd:Sm x.Den) (hy:Sm y.Num.Abs) (hyd:Sm y.Den) (h:Cq x y=some c) : -1≤c∧c≤1:=by
 obtain ⟨⟨s,n⟩,d⟩:=x
 obtain ⟨⟨t,m⟩,b⟩:=y
 simp only at h1 h2 hx hxd hy hyd
 unfold Cq at h
 simp only at h
 rw [signed,sB] at h
 simp only [Bool.false_and] at h
 rw [NU s n b hx hyd,sB,signed,sB] at h
 simp only [Bool.false_and] at h
 rw [NU t m d hy hxd,sB] at h
 obtain ⟨k,hk,h⟩:=Kt h
 cases h
 have hs:=sgnc01 (n*b) (m*d)
 unfold EO at hk
 simp only at hk
 rw [rCmp h1 h2,sB,sB] at hk
 split at hk
 ·split at hk<;>cases hk<;>decide
 ·split at hk
  ·cases hk
   rw [w64 (by omega) (by omega)]
   omega
  ·cases hk;exact hs
theorem eq01 {c k:Int} (h1 : -1≤c∧c≤1) (h2 : -1≤k∧k≤1) (h3:c<0↔k<0) (h4:0<c↔0<k):c=k:=by omega
theorem cmp_ref (x y:Ak) (hx:VT x) (hy:VT y) (lx:Lt x) (ly:Lt y):∃c,HA (toL x) (toL y)=some (c,0)∧Co x y=some c:=by
 have bx:bl x.Man.Abs≤9000:=lx.2
 have by':bl y.Man.Abs≤9000:=ly.2
 have ex:=lx.1.l
 have ex2:=lx.1.u
 have ey:=ly.1.l
 have ey2:=ly.1.u
 obtain ⟨c,hc,h⟩:=Pq.cmp x.Man.Neg y.Man.Neg x.Man.Abs y.Man.Abs x.Exp y.Exp (by omega) (by omega) (by omega) (by omega) (by omega) (by omega)
 obtain ⟨k,hk,k1,k2⟩:=refCompare x.Man.Neg y.Man.Neg x.Man.Abs y.Man.Abs x.Exp y.Exp (by omega) (by omega) (by omega) (by omega) (by omega) (by omega) (by omega) (by omega)
 obtain ⟨i,j,hij⟩:=LB x.Exp y.Exp
 have h1:=h i j hij
 have h2:=k2 i j hij
 have e:c=k:=eq01 (cmp01 hc) (by omega) (by rw [h1.1,h2.1]) (by rw [h1.2,h2.2])
 subst e
 refine ⟨c,?_,hk⟩
 have hc':Bp (ofD x) (ofD y)=some c:=hc
 unfold HA JW
 rw [valid2 hx hy,mbo,toNT,sB,inT,sB,toNT,sB,inT,sB,hc'];rfl
theorem PG (x y:Ap) (v0 v1:Bool) (p0:CF x=some v0) (p1:CF y=some v1) (h:(v0 && v1)=false):HA x y=some (0,1):=by
 unfold HA JW Gh
 rw [p0,p1]
 cases v0
 ·rfl
 ·cases v1
  ·rfl
  ·cases h
theorem Na (x:Ap) (r:FV) (v0 v1:Bool) (p0:CF x=some v0) (p1:Gy r=some v1) (h:(v0 && v1)=false):FI x r=some (0,1):=by
 unfold FI It CY
 rw [p0,p1]
 cases v0
 ·rfl
 ·cases v1
  ·rfl
  ·cases h
theorem top_err (x:Ap) (p0:CF x=some false):GW x=some (0,1):=by
 unfold GW JS CY
 rw [p0];rfl
theorem floor_err (x:Ap) (p0:CF x=some false):GX x=some (⟨false,0⟩,1):=by
 unfold GX IW CY
 rw [p0];rfl
theorem num_times (s t:Bool) (n k:Nat) (e f:Int) (hn:bl n≤9000) (hk:bl k≤9000) (h1 : -100000≤e) (h2:e≤100000) (h3 : -100000≤f) (h4:f≤100000) :
  En ⟨⟨s,n⟩,e⟩ ⟨⟨t,k⟩,f⟩=some (nz (decide (¬s=t)) (n*k) (e+f)):=by
 have hb:=KD n k
 unfold En IB
 simp only
 rw [wMul (by unfold Sm;omega) (by unfold Sm;omega),sB,sB,w64 (x:=e+f) (by omega) (by omega),normal _ _ _ (by unfold Sm;omega) (by omega) (by omega),sB]
theorem Z_nm (s:Bool) (n m:Nat):Z s (n*m)=Z s n*m:=by
 unfold Z;split<;>simp [Int.natCast_mul,Int.neg_mul]
theorem cmpRat_ref (x:Ak) (hx:VT x) (hs:Sbn.sz x.Man.Abs≤60) (hl : -3000≤x.Exp) (hu:x.Exp≤3000) (s:Bool) (n d:Nat) (hd:d≠0) (hn:Sbn.sz n≤60) (hds:Sbn.sz d≤60) (p0:Gy ⟨⟨s,limbs n⟩,limbs d⟩=some true) :
  ∃c,FI (toL x) ⟨⟨s,limbs n⟩,limbs d⟩=some (c,0)∧Ci x ⟨⟨s,n⟩,d⟩=some c:=by
 have bm:=Il hs
 have bn:=Il hn
 have bd:=Il hds
 have sn:Sm n:=by unfold Sm;omega
 have sd:Sm d:=by unfold Sm;omega
 have hval:=Nj x hx (by omega) (by omega) (by omega)
 obtain ⟨q,hq⟩:=Pn d
 have hpd:0<2^tz d:=Nat.two_pow_pos _
 have ed:d/2^tz d=q:=by
  conv=>lhs;lhs;rw [hq]
  exact Nat.mul_div_cancel _ hpd
 have bq:bl q≤1920:=by rw [←ed];exact Nat.le_trans (Lu _ _) (by omega)
 obtain ⟨_,_,td⟩:=IT hd
 have btz:tz d≤1920:=by omega
 have fd:nz false d 0=⟨⟨false,q⟩,((tz d:Nat):Int)⟩:=by unfold nz;rw [if_neg hd,ed,Int.zero_add]
 have ht:=num_times x.Man.Neg false x.Man.Abs q x.Exp (tz d:Nat) (by omega) (by omega) (by omega) (by omega) (by omega) (by omega)
 have hdec:decide (¬x.Man.Neg=false)=x.Man.Neg:=by cases x.Man.Neg<;>rfl
 rw [hdec] at ht
 have v1:VEq (nz x.Man.Neg (x.Man.Abs*q) (x.Exp+(tz d:Nat))) (Z x.Man.Neg x.Man.Abs*d) x.Exp:=by
  refine (Qv _ _ _).base (p:=tz d) (q:=0) (by omega) ?_
  rw [Z_nm,Int.mul_assoc]
  have:((q:Int)*((2^tz d:Nat):Int))=(d:Int):=by
   rw [←Int.natCast_mul,←hq]
  rw [this];simp
 obtain ⟨i,j,hij⟩:=LB x.Exp 0
 have hE:x.Exp - (x.Exp - i)=(i:Int) - (0:Nat):=by omega
 have w1:VEq (nz x.Man.Neg (x.Man.Abs*q) (x.Exp+(tz d:Nat))) (Z x.Man.Neg x.Man.Abs*d*(2^i:Nat)) (x.Exp - i):=v1.base (p:=i) (q:=0) hE (by simp)
 have w2:VEq (nz s n 0) (Z s n*(2^j:Nat)) (x.Exp - i):=(Qv s n 0).base (p:=j) (q:=0) (by omega) (by simp)
 have small:∀(σ:Bool) (M:Nat) (F:Int),bl M≤9000→-10000≤F→F≤10000→bl (nz σ M F).m.Abs≤20000∧-1000000≤(nz σ M F).e∧(nz σ M F).e≤1000000:=by
  intro σ M F h1 h2 h3
  unfold nz
  by_cases h0:M=0
  ·subst h0
   rw [if_pos rfl]
   exact ⟨by show bl 0≤_;exact Nat.le_trans (Mh (Nat.zero_le 1)) (by decide),by show (-1000000:Int)≤0;omega,by show (0:Int)≤_;omega⟩
  ·obtain ⟨_,_,t1⟩:=IT h0
   rw [if_neg h0]
   have:=Lu M (2^tz M)
   exact ⟨by show bl (M/2^tz M)≤_;omega,by show (-1000000:Int)≤F+(tz M:Nat);omega,by show F+(tz M:Nat)≤(1000000:Int);omega⟩
 have bmq:=KD x.Man.Abs q
 obtain ⟨c,hc,c1,c2⟩:=w1.cmp w2 (small _ _ _ (by omega) (by omega) (by omega)) (small _ _ _ (by omega) (by omega) (by omega))
 have hR:bl (ratD x).Num.Abs≤5000∧bl (ratD x).Den≤5000:=by
  unfold ratD
  split
  ·have:=KD x.Man.Abs (2^x.Exp.toNat)
   have:=KJ x.Exp.toNat
   exact ⟨by show bl (x.Man.Abs*2^x.Exp.toNat)≤_;omega,by show bl 1≤_;exact Nat.le_trans (KJ 0) (by decide)⟩
  ·have:=KJ (-x.Exp).toNat
   exact ⟨by show bl x.Man.Abs≤_;omega,by show bl (2^(-x.Exp).toNat)≤_;omega⟩
 obtain ⟨k,hk,k1,k2⟩:=refCmp (ratD x).Num.Neg s (ratD x).Num.Abs (ratD x).Den n d (by omega) (by omega) (by omega) (by omega)
 have hk':Cq (ratD x) ⟨⟨s,n⟩,d⟩=some k:=hk
 have sA:=KD (ratD x).Num.Abs d
 have sC:=KD n (ratD x).Den
 have hk01:=refCmp01 (x:=ratD x) (y:=⟨⟨s,n⟩,d⟩) (by unfold Sm;show bl ((ratD x).Num.Abs*d)≤_;omega) (by unfold Sm;show bl (n*(ratD x).Den)≤_;omega) (by unfold Sm;omega) (by unfold Sm;omega) sn sd hk'
 have hcross:∃P:Nat,0<P∧Z x.Man.Neg x.Man.Abs*d*(2^i:Nat)=Z (ratD x).Num.Neg (ratD x).Num.Abs*d*P∧Z s n*(2^j:Nat)=Z s n*(ratD x).Den*P:=by
  unfold ratD
  by_cases he:0≤x.Exp
  ·rw [if_pos he]
   simp only
   refine ⟨2^j,Nat.two_pow_pos _,?_,by simp⟩
   have:i=x.Exp.toNat+j:=by omega
   rw [this,p2add,Z_nm,Int.mul_assoc,Int.mul_assoc,Int.mul_assoc,←Int.mul_assoc ((2^x.Exp.toNat:Nat):Int),Int.mul_comm ((2^x.Exp.toNat:Nat):Int) (d:Int),Int.mul_assoc]
  ·rw [if_neg he]
   simp only
   refine ⟨2^i,Nat.two_pow_pos _,rfl,?_⟩
   have:j=(-x.Exp).toNat+i:=by omega
   rw [this,p2add,Int.mul_assoc]
 obtain ⟨P,hP,e1,e2⟩:=hcross
 have hPi:(0:Int)<(P:Int):=by omega
 have hlt:∀a b:Int,a*P<b*P↔a<b:=fun a b=>⟨fun h=>Int.lt_of_mul_lt_mul_right h (Int.le_of_lt hPi),fun h=>Int.mul_lt_mul_of_pos_right h hPi⟩
 rw [e1,e2,hlt] at c1 c2
 have e:c=k:=eq01 (cmp01 hc) hk01 (by rw [c1,k1]) (by rw [c2,k2])
 subst e
 refine ⟨c,?_,?_⟩
 ·unfold FI It
  rw [OY hx,mbo,p0,sB,wantT,mbo,IL,sB,IL,sB]
  simp only
  rw [ratOf_nz s n d sn sd,sB,toNT,sB,inT,sB]
  simp only
  rw [fd,show En (ofD x) ⟨⟨false,q⟩,((tz d:Nat):Int)⟩=_ from ht,sB,hc]
  rfl
 ·unfold Ci
  rw [hval,sB,hk'];rfl
end Go.Proofs.Pq
namespace Go.Proofs.Pq
set_option linter.unusedVariables false
set_option linter.unusedSimpArgs false
set_option maxRecDepth 4000
open Go.Proofs Go.Sb Go.Proofs.Sbn Go.Proofs.Lf
theorem natShr (n k:Nat) (hn:Sbn.sz n≤1024) (hk:k≤32768):Jz n (k:Int)=some (n/2^k,0):=by
 have hb:=Il hn
 have hf:Sbn.sz (n/2^k)≤1024:=FC (Nat.le_trans (Lu _ _) hb)
 unfold Jz LO
 rw [OC n hn,mbo,decide_eq_true (by omega:0≤(k:Int)),show EC true 1=some (.ok ()) from rfl,mbo]
 unfold DD
 rw [gdB ⟨by omega,by omega,by omega⟩,sB,Int.toNat_natCast,natGiven _ hf]
 rfl
theorem natSub1 (n:Nat) (hn:Sbn.sz n≤1024) (h0:n≠0):Kr n 1=some (n - 1,0):=by
 have hb:=Il hn
 have hf:Sbn.sz (n - 1)≤1024:=FC (Nat.le_trans (Mh (Nat.sub_le _ _)) hb)
 have h1:Sbn.sz 1=1:=by decide
 unfold Kr Di Ew JR
 rw [Mr n 1 hn (by omega),mbo]
 unfold DX DW
 have hg:(0:Int)≤sgnc n 1:=by unfold sgnc;split<;>(try split)<;>omega
 rw [gdB ⟨by omega,by omega⟩,sB,decide_eq_true hg,show EC true 3=some (.ok ()) from rfl,mbo,gdB ⟨by omega,by omega,by omega⟩,sB,mbo,natGiven _ hf]
 rfl
theorem natAdd1 (n:Nat) (hn:bl n≤32000):Kn n 1=some (n+1,0):=by
 have h0:Sbn.sz n≤1024:=FC (by omega)
 have h1:Sbn.sz 1=1:=by decide
 have hb:=MN (a:=n) (b:=1) (k:=32000) hn (Nat.le_trans (KJ 0) (by decide))
 have hf:Sbn.sz (n+1)≤1024:=FC (by omega)
 unfold Kn CE DH
 rw [Mr n 1 h0 (by omega),mbo]
 unfold DY
 rw [gdB ⟨by omega,by omega⟩,sB,natGiven _ hf]
 rfl
theorem wholeOwn (s:Bool) (n:Nat) (h:Sbn.sz n≤1024):Gp ⟨s,n⟩=some ⟨s,n⟩:=by
 unfold Gp Cu
 simp only
 rw [gdB (by omega)];rfl
theorem wholeSigned (s:Bool) (n:Nat):Ez s n=some ⟨s && decide (n≠0),n⟩:=by
 unfold Ez
 simp only [Ns]
 cases s<;>rfl
theorem PC (n:Nat):FE n 0=some (.ok n):=rfl
theorem wholeShr (s:Bool) (n k:Nat) (hn:Sbn.sz n≤60) (h0:n≠0) (hk:1≤k) (hk':k≤3000) :
  Fa ⟨s,n⟩ (-(k:Int))=some (⟨(if s then true else false),if s then (n - 1)/2^k+1 else n/2^k⟩,0):=by
 have hb:=Il hn
 have hw:wi64 (-(max (-(k:Int)) (-33792)))=(k:Int):=w64n (by omega) (by omega)
 unfold Fa Cg CV DS
 rw [NE s n (by omega) (fun h=>absurd h h0),mbo,if_neg (by omega),hw]
 simp only
 cases s
 ·have hf:Sbn.sz (n/2^k)≤1024:=FC (Nat.le_trans (Lu _ _) (by omega))
  rw [if_pos (by decide),natShr n k (by omega) (by omega),sB]
  simp only
  rw [PC,mbo,wholeSigned,sB,Bool.false_and,wholeOwn _ _ hf]
  rfl
 ·have hf1:Sbn.sz (n - 1)≤1024:=FC (Nat.le_trans (Mh (Nat.sub_le _ _)) (by omega))
  have hb2:bl ((n - 1)/2^k)≤1920:=Nat.le_trans (Lu _ _) (Nat.le_trans (Mh (Nat.sub_le _ _)) hb)
  have hb3:=MN (a:=(n - 1)/2^k) (b:=1) (k:=1920) hb2 (Nat.le_trans (KJ 0) (by decide))
  have hf:Sbn.sz ((n - 1)/2^k+1)≤1024:=FC (by omega)
  rw [if_neg (by decide),natSub1 n (by omega) h0,sB]
  simp only
  rw [PC,mbo,natShr (n - 1) k hf1 (by omega),sB]
  simp only
  rw [PC,mbo,natAdd1 _ (by omega),sB]
  simp only
  rw [PC,mbo,wholeSigned,sB,Bool.true_and,decide_eq_true (Nat.succ_ne_zero _),wholeOwn _ _ hf]
  rfl
theorem floor_pred {n k:Nat} (h:n%2=1) (hk:1≤k):(n - 1)/2^k=n/2^k∧n%2^k≠0:=by
 obtain ⟨j,rfl⟩:∃j,k=j+1:=⟨k - 1,by omega⟩
 have e:2^(j+1)=2*2^j:=by rw [Nat.pow_succ,Nat.mul_comm]
 have hp:=Nat.two_pow_pos j
 have h1:n%2^(j+1)%2=1:=by rw [e,Nat.mod_mul_right_mod];exact h
 have h2:n%2^(j+1)≠0:=by omega
 refine ⟨?_,h2⟩
 have h3:=Nat.div_add_mod n (2^(j+1))
 have h4:=Nat.mod_lt n (Nat.two_pow_pos (j+1))
 generalize 2^(j+1)=P at *
 generalize n/P=q at *
 generalize n%P=r at *
 have:n - 1=r - 1+P*q:=by omega
 rw [this,Nat.add_mul_div_left _ _ (by omega),Nat.div_eq_of_lt (by omega)]
 omega
theorem floor_ref (x:Ak) (hx:VT x) (hs:Sbn.sz x.Man.Abs≤60) (hl : -3000≤x.Exp) (hu:x.Exp≤3000) :
  ∃r,GX (toL x)=some (r,0)∧Fe x=some r∧Sm r.Abs∧(x.Man.Abs=0→r.Abs=0):=by
 have bm:=Il hs
 have hval:=Nj x hx (by omega) (by omega) (by omega)
 have hz:x.Man.Abs=0→x.Man.Neg=false:=fun h=>(hx.z h).1
 unfold GX IW Fe FF
 rw [OY hx,mbo,toNT,sB,hval,sB]
 have one:Sm 1:=sm1
 by_cases he:0≤x.Exp
 ·obtain ⟨k,hk⟩:∃k:Nat,x.Exp=(k:Int):=⟨x.Exp.toNat,by omega⟩
  have hbk:=KD x.Man.Abs (2^k)
  have:=KJ k
  have hf:Sbn.sz (x.Man.Abs*2^k)≤1024:=FC (by omega)
  have hsm:Sm (x.Man.Abs*2^k):=by unfold Sm;omega
  have hR:ratD x=⟨⟨x.Man.Neg,x.Man.Abs*2^k⟩,1⟩:=by unfold ratD;rw [if_pos he,hk];rfl
  have hsh:Fa (⟨(toL x).Man.Neg,x.Man.Abs⟩:Ah) (toL x).Exp=some (⟨x.Man.Neg,x.Man.Abs*2^k⟩,0):=by
   have e1:(toL x).Exp=(k:Int):=hk
   rw [e1]
   exact wholeShift x.Man.Neg x.Man.Abs k (by omega) hz (by omega) hf
  rw [hsh,sB,hR]
  refine ⟨⟨x.Man.Neg,x.Man.Abs*2^k⟩,?_,?_,hsm,fun h=>by show x.Man.Abs*_=0;rw [h,Nat.zero_mul]⟩
  ·show ((mb (BR true 0) _:M _).bind _)=_
   rw [wantT,mbo]
   unfold Cu
   rw [gdB (by show Sbn.sz (x.Man.Abs*2^k)<_;omega)]
   rfl
  ·simp only
   rw [rDiv hsm one (by decide),sB]
   simp only
   rw [Nat.div_one,Nat.mod_one]
   show (((BB (x.Man.Abs*2^k) 0 1 x.Man.Neg 5).bind _).bind _)=_
   rw [show BB (x.Man.Abs*2^k) 0 1 x.Man.Neg 5=some (x.Man.Abs*2^k) from rfl,sB,signed,sB,sB]
   congr 2
   by_cases h0:x.Man.Abs=0
   ·rw [hz h0];rfl
   ·rw [decide_eq_true (Nat.mul_ne_zero h0 (Nat.pos_iff_ne_zero.1 (Nat.two_pow_pos k))),Bool.and_true]
 ·obtain ⟨k,hk⟩:∃k:Nat,x.Exp = -(k:Int):=⟨(-x.Exp).toNat,by omega⟩
  have hn0:x.Man.Abs≠0:=fun h=>by have:=(hx.z h).2;omega
  have hodd:=(hx.o hn0).1
  have hR:ratD x=⟨x.Man,2^k⟩:=by
   unfold ratD;rw [if_neg he,hk,show (- -(k:Int)).toNat=k by omega]
  obtain ⟨f1,f2⟩:=floor_pred hodd (show 1≤k by omega)
  have hbk:=KJ k
  have hsn:Sm x.Man.Abs:=hx.sm
  have hsp:Sm (2^k):=by unfold Sm;omega
  have hb2:bl (x.Man.Abs/2^k)≤1920:=Nat.le_trans (Lu _ _) bm
  have hb3:=MN (a:=x.Man.Abs/2^k) (b:=1) (k:=1920) hb2 (Nat.le_trans (KJ 0) (by decide))
  have hsh:Fa (⟨(toL x).Man.Neg,x.Man.Abs⟩:Ah) (toL x).Exp=some (⟨(if x.Man.Neg then true else false),if x.Man.Neg then (x.Man.Abs - 1)/2^k+1 else x.Man.Abs/2^k⟩,0):=by
   have e1:(toL x).Exp = -(k:Int):=hk
   rw [e1]
   exact wholeShr x.Man.Neg x.Man.Abs k hs hn0 (by omega) (by omega)
  have hrs:BB (x.Man.Abs/2^k) (x.Man.Abs%2^k) (2^k) x.Man.Neg 5=some (if x.Man.Neg then x.Man.Abs/2^k+1 else x.Man.Abs/2^k):=by
   unfold BB
   simp only [sz0]
   rw [if_neg f2]
   cases x.Man.Neg
   ·rfl
   ·show ((BM.bind fun r=>(Bw (x.Man.Abs/2^k) r).bind fun r=>some r))=_
    rw [show BM=some 1 from rfl,sB,rAdd (by unfold Sm;omega) sm1];rfl
  rw [hsh,sB,hR,f1]
  simp only
  rw [rDiv hsn hsp (Nat.pos_iff_ne_zero.1 (Nat.two_pow_pos k)),sB]
  simp only
  rw [hrs,sB,signed,sB]
  refine ⟨⟨(if x.Man.Neg then true else false),if x.Man.Neg then x.Man.Abs/2^k+1 else x.Man.Abs/2^k⟩,?_,?_,?_,fun h=>absurd h hn0⟩
  ·show ((mb (BR true 0) _:M _).bind _)=_
   rw [wantT,mbo]
   unfold Cu
   have hc:Sbn.sz (if x.Man.Neg then x.Man.Abs/2^k+1 else x.Man.Abs/2^k)<1073741824:=by
    have:Sbn.sz (if x.Man.Neg then x.Man.Abs/2^k+1 else x.Man.Abs/2^k)≤1024:=FC (by split<;>omega)
    omega
   rw [gdB hc]
   rfl
  ·rw [sB]
   congr 2
   cases x.Man.Neg<;>rfl
  ·unfold Sm
   show bl (if x.Man.Neg then x.Man.Abs/2^k+1 else x.Man.Abs/2^k)≤_
   split<;>omega
end Go.Proofs.Pq
namespace Go.Proofs.Pq
set_option linter.unusedVariables false
set_option linter.unusedSimpArgs false
set_option maxRecDepth 4000
open Go.Proofs Go.Sb Go.Proofs.Sbn Go.Proofs.Lf
theorem lawOrders (x0 x1:Ap) (x2:FV) (h0:Dig x0.Man.Abs) (h1:Dig x1.Man.Abs) (h2:Dig x2.Num.Abs) (h3:Dig x2.Den):EJ x0 x1 x2=some true:=by
 obtain ⟨w0,fe0,fk0⟩:=PX x0 h0
 obtain ⟨w1,fe1,fk1⟩:=PX x1 h1
 obtain ⟨v0,e0,f0,g0⟩:=Pl x0 h0
 obtain ⟨v1,e1,f1,g1⟩:=Pl x1 h1
 obtain ⟨v2,e2,f2,g2⟩:=validRat x2 h2 h3
 have hlr:Er x2=some (decide ((List.length x2.Num.Abs:Int)≤60∧(List.length x2.Den:Int)≤60)):=by
  unfold Er
  by_cases q1:(List.length x2.Num.Abs:Int)≤60<;>by_cases q2:(List.length x2.Den:Int)≤60<;>simp [q1,q2]
 unfold EJ
 rw [fe0,sB,fe1,hlr,sanity]
 cases w0
 ·rfl
 cases w1
 ·rfl
 by_cases hl:(List.length x2.Num.Abs:Int)≤60∧(List.length x2.Den:Int)≤60
 ·rw [decide_eq_true hl]
  cases v0
  ·rw [PG x0 x1 false v1 f0 f1 rfl,Na x0 x2 false v2 f0 f2 rfl,top_err x0 f0,floor_err x0 f0,e0];rfl
  ·obtain ⟨x,rfl,hx⟩:=g0 rfl
   have lx:=fk0 rfl x rfl hx
   obtain ⟨s60,el,eu⟩:=light_60 x hx fe0
   obtain ⟨fr,q1,q2,q3,q4⟩:=floor_ref x hx s60 el eu
   have kC:∃c e,HA (toL x) x1=some (c,e)∧(v1=true→e=0∧∃a,toN x1.Man.Abs=some a∧Co x ⟨⟨x1.Man.Neg,a⟩,x1.Exp⟩=some c)∧(v1=false→e=1∧c=0):=by
    cases v1
    ·exact ⟨0,1,PG (toL x) x1 true false f0 f1 rfl,(by intro h;cases h),fun _=>⟨rfl,rfl⟩⟩
    ·obtain ⟨y,rfl,hy⟩:=g1 rfl
     obtain ⟨c,c1,c2⟩:=cmp_ref x y hx hy lx (fk1 rfl y rfl hy)
     exact ⟨c,0,c1,fun _=>⟨rfl,y.Man.Abs,toNT y,c2⟩,(by intro h;cases h)⟩
   have kR:∃c e,FI (toL x) x2=some (c,e)∧(v2=true→e=0∧∃a b,toN x2.Num.Abs=some a∧toN x2.Den=some b∧Ci x ⟨⟨x2.Num.Neg,a⟩,b⟩=some c)∧(v2=false→e=1∧c=0):=by
    cases v2
    ·exact ⟨0,1,Na (toL x) x2 true false f0 f2 rfl,(by intro h;cases h),fun _=>⟨rfl,rfl⟩⟩
    ·obtain ⟨s,n,d,rfl,hz,hd⟩:=g2 rfl
     have l1:Sbn.sz n≤60:=by have:=hl.1;have e:(limbs n).length=Sbn.sz n:=rfl;simp only [e] at this;omega
     have l2:Sbn.sz d≤60:=by have:=hl.2;have e:(limbs d).length=Sbn.sz d:=rfl;simp only [e] at this;omega
     obtain ⟨c,c1,c2⟩:=cmpRat_ref x hx s60 el eu s n d hd l1 l2 f2
     exact ⟨c,0,c1,fun _=>⟨rfl,n,d,IL n,IL d,c2⟩,(by intro h;cases h)⟩
   have kT:∃t e k,GW (toL x)=some (t,e)∧CG x=some k∧(k=0→t=0∧e=5∧fr.Abs=0)∧(¬k=0→e=0∧FT x=some t):=by
    have hsg:CG x=some (sv x.Man.Neg x.Man.Abs):=refSign x.Man.Neg x.Man.Abs x.Exp
    by_cases hz:x.Man.Abs=0
    ·obtain ⟨z1,z2⟩:=hx.z hz
     have hxz:x=zD:=by
      obtain ⟨⟨s,n⟩,e⟩:=x
      simp only at hz z1 z2
      subst hz z1 z2;rfl
     refine ⟨0,5,0,by rw [hxz];exact top_zero,by rw [hxz];rfl,fun _=>⟨rfl,rfl,q4 hz⟩,fun h=>absurd rfl h⟩
    ·refine ⟨_,0,_,top_ok x hx lx hz,hsg,fun h=>?_,fun _=>⟨rfl,?_⟩⟩
     ·exfalso;revert h;unfold sv;rw [if_neg hz];split<;>decide
     ·have b1:=lx.2
      unfold FT
      rw [rBits hx.sm,sB,w64 (x:=((bl x.Man.Abs:Nat):Int) - 1) (by omega) (by omega),w64 (x:=((bl x.Man.Abs:Nat):Int) - 1+x.Exp) (by omega) (by omega)]
   obtain ⟨c,ec,c1,c2,c3⟩:=kC
   obtain ⟨k,ek,k1,k2,k3⟩:=kR
   obtain ⟨t,et,sg,t1,t2,t3,t4⟩:=kT
   have d0:(⟨⟨(toL x).Man.Neg,x.Man.Abs⟩,(toL x).Exp⟩:Ak)=x:=rfl
   have ss:CW fr fr=some true:=sameInt fr q3
   have hs0:sg=0→Sbn.sz fr.Abs=0:=fun h=>by rw [(t3 h).2.2];rfl
   simp only [not_true_eq_false,if_false,sB,decide_false,Bool.false_eq_true,if_true,decide_true,c1,k1,t1,q1,e0,e1,e2,toNT,d0,t2]
   have mC:∀f:Bool→Option Bool,((if ¬(v1=true) then (if ¬ec=1 then some (true) else some ((decide (¬c=0)))).bind fun m392=>some (m392) else some (false)).bind fun m369=>(if m369=true then some (true) else (if v1=true then (if ¬ec=0 then some (true) else (toN x1.Man.Abs).bind fun m704=>(Co x ((⟨(⟨x1.Man.Neg,m704⟩:Ah),x1.Exp⟩:Ak))).bind fun r709=>some ((decide (¬c=r709)))).bind fun m683=>some (m683) else some (false)).bind fun m641=>some (m641)).bind f)=f false:=by
    intro f
    cases v1
    ·obtain ⟨rfl,rfl⟩:=c3 rfl;rfl
    ·obtain ⟨rfl,a,a1,a2⟩:=c2 rfl
     rw [a1,sB,a2,sB,show decide (¬c=c)=false from decide_eq_false (fun h=>h rfl)];rfl
   have mR:∀f:Bool→Option Bool,((if ¬(v2=true) then (if ¬ek=1 then some (true) else some ((decide (¬k=0)))).bind fun m392=>some (m392) else some (false)).bind fun m369=>(if m369=true then some (true) else (if v2=true then (if ¬ek=0 then some (true) else (toN x2.Num.Abs).bind fun m704=>(toN x2.Den).bind fun m705=>(Ci x ((⟨(⟨x2.Num.Neg,m704⟩:Ah),m705⟩:Cz))).bind fun r709=>some ((decide (¬k=r709)))).bind fun m683=>some (m683) else some (false)).bind fun m641=>some (m641)).bind f)=f false:=by
    intro f
    cases v2
    ·obtain ⟨rfl,rfl⟩:=k3 rfl;rfl
    ·obtain ⟨rfl,a,b,a1,b1,a2⟩:=k2 rfl
     rw [a1,sB,b1,sB,a2,sB,show decide (¬k=k)=false from decide_eq_false (fun h=>h rfl)];rfl
   rw [mC,if_neg (by decide),mR,if_neg (by decide)]
   by_cases hsg:sg=0
   ·obtain ⟨u1,u2,u3⟩:=t3 hsg
    have u4:=hs0 hsg
    subst u1 u2
    simp only [hsg,if_true,sB,decide_true,u4,Int.natCast_zero,Int.ofNat_zero]
   ·obtain ⟨u1,u2⟩:=t4 hsg
    subst u1
    rw [if_neg hsg]
    simp only [if_true,sB,decide_true,u2,q2,ss]
 ·rw [decide_eq_false hl];rfl
end Go.Proofs.Pq
