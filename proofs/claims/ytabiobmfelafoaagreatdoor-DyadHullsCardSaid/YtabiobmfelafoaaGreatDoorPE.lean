import Derived.Test.YtabiobmfelafoaaGreatDoorPC
import Derived.Test.YtabiobmfelafoaaGreatDoorPD
namespace Go.Proofs.Pq
set_option linter.unusedVariables false
set_option linter.unusedSimpArgs false
set_option maxRecDepth 4000
open Go.Proofs Go.Sb Go.Proofs.Sbn Go.Proofs.Lf
def ratD (d:Ag):Dt:=if 0≤d.Exp then ⟨⟨d.Man.Neg,d.Man.Abs*2^d.Exp.toNat⟩,1⟩ else ⟨d.Man,2^(-d.Exp).toNat⟩
theorem Nw (x:Ag) (hx:VT x) (hs:bl x.Man.Abs≤9600) (hl : -5000≤x.Exp) (hu:x.Exp≤5000):Fm x=some (ratD x):=by
 obtain ⟨⟨s,n⟩,e⟩:=x
 simp only at hs hl hu
 have hsm:Sm n:=hx.sm
 unfold Fm ratD
 show (if 0≤e then _ else _:Option Dt)=some (if 0≤e then _ else _)
 by_cases he:0≤e
 ·obtain ⟨k,rfl⟩:∃k:Nat,e=k:=⟨e.toNat,by omega⟩
  rw [if_pos he,if_pos he]
  show ((BD n (k:Int)).bind _)=_
  rw [rShl hsm (by omega),sB];rfl
 ·obtain ⟨k,rfl⟩:∃k:Nat,e = -(k:Int):=⟨(-e).toNat,by omega⟩
  have hn0:n≠0:=fun h=>by have:=(hx.z h).2;simp only at this;omega
  have hodd:=(hx.o hn0).1
  simp only at hodd
  have hb2:bl (2^k)≤k+1:=Ks k
  have hg:Nat.gcd n (2^k)=1:=Om n k hodd
  have h1:AV (limbs 1) (limbs 1)=some true:=by
   rw [show AV (limbs 1) (limbs 1)=_ from RD (Ar _) (Ar _) (by decide),decide_eq_true ⟨rfl,rfl⟩]
  rw [if_neg he,if_neg he]
  show ((some 1).bind fun r61=>(BD r61 (wi64 (0 - -(k:Int)))).bind fun r70=>(GC ⟨s,n⟩ r70).bind fun r79=>some r79)=_
  rw [sB,show wi64 (0 - -(k:Int))=(k:Int) from w64n (by omega) (by omega),rShl sm1 (by omega),sB,Nat.one_mul]
  unfold GC
  simp only
  rw [gcd n (2^k) (by omega) (by omega),sB,hg,show CT=some 1 from rfl,sB]
  show (((AV (limbs 1) (limbs 1)).bind _).bind _)=_
  rw [h1,Int.neg_neg];rfl
theorem ratD_nz (d:Ag) (hd:VT d) (h0:d.Man.Abs≠0):∃a c:Int,nz d.Man.Neg (ratD d).Num.Abs 0=⟨d.Man,a⟩∧nz false (ratD d).Den 0=⟨⟨false,1⟩,c⟩∧a - c=d.Exp∧(ratD d).Num.Neg=d.Man.Neg∧Nat.gcd (ratD d).Num.Abs (ratD d).Den=1∧(ratD d).Den≠0∧(ratD d).Num.Abs≠0∧0≤a∧0≤c∧(a=0∨c=0):=by
 obtain ⟨⟨s,n⟩,e⟩:=d
 simp only at h0
 have hodd:=(hd.o h0).1
 simp only at hodd
 have htz:∀k:Nat,∀s:Bool,nz s (n*2^k) 0=⟨⟨s,n⟩,(k:Int)⟩:=by
  intro k s
  have:=ML (s:=s) (q:=n) (e:=(k:Int)) hodd
  have hk:n*2^k≠0:=Nat.mul_ne_zero h0 (Nat.pos_iff_ne_zero.1 (Nat.two_pow_pos k))
  have ht:tz (n*2^k)=k:=NU (m:=n/2) (by rw [Nat.mul_comm];congr 1;omega)
  unfold nz
  rw [if_neg hk,ht,Nat.mul_div_cancel _ (Nat.two_pow_pos _),Int.zero_add]
 have h1z:∀k:Nat,nz false (2^k) 0=⟨⟨false,1⟩,(k:Int)⟩:=by
  intro k
  have ht:tz (2^k)=k:=NU (m:=0) (by simp)
  unfold nz
  rw [if_neg (Nat.pos_iff_ne_zero.1 (Nat.two_pow_pos k)),ht,Nat.div_self (Nat.two_pow_pos _),Int.zero_add]
 unfold ratD
 by_cases he:0≤e
 ·simp only [if_pos he]
  refine ⟨(e.toNat:Int),((0:Nat):Int),htz _ _,h1z 0,by omega,trivial,by simp,by decide,Nat.mul_ne_zero h0 (Nat.pos_iff_ne_zero.1 (Nat.two_pow_pos _)),by omega,by omega,.inr rfl⟩
 ·simp only [if_neg he]
  refine ⟨0,((-e).toNat:Int),ML hodd,h1z _,by omega,trivial,Om _ _ hodd,Nat.pos_iff_ne_zero.1 (Nat.two_pow_pos _),h0,by omega,by omega,.inl rfl⟩
end Go.Proofs.Pq
namespace Go.Proofs.Pq
set_option linter.unusedVariables false
set_option linter.unusedSimpArgs false
set_option maxRecDepth 4000
open Go.Proofs Go.Sb Go.Proofs.Sbn Go.Proofs.Lf
theorem ratio_ratD (x:Ag) (hx:VT x) (h0:x.Man.Abs≠0) (hs:Sbn.sz x.Man.Abs≤60) (hl : -3000≤x.Exp) (hu:x.Exp≤3000) :
  Sbn.sz (ratD x).Num.Abs≤160∧Sbn.sz (ratD x).Den≤160:=by
 have hb:=JS hs
 unfold ratD
 split
 ·refine ⟨HR ?_,by show Sbn.sz 1≤160;decide⟩
  show bl (x.Man.Abs*2^x.Exp.toNat)≤_
  have:=Kq x.Man.Abs (2^x.Exp.toNat)
  have:=Ks x.Exp.toNat
  omega
 ·refine ⟨by show Sbn.sz x.Man.Abs≤160;omega,HR ?_⟩
  show bl (2^(-x.Exp).toNat)≤_
  have:=Ks (-x.Exp).toNat
  omega
end Go.Proofs.Pq
namespace Go.Proofs.Pq
set_option linter.unusedVariables false
set_option linter.unusedSimpArgs false
set_option maxRecDepth 4000
open Go.Proofs Go.Sb Go.Proofs.Sbn Go.Proofs.Lf
theorem wholeValid (s:Bool) (n:Nat) (hn:Sbn.sz n≤1024) (hz:n=0→s=false):Dd ⟨s,limbs n⟩=some true:=by
 obtain ⟨v,_,h2,_⟩:=OM ⟨s,limbs n⟩ (Ar n)
 have h:=NY s n hn hz
 cases v
 ·unfold Gt Bs BE Ia at h
  simp only at h
  rw [h2] at h
  cases h
 ·exact h2
theorem ratio_true (s:Bool) (n d:Nat) (hz:n=0→s=false) (hn:Sbn.sz n≤1024) (hd:Sbn.sz d≤1024) (hd0:d≠0) (hg:Nat.gcd n d=1):FO ⟨⟨s,limbs n⟩,limbs d⟩=some true:=by
 have hln:((limbs d).length:Int)≠0:=by
  intro h;exact hd0 (GI (by have:Sbn.sz d=(limbs d).length:=rfl;omega))
 have h1:=natGcd n d hn hd hd0
 have h2:=progOne (Nat.gcd n d)
 rw [hg] at h1 h2
 unfold FO
 simp only
 rw [wholeValid s n hn hz,sB,nValid (Ar d),AB,decide_eq_true ⟨hd,rfl⟩]
 simp only [not_true_eq_false,if_false,sB,decide_false,Bool.false_eq_true,decide_eq_false hln,Mp,h1]
 exact h2
theorem ratOf_nz (s:Bool) (n d:Nat) (h1:Sm n) (h2:Sm d):IS ⟨⟨s,n⟩,d⟩=some (nz s n 0,nz false d 0):=by
 unfold IS
 show (((some (⟨s,n⟩:Ae)).bind fun r28=>(CO r28 0).bind fun r37=>(CO ((⟨false,d⟩:Ae)) 0).bind fun r46=>some (r37,r46)))=_
 rw [sB,normal s n 0 h1 (by omega) (by omega),sB,normal false d 0 h2 (by omega) (by omega),sB]
end Go.Proofs.Pq
namespace Go.Proofs.Pq
set_option linter.unusedVariables false
set_option linter.unusedSimpArgs false
set_option maxRecDepth 4000
open Go.Proofs Go.Sb Go.Proofs.Sbn Go.Proofs.Lf
theorem light_60 (x:Ag) (hx:VT x) (h:CB (toL x)=some true):Sbn.sz x.Man.Abs≤60∧-3000≤x.Exp∧x.Exp≤3000:=by
 unfold CB at h
 rw [(validT hx).1] at h
 have e:(List.length (toL x).Man.Abs)=Sbn.sz x.Man.Abs:=rfl
 have e2:(toL x).Exp=x.Exp:=rfl
 rw [e,e2] at h
 by_cases h1:(Sbn.sz x.Man.Abs:Int)≤60
 ·by_cases h2 : -3000≤x.Exp
  ·by_cases h3:x.Exp≤3000
   ·exact ⟨by omega,h2,h3⟩
   ·simp [h1,h2,h3] at h
  ·simp [h1,h2] at h
 ·simp [h1] at h
end Go.Proofs.Pq
namespace Go.Proofs.Pq
set_option linter.unusedVariables false
set_option linter.unusedSimpArgs false
set_option maxRecDepth 4000
open Go.Proofs Go.Sb Go.Proofs.Sbn Go.Proofs.Lf
theorem sgnc01 (a b:Nat) : -1≤sgnc a b∧sgnc a b≤1:=by unfold sgnc;split<;>(try split)<;>omega
theorem NX (a b:Int):∃c,Fv a b=some c∧-1≤c∧c≤1:=by
 unfold Fv
 split
 ·exact ⟨-1,rfl,by omega,by omega⟩
 ·split
  ·exact ⟨1,rfl,by omega,by omega⟩
  ·exact ⟨0,rfl,by omega,by omega⟩
theorem OD (x:An):∃c,Bo x=some c∧-1≤c∧c≤1:=by
 obtain ⟨⟨s,n⟩,e⟩:=x
 refine ⟨sv s n,sign s n e,?_⟩
 have:=sv01 s n
 omega
theorem KF {α β:Type} {o:Option α} {f:α→Option β} {c:β} (h:o.bind f=some c):∃a,o=some a∧f a=some c:=by
 cases o with
 | none=>cases h
 | some a=>exact ⟨a,rfl,h⟩
theorem cmp01 {x y:An} {c:Int} (h:AH x y=some c) : -1≤c∧c≤1:=by
 unfold AH at h
 obtain ⟨a,ha,a1,a2⟩:=OD x
 obtain ⟨b,hb,b1,b2⟩:=OD y
 rw [ha,hb,sB,sB] at h
 obtain ⟨m,_,h⟩:=KF h
 split at h
 ·obtain ⟨d,hd,d1,d2⟩:=NX a b
  rw [hd,sB] at h
  cases h
  exact ⟨d1,d2⟩
 ·obtain ⟨t,_,h⟩:=KF h
  obtain ⟨u,_,h⟩:=KF h
  split at h
  ·obtain ⟨d,hd,d1,d2⟩:=NX t u
   rw [sB,hd,sB] at h
   cases h
   have ea:a = -1∨a=0∨a=1:=by omega
   have ed:d = -1∨d=0∨d=1:=by omega
   rcases ea with rfl | rfl | rfl<;>rcases ed with rfl | rfl | rfl<;>decide
  ·obtain ⟨v,_,h⟩:=KF h
   obtain ⟨z,_,h⟩:=KF h
   obtain ⟨d,hd,d1,d2⟩:=OD z
   rw [hd,sB] at h
   cases h
   exact ⟨d1,d2⟩
theorem refCmp01 {x y:Dt} {c:Int} (h1:Sm (x.Num.Abs*y.Den)) (h2:Sm (y.Num.Abs*x.Den)) (hx:Sm x.Num.Abs) (hxd:Sm x.Den) (hy:Sm y.Num.Abs) (hyd:Sm y.Den) (h:DF x y=some c) : -1≤c∧c≤1:=by
 obtain ⟨⟨s,n⟩,d⟩:=x
 obtain ⟨⟨t,m⟩,b⟩:=y
 simp only at h1 h2 hx hxd hy hyd
 unfold DF at h
 simp only at h
 rw [signed,sB] at h
 simp only [Bool.false_and] at h
 rw [Ow s n b hx hyd,sB,signed,sB] at h
 simp only [Bool.false_and] at h
 rw [Ow t m d hy hxd,sB] at h
 obtain ⟨k,hk,h⟩:=KF h
 cases h
 have hs:=sgnc01 (n*b) (m*d)
 unfold Hx at hk
 simp only at hk
 rw [rCmp h1 h2,sB,sB] at hk
 split at hk
 ·split at hk<;>cases hk<;>decide
 ·split at hk
  ·cases hk
   rw [w64 (by omega) (by omega)]
   omega
  ·cases hk;exact hs
theorem RX {c k:Int} (h1 : -1≤c∧c≤1) (h2 : -1≤k∧k≤1) (h3:c<0↔k<0) (h4:0<c↔0<k):c=k:=by omega
theorem cmp_ref (x y:Ag) (hx:VT x) (hy:VT y) (lx:Lt x) (ly:Lt y):∃c,Jo (toL x) (toL y)=some (c,0)∧Bi x y=some c:=by
 have bx:bl x.Man.Abs≤9000:=lx.2
 have by':bl y.Man.Abs≤9000:=ly.2
 have ex:=lx.1.l
 have ex2:=lx.1.u
 have ey:=ly.1.l
 have ey2:=ly.1.u
 obtain ⟨c,hc,h⟩:=Pq.cmp x.Man.Neg y.Man.Neg x.Man.Abs y.Man.Abs x.Exp y.Exp (by omega) (by omega) (by omega) (by omega) (by omega) (by omega)
 obtain ⟨k,hk,k1,k2⟩:=Mo x.Man.Neg y.Man.Neg x.Man.Abs y.Man.Abs x.Exp y.Exp (by omega) (by omega) (by omega) (by omega) (by omega) (by omega) (by omega) (by omega)
 obtain ⟨i,j,hij⟩:=Kl x.Exp y.Exp
 have h1:=h i j hij
 have h2:=k2 i j hij
 have e:c=k:=RX (cmp01 hc) (by omega) (by rw [h1.1,h2.1]) (by rw [h1.2,h2.2])
 subst e
 refine ⟨c,?_,hk⟩
 have hc':AH (ofD x) (ofD y)=some c:=hc
 unfold Jo LH
 rw [valid2 hx hy,mbo,toNT,sB,inT,sB,toNT,sB,inT,sB,hc'];rfl
theorem num_times (s t:Bool) (n k:Nat) (e f:Int) (hn:bl n≤9000) (hk:bl k≤9000) (h1 : -100000≤e) (h2:e≤100000) (h3 : -100000≤f) (h4:f≤100000) :
  DH ⟨⟨s,n⟩,e⟩ ⟨⟨t,k⟩,f⟩=some (nz (decide (¬s=t)) (n*k) (e+f)):=by
 have hb:=Kq n k
 unfold DH Je
 simp only
 rw [wMul (by unfold Sm;omega) (by unfold Sm;omega),sB,sB,w64 (x:=e+f) (by omega) (by omega),normal _ _ _ (by unfold Sm;omega) (by omega) (by omega),sB]
theorem Z_nm (s:Bool) (n m:Nat):Z s (n*m)=Z s n*m:=by
 unfold Z;split<;>simp [Int.natCast_mul,Int.neg_mul]
end Go.Proofs.Pq
namespace Go.Proofs.Pq
set_option linter.unusedVariables false
set_option linter.unusedSimpArgs false
set_option maxRecDepth 4000
open Go.Proofs Go.Sb Go.Proofs.Sbn Go.Proofs.Lf
end Go.Proofs.Pq
namespace Go.Proofs.Pq
set_option linter.unusedVariables false
set_option linter.unusedSimpArgs false
set_option maxRecDepth 4000
open Go.Proofs Go.Sb Go.Proofs.Sbn Go.Proofs.Lf
end Go.Proofs.Pq
