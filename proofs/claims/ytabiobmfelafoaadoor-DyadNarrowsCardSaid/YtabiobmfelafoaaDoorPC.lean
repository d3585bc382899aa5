import Derived.Test.YtabiobmfelafoaaDoorPB
import Derived.KernelRfl
namespace Go.Proofs.Pq
set_option linter.unusedVariables false
set_option linter.unusedSimpArgs false
set_option maxRecDepth 4000
open Go.Proofs Go.Sb Go.Proofs.Sbn Go.Proofs.Lf
theorem nValid {a:List Int} (ha:Dig a):Fh a=some (decide (a.length≤1024∧limbs (val a)=a)):=by
 rw [←KO ha];rfl
def toL (d:Af):Ar:=⟨⟨d.Man.Neg,limbs d.Man.Abs⟩,d.Exp⟩
def ofD (d:Af):Ah:=⟨d.Man,d.Exp⟩
structure VT (d:Af):Prop where
 s:Sbn.sz d.Man.Abs≤1024
 z:d.Man.Abs=0→d.Man.Neg=false∧d.Exp=0
 o:d.Man.Abs≠0→d.Man.Abs%2=1∧-1048576≤d.Exp∧d.Exp≤1048576
theorem validT {d:Af} (h:VT d):Bl (toL d)=some true∧Dp (toL d)=some true:=by
 obtain ⟨⟨s,n⟩,e⟩:=d
 obtain ⟨h1,h2,h3⟩:=h
 simp only at h1 h2 h3
 unfold Bl Dp Db ES toL
 simp only
 rw [show Bo (limbs n)=_ from KO (AN n),nValid (AN n),sB,Bb,decide_eq_true ⟨h1,rfl⟩]
 by_cases h0:n=0
 ·obtain ⟨rfl,rfl⟩:=h2 h0
  subst h0
  exact ⟨rfl,rfl⟩
 ·obtain ⟨a1,a2,a3⟩:=h3 h0
  have hb:=rBit (AN n) 0 (by decide)
  have hl:((limbs n).length:Int)≠0:=by
   intro h;exact h0 (HM (by have:Sbn.sz n=(limbs n).length:=rfl;omega))
  have hl2:(0:Int)<((limbs n).length:Int):=by omega
  rw [Bb,Nat.pow_zero,Nat.div_one,a1] at hb
  have hnt:nth (limbs n) 0=some ((n%4294967296:Nat):Int):=by
   rw [ED h0];unfold nth;rw [if_pos ⟨by omega,by simp only [List.length_cons];omega⟩];rfl
  have hb2:Bt (limbs n) 0=some 1:=hb
  have e1:(((n%4294967296:Nat):Int)%2)=1:=by omega
  rw [hb2,hnt]
  simp only [decide_eq_true hl2,sB,if_true,e1,decide_eq_true a2,decide_eq_true a3,if_neg hl]
  cases s<;>exact ⟨rfl,rfl⟩
theorem Km (x:Ar) (hx:Dig x.Man.Abs):∃v,Bl x=some v∧Dp x=some v∧(v=true→∃d,x=toL d∧VT d):=by
 obtain ⟨⟨s,l⟩,e⟩:=x
 simp only at hx
 unfold Bl Dp Db ES
 simp only
 rw [show Bo l=_ from KO hx,nValid hx,sB]
 by_cases hP:l.length≤1024∧limbs (val l)=l
 ·rw [decide_eq_true hP]
  obtain ⟨hl,hc⟩:=hP
  generalize val l=n at hc
  subst hc
  by_cases h0:n=0
  ·subst h0
   cases s
   ·exact ⟨decide (e=0),rfl,rfl,fun h=>⟨⟨⟨false,0⟩,e⟩,rfl,hl,fun _=>⟨rfl,of_decide_eq_true h⟩,fun h=>absurd rfl h⟩⟩
   ·exact ⟨false,rfl,rfl,fun h=>by cases h⟩
  ·have hb:=rBit (AN n) 0 (by decide)
   have hz:Sbn.sz n=(limbs n).length:=rfl
   have hln:((limbs n).length:Int)≠0:=by
    intro h;exact h0 (HM (by omega))
   have hl2:(0:Int)<((limbs n).length:Int):=by omega
   rw [Bb,Nat.pow_zero,Nat.div_one] at hb
   have hnt:nth (limbs n) 0=some ((n%4294967296:Nat):Int):=by
    rw [ED h0];unfold nth;rw [if_pos ⟨by omega,by simp only [List.length_cons];omega⟩];rfl
   have hb2:Bt (limbs n) 0=some ((n%2:Nat):Int):=hb
   rw [hb2,hnt]
   have c1:(((n%2:Nat):Int)=1)=(n%2=1):=by apply propext;omega
   refine ⟨decide (n%2=1∧-1048576≤e∧e≤1048576),?_,?_,fun h=>?_⟩
   ·simp only [decide_eq_true hl2,sB,if_true,if_neg hln,c1]
    by_cases a1:n%2=1<;>by_cases a2 : -1048576≤e<;>by_cases a3:e≤1048576<;>cases s<;>simp [a1,a2,a3,sB]
   ·simp only [decide_eq_true hl2,sB,if_true,if_neg hln]
    have e1:(((n%4294967296:Nat):Int)%2)=((n%2:Nat):Int):=by omega
    simp only [e1,c1]
    by_cases a1:n%2=1<;>by_cases a2 : -1048576≤e<;>by_cases a3:e≤1048576<;>cases s<;>simp [a1,a2,a3,sB]
   ·have h:=of_decide_eq_true h
    exact ⟨⟨⟨s,n⟩,e⟩,rfl,hl,fun h=>absurd h h0,fun _=>h⟩
 ·rw [decide_eq_false hP]
  exact ⟨false,rfl,rfl,fun h=>by cases h⟩
end Go.Proofs.Pq
namespace Go.Proofs.Pq
set_option linter.unusedVariables false
set_option linter.unusedSimpArgs false
set_option maxRecDepth 4000
open Go.Proofs Go.Sb Go.Proofs.Sbn Go.Proofs.Lf
def addZ (s:Bool) (A:Nat) (t:Bool) (C:Nat):Bool × Nat:=if s=t then (s,A+C) else if C≤A then (s,A - C) else (t,C - A)
theorem addZ_Z (s:Bool) (A:Nat) (t:Bool) (C:Nat):Z (addZ s A t C).1 (addZ s A t C).2=Z s A+Z t C:=by
 unfold addZ Z
 by_cases h:C≤A<;>cases s<;>cases t<;>simp [h]<;>omega
theorem sm_add {a b:Nat} (ha:bl a≤400000) (hb:bl b≤400000):Sm (a+b):=by
 have:=JY ha hb
 unfold Sm;omega
theorem MC (s:Bool) (n:Nat):(sv s n<0↔Z s n<0)∧(0<sv s n↔0<Z s n):=by
 unfold sv Z
 by_cases h:n=0
 ·subst h;cases s<;>simp
 ·rw [if_neg h];cases s<;>simp<;>omega
theorem VT.ok {d:Af} (h:VT d) (hl : -5000≤d.Exp) (hu:d.Exp≤5000) (hs:Sbn.sz d.Man.Abs≤600):Ok d:=
 ⟨fun h0=>(h.z h0).1,by have:=JT hs;omega,hl,hu⟩
theorem outOK {r:Ah} (h:Cb r):Cl r=some (.ok (toD r))∧VT (toD r):=by
 obtain ⟨h1,h2,h3,s,M,e,rfl⟩:=h
 have hS:Sm (nz s M e).m.Abs:=by unfold Sm;omega
 have hz:Sbn.sz (nz s M e).m.Abs≤1000:=Iy (by omega)
 have hv:VT (toD (nz s M e)):=by
  refine ⟨Nat.le_trans hz (by decide),fun h=>?_,fun h=>?_⟩
  ·have h0:M=0:=by
    by_cases h0:M=0
    ·exact h0
    ·exfalso
     unfold toD nz at h
     rw [if_neg h0] at h
     simp only at h
     obtain ⟨q,hq⟩:=JH M
     generalize tz M=z at *
     rw [hq,Nat.mul_div_cancel _ (Nat.two_pow_pos z)] at h
     rw [h,Nat.zero_mul] at hq;exact h0 hq
   unfold toD nz
   rw [if_pos h0]
   exact ⟨rfl,rfl⟩
  ·have h0:M≠0:=by
    intro h0;apply h;unfold toD nz;rw [if_pos h0]
   refine ⟨?_,by show _≤(nz s M e).e;omega,by show (nz s M e).e≤_;omega⟩
   unfold toD nz
   rw [if_neg h0]
   simp only
   obtain ⟨q,hq,_⟩:=DW h0
   generalize tz M=z at *
   rw [hq,Nat.mul_div_cancel_left _ (Nat.two_pow_pos z)];omega
 refine ⟨?_,hv⟩
 have hneg:(if (nz s M e).m.Neg=true then some (decide (0<(Sbn.sz (nz s M e).m.Abs:Int))) else some false)=some (nz s M e).m.Neg:=by
  simp only [Ko]
  by_cases h0:(nz s M e).m.Abs=0
  ·have:=(hv.z h0).1
   have h5:(nz s M e).m.Neg=false:=this
   rw [h5];rfl
  ·rw [decide_eq_true h0];cases (nz s M e).m.Neg<;>rfl
 unfold Cl Bw
 generalize nz s M e=r at *
 rw [if_pos (by omega),sB,decide_eq_true (show r.e≤1048576 by omega),if_pos rfl,sB,decide_eq_true (show -1048576≤r.e by omega),if_neg (by simp)]
 show (Cj r.m.Abs).bind _=_
 rw [wClone hS,sB]
 unfold FO
 simp only
 rw [hneg,sB,sB]
 rfl
def zD:Af:=⟨⟨false,0⟩,0⟩
def zS:Ao:=⟨zD,zD⟩
theorem sm0:Sm 0:=by unfold Sm;decide
theorem VT.sm {d:Af} (h:VT d):Sm d.Man.Abs:=by have:=JT h.s;unfold Sm;omega
end Go.Proofs.Pq
namespace Go.Proofs.Pq
set_option linter.unusedVariables false
set_option linter.unusedSimpArgs false
set_option maxRecDepth 4000
open Go.Proofs Go.Sb Go.Proofs.Sbn Go.Proofs.Lf
theorem fineP (b:Int):Ee b=if 1≤b∧b≤4096 then some (.ok ()) else some (.error 1):=by
 unfold Ee Bw
 by_cases h1:1≤b<;>by_cases h2:b≤4096<;>simp [h1,h2,sB,mb]
theorem LA (x y:Ao) (b:Int) (X Y:An) (hX:X=⟨toL x.Lo,toL x.Hi⟩) (hY:Y=⟨toL y.Lo,toL y.Hi⟩) (p0:AJ X=some true) (p1:AJ Y=some true) (h:1≤b∧b≤4096) :
  Dv X Y b=((mb (Ec ⟨ofD x.Lo,ofD x.Hi⟩ ⟨ofD y.Lo,ofD y.Hi⟩ b) fun r117=>(some (.ok (r117,0)):M (Ao × Int))).bind fun q=>match q with | .ok r=>some r | .error n=>some (zS,n)):=by
 unfold Dv CI DG Ba
 rw [p0,p1,fineP,if_pos h]
 subst hX hY
 unfold toL
 simp only [Gw]
 show ((mb (Ec ⟨ofD x.Lo,ofD x.Hi⟩ ⟨ofD y.Lo,ofD y.Hi⟩ b) _).bind _).bind _=_
 generalize Ec ⟨ofD x.Lo,ofD x.Hi⟩ ⟨ofD y.Lo,ofD y.Hi⟩ b=m
 match m with
 | none=>rfl
 | some (.error n)=>rfl
 | some (.ok r)=>rfl
theorem Lg (x:Ao) (b:Int) (X:An) (hX:X=⟨toL x.Lo,toL x.Hi⟩) (p0:AJ X=some true) (h:1≤b∧b≤4096) :
  DP X b=((mb (Ed ⟨ofD x.Lo,ofD x.Hi⟩ ⟨ofD x.Lo,ofD x.Hi⟩ b) fun r117=>(some (.ok (r117,0)):M (Ao × Int))).bind fun q=>match q with | .ok r=>some r | .error n=>some (zS,n)):=by
 unfold DP CK DF Ba
 rw [p0,fineP,if_pos h]
 subst hX
 unfold toL
 simp only [Gw]
 show ((mb (Ed ⟨ofD x.Lo,ofD x.Hi⟩ ⟨ofD x.Lo,ofD x.Hi⟩ b) _).bind _).bind _=_
 generalize Ed ⟨ofD x.Lo,ofD x.Hi⟩ ⟨ofD x.Lo,ofD x.Hi⟩ b=m
 match m with
 | none=>rfl
 | some (.error n)=>rfl
 | some (.ok r)=>rfl
theorem signs {lo hi:Af} (h:LeV (ofD lo) (ofD hi)):(0<sv lo.Man.Neg lo.Man.Abs→0<sv hi.Man.Neg hi.Man.Abs)∧(sv hi.Man.Neg hi.Man.Abs<0→sv lo.Man.Neg lo.Man.Abs<0):=by
 have h5:=h (lo.Exp - hi.Exp).toNat (-(lo.Exp - hi.Exp)).toNat (by show lo.Exp - hi.Exp=_;omega)
 have hp1:(0:Int)<(2^(lo.Exp - hi.Exp).toNat:Nat):=by have:=Nat.two_pow_pos (lo.Exp - hi.Exp).toNat;omega
 have hp2:(0:Int)<(2^(-(lo.Exp - hi.Exp)).toNat:Nat):=by have:=Nat.two_pow_pos (-(lo.Exp - hi.Exp)).toNat;omega
 have h5:Z lo.Man.Neg lo.Man.Abs*(2^(lo.Exp - hi.Exp).toNat:Nat)≤Z hi.Man.Neg hi.Man.Abs*(2^(-(lo.Exp - hi.Exp)).toNat:Nat):=h5
 generalize ((2^(lo.Exp - hi.Exp).toNat:Nat):Int)=P at *
 generalize ((2^(-(lo.Exp - hi.Exp)).toNat:Nat):Int)=Q at *
 rw [(MC _ _).2,(MC _ _).2,(MC _ _).1,(MC _ _).1]
 generalize Z lo.Man.Neg lo.Man.Abs=A at *
 generalize Z hi.Man.Neg hi.Man.Abs=C at *
 constructor
 ·intro hA
  have h6:=Int.mul_pos hA hp1
  exact Int.pos_of_mul_pos_left (show 0<C*Q by omega) hp2
 ·intro hC
  have h6:=Int.mul_neg_of_neg_of_pos hC hp2
  rcases Int.lt_trichotomy A 0 with h2 | h2 | h2
  ·exact h2
  ·rw [h2,Int.zero_mul] at h5;omega
  ·have:=Int.mul_pos h2 hp1;omega
end Go.Proofs.Pq
namespace Go.Proofs.Pq
set_option linter.unusedVariables false
set_option linter.unusedSimpArgs false
set_option maxRecDepth 4000
open Go.Proofs Go.Sb Go.Proofs.Sbn Go.Proofs.Lf
theorem sanity:CN=some true:=by kernel_rfl
theorem bb (o:Option Bool):((o.bind fun r=>some r).bind fun m=>some m)=o:=by cases o<;>rfl
end Go.Proofs.Pq
namespace Go.Proofs.Pq
set_option linter.unusedVariables false
set_option linter.unusedSimpArgs false
set_option maxRecDepth 4000
open Go.Proofs Go.Sb Go.Proofs.Sbn Go.Proofs.Lf
theorem Mj (s:Bool) (n b:Nat) (e dir:Int) (hn:bl n≤400000) (hb:1≤b) (h:b+1≤bl n) (he : -100000000≤e) (he':e≤100000000) :
  As ⟨⟨s,n⟩,e⟩ (b:Int) dir false=some (rn s n (2^(bl n - b)) (e+((bl n - b:Nat):Int)) dir):=by
 have hn0:n≠0:=by intro h0;subst h0;rw [Dg] at h;omega
 have key:∀(n:Nat) (e:Int),bl n≤400001→b+2≤bl n→-100000001≤e→e≤100000001→As ⟨⟨s,n⟩,e⟩ (b:Int) dir false=some (rn s n (2^(bl n - b)) (e+((bl n - b:Nat):Int)) dir):=by
  intro n e h1 h2 h3 h4
  have:=Ju s n e b dir n 1 (by unfold Sm;omega) (by decide) (Nat.div_one n).symm hb h2 (by omega) (by omega)
  rw [show (decide (n%1≠0))=false by simp [Nat.mod_one],Nat.one_mul] at this
  exact this
 by_cases h2:b+2≤bl n
 ·exact key n e (by omega) h2 (by omega) (by omega)
 ·have hbl:=Jl (k:=1) hn0
  have hk:=key (n*2^1) (e - 1) (by omega) (by omega) (by omega) (by omega)
  have e1:As ⟨⟨s,n⟩,e⟩ (b:Int) dir false=As ⟨⟨s,n*2^1⟩,e - 1⟩ (b:Int) dir false:=by
   unfold As
   simp only
   rw [wBits (by unfold Sm;omega),wBits (by unfold Sm;omega),sB,sB,w64 (x:=(bl n:Int) - (b:Int)) (by omega) (by omega),w64 (x:=(bl (n*2^1):Int) - (b:Int)) (by omega) (by omega)]
   rw [show (bl n:Int) - (b:Int)=1 by omega,show (bl (n*2^1):Int) - (b:Int)=2 by omega]
   unfold CP
   simp only
   rw [show wi64 (2 - (1:Int))=((1:Nat):Int) from by decide,wShl (by unfold Sm;omega) (by decide),w64 (x:=e - 2) (by omega) (by omega),w64 (x:=e - 2+1) (by omega) (by omega),show e - 2+1=e - 1 by omega]
   rfl
  rw [e1,hk]
  congr 1
  rw [hbl,show bl n+1 - b=(bl n - b)+1 by omega]
  rw [Ka (N:=n*2^1) (D:=2^(bl n - b+1)) (N':=n) (D':=2^(bl n - b)) _ dir (Nat.two_pow_pos _) (Nat.two_pow_pos _) (by rw [Nat.pow_succ 2 (bl n - b),Nat.pow_one];simp only [Nat.mul_assoc,Nat.mul_comm,Nat.mul_left_comm])]
  congr 1
  omega
theorem KK {s:Bool} {q:Nat} {e:Int} (h:q%2=1):nz s q e=⟨⟨s,q⟩,e⟩:=by
 have h0:q≠0:=by omega
 have hz:tz q=0:=JQ (m:=q/2) (by rw [Nat.pow_zero,Nat.one_mul];omega)
 unfold nz
 rw [if_neg h0,hz,Nat.pow_zero,Nat.div_one]
 congr 1
 simp
theorem canonV {d:Af} (h:VT d):ofD d=nz d.Man.Neg d.Man.Abs d.Exp:=by
 obtain ⟨⟨s,n⟩,e⟩:=d
 by_cases h0:n=0
 ·obtain ⟨h1,h2⟩:=h.z h0
  simp only at h1 h2
  subst h0 h1 h2;rfl
 ·exact (KK (h.o h0).1).symm
theorem plusP (s t:Bool) (n m:Nat) (e f:Int) (hn:n≠0) (hm:m≠0) (hns:bl n≤40000) (hms:bl m≤40000) (hd:e - f≤300000) (hd':f - e≤300000)
  (he : -1000000≤e) (he':e≤1000000) (hf : -1000000≤f) (hf':f≤1000000) (A C:Nat) (hA:A=n*2^(e - min e f).toNat) (hC:C=m*2^(f - min e f).toNat) :
  Be ⟨⟨s,n⟩,e⟩ ⟨⟨t,m⟩,f⟩=some (nz (addZ s A t C).1 (addZ s A t C).2 (min e f)):=by
 obtain ⟨a,ha⟩:∃a:Nat,e - min e f=(a:Int):=⟨(e - min e f).toNat,by omega⟩
 obtain ⟨c,hc⟩:∃c:Nat,f - min e f=(c:Int):=⟨(f - min e f).toNat,by omega⟩
 rw [ha] at hA;rw [hc] at hC
 rw [Int.toNat_natCast] at hA hC
 have hbA:bl A≤400000:=by rw [hA];have:=GB n a;omega
 have hbC:bl C≤400000:=by rw [hC];have:=GB m c;omega
 have hsA:Sm A:=by unfold Sm;omega
 have hsC:Sm C:=by unfold Sm;omega
 have hcp:=@FF A C
 unfold Be AU
 simp only [sz0,Ko]
 rw [if_neg hn,sB,if_neg hm,sB,if_pos hn,if_pos hm]
 rw [w64 (x:=e - min e f) (by omega) (by omega),w64 (x:=f - min e f) (by omega) (by omega),ha,hc]
 unfold CP
 simp only
 rw [wShl (by unfold Sm;omega) (by omega),sB,sB,sB,wShl (by unfold Sm;omega) (by omega),sB,sB,sB,←hA,←hC]
 unfold CM DO addZ
 simp only
 by_cases hst:s=t
 ·rw [if_pos hst,if_pos hst,wAdd hsA hsC,sB,sB,normal _ _ _ (sm_add hbA hbC) (by omega) (by omega)];rfl
 ·rw [if_neg hst,if_neg hst,wCmp hsA hsC,sB]
  by_cases h:C≤A
  ·have:¬cmpw A C<0:=fun h2=>by have:=hcp.1 h2;omega
   rw [if_pos (by omega),wSub hsA h,sB,sB,normal _ _ _ (GC (Nat.sub_le _ _) hsA) (by omega) (by omega),if_pos h];rfl
  ·have:cmpw A C<0:=hcp.2 (by omega)
   rw [if_neg (by omega),wSub hsC (by omega),sB,sB,normal _ _ _ (GC (Nat.sub_le _ _) hsC) (by omega) (by omega),if_neg h];rfl
theorem plus0l (s t:Bool) (m:Nat) (e f:Int) (hms:bl m≤40000) (hf : -1000000≤f) (hf':f≤1000000) (he : -1000000≤e) (he':e≤1000000):Be ⟨⟨s,0⟩,e⟩ ⟨⟨t,m⟩,f⟩=some (nz t m f):=by
 have hmS:Sm m:=by unfold Sm;omega
 have hc:=@FF 0 m
 unfold Be AU
 simp only [sz0,Ko]
 rw [if_pos trivial,sB]
 by_cases hm:m=0
 ·subst hm
  rw [if_pos rfl,sB]
  unfold CM DO Dj
  simp only [ne_eq,not_true_eq_false,if_false,sB,sz0]
  cases s<;>cases t<;>rfl
 ·rw [if_neg hm,sB,if_pos hm,w64 (x:=f - f) (by omega) (by omega),show f - f=((0:Nat):Int) by omega]
  unfold CP
  simp only [ne_eq,not_true_eq_false,if_false,sB]
  rw [wShl hmS (by decide),Nat.pow_zero,Nat.mul_one,sB]
  unfold CM DO
  simp only [sB]
  by_cases hst:s=t
  ·rw [if_pos hst,wAdd sm0 hmS,sB,sB,Nat.zero_add,normal _ _ _ hmS (by omega) (by omega),hst];rfl
  ·have:cmpw 0 m<0:=hc.2 (by omega)
   rw [if_neg hst,wCmp sm0 hmS,sB,if_neg (by omega),wSub hmS (by omega),sB,sB,Nat.sub_zero,normal _ _ _ hmS (by omega) (by omega)];rfl
theorem plus0r (s t:Bool) (n:Nat) (e f:Int) (hn:n≠0) (hns:bl n≤40000) (he : -1000000≤e) (he':e≤1000000):Be ⟨⟨s,n⟩,e⟩ ⟨⟨t,0⟩,f⟩=some (nz s n e):=by
 have hnS:Sm n:=by unfold Sm;omega
 have hc:=@FF n 0
 unfold Be AU
 simp only [sz0,Ko]
 rw [if_neg hn,sB,if_pos trivial,sB,if_pos hn,w64 (x:=e - e) (by omega) (by omega),show e - e=((0:Nat):Int) by omega]
 unfold CP
 simp only [ne_eq,not_true_eq_false,if_false,sB]
 rw [wShl hnS (by decide),Nat.pow_zero,Nat.mul_one,sB]
 unfold CM DO
 simp only [sB]
 by_cases hst:s=t
 ·rw [if_pos hst,wAdd hnS sm0,sB,sB,Nat.add_zero,normal _ _ _ hnS (by omega) (by omega)];rfl
 ·have:¬cmpw n 0<0:=fun h2=>by have:=hc.1 h2;omega
  rw [if_neg hst,wCmp hnS sm0,sB,if_pos (by omega),wSub hnS (by omega),sB,sB,Nat.sub_zero,normal _ _ _ hnS (by omega) (by omega)];rfl
end Go.Proofs.Pq
namespace Go.Proofs.Pq
set_option linter.unusedVariables false
set_option linter.unusedSimpArgs false
set_option maxRecDepth 4000
open Go.Proofs Go.Sb Go.Proofs.Sbn Go.Proofs.Lf
structure Same (y:Ah) (z:Af):Prop where
 a:y.m.Abs=z.Man.Abs
 e:y.e=z.Exp
 s:z.Man.Abs≠0→y.m.Neg=z.Man.Neg
 c:toD (nz y.m.Neg y.m.Abs y.e)=z
theorem Same.of {d:Af} (h:VT d):Same (ofD d) d:=⟨rfl,rfl,fun _=>rfl,by
 have h2:nz d.Man.Neg d.Man.Abs d.Exp=ofD d:=(canonV h).symm
 show toD (nz d.Man.Neg d.Man.Abs d.Exp)=d
 rw [h2];rfl⟩
theorem nearT (x y:Ah) (hxs:bl x.m.Abs≤9000) (hys:bl y.m.Abs≤9000) (h1 : -5000≤x.e) (h2:x.e≤5000) (h3 : -5000≤y.e) (h4:y.e≤5000):EJ x y=some true:=by
 obtain ⟨⟨s,n⟩,e⟩:=x
 obtain ⟨⟨t,m⟩,f⟩:=y
 simp only at hxs hys h1 h2 h3 h4
 unfold EJ
 rw [sign,sB]
 by_cases hn:n=0
 ·rw [if_pos (by rw [if_pos hn])];rfl
 ·rw [if_neg (by rw [if_neg hn];split<;>decide),sign,sB,sB]
  by_cases hm:m=0
  ·rw [if_pos hm];rfl
  ·rw [decide_eq_false (by rw [if_neg hm];split<;>decide),if_neg (by decide)]
   unfold BU
   simp only
   rw [wBits (show Sm n by unfold Sm;omega),sB,sB,wBits (show Sm m by unfold Sm;omega),sB,sB]
   rw [w64 (x:=(bl n:Int) - 1) (by omega) (by omega),w64 (x:=(bl n:Int) - 1+e) (by omega) (by omega),w64 (x:=(bl m:Int) - 1) (by omega) (by omega),w64 (x:=(bl m:Int) - 1+f) (by omega) (by omega)]
   rw [w64 (x:=max ((bl n:Int) - 1+e) ((bl m:Int) - 1+f) - min e f) (by omega) (by omega),decide_eq_true (by omega)]
theorem Gx {lo hi:Ah} (h:Cb lo) (h':Cb hi):Cu ⟨lo,hi⟩=some (.ok ⟨toD lo,toD hi⟩):=by
 unfold Cu
 rw [(outOK h).1]
 show mb (Cl hi) _=_
 rw [(outOK h').1]
 rfl
def Pb (r:Ah):Prop:=∃s M e,r=nz s M e∧bl M≤18000∧-10000≤e∧e≤10000
theorem Pb.bd {r:Ah} (h:Pb r):bl r.m.Abs≤18000∧-10000≤r.e∧r.e≤30000:=by
 obtain ⟨s,M,e,rfl,h1,h2,h3⟩:=h
 unfold nz
 by_cases h0:M=0
 ·rw [if_pos h0];simp only;rw [Dg];omega
 ·rw [if_neg h0];simp only
  have:=Ik M (2^tz M)
  obtain ⟨_,_,hq⟩:=DW h0
  omega
end Go.Proofs.Pq
namespace Go.Proofs.Pq
set_option linter.unusedVariables false
set_option linter.unusedSimpArgs false
set_option maxRecDepth 4000
open Go.Proofs Go.Sb Go.Proofs.Sbn Go.Proofs.Lf
def Lt (d:Af):Prop:=Ok d∧bl d.Man.Abs≤9000
def MY (G:Aq→Aq→Int→M Ao) (F:An→An→Int→Option (Ao × Int)):Prop:=
 (∀x y b v0 v1,AJ x=some v0→AJ y=some v1→¬(v0=true∧v1=true∧1≤b∧b≤4096)→F x y b=some (zS,1))∧
 (∀(x y:Ao) (b:Int) (X Y:An),X=⟨toL x.Lo,toL x.Hi⟩→Y=⟨toL y.Lo,toL y.Hi⟩→AJ X=some true→AJ Y=some true→1≤b∧b≤4096→
  ∀lo hi,G ⟨ofD x.Lo,ofD x.Hi⟩ ⟨ofD y.Lo,ofD y.Hi⟩ b=some (.ok ⟨lo,hi⟩)→F X Y b=some (⟨lo,hi⟩,0))
theorem Ks:MY DI Fb:=by
 refine ⟨fun x y b v0 v1 p0 p1 h=>?_,fun x y b X Y hX hY p0 p1 h lo hi hG=>?_⟩
 ·unfold Fb BL Cz Ba
  rw [p0,p1,fineP]
  cases v0
  ·rfl
  ·cases v1
   ·rfl
   ·rw [if_neg (fun h2=>h ⟨rfl,rfl,h2⟩)];rfl
 ·unfold Fb BL Cz Ba
  rw [p0,p1,fineP,if_pos h]
  subst hX hY
  unfold toL
  simp only [Gw]
  show ((mb (DI ⟨ofD x.Lo,ofD x.Hi⟩ ⟨ofD y.Lo,ofD y.Hi⟩ b) _).bind _).bind _=_
  rw [hG];rfl
theorem JL:MY Dl Ex:=by
 refine ⟨fun x y b v0 v1 p0 p1 h=>?_,fun x y b X Y hX hY p0 p1 h lo hi hG=>?_⟩
 ·unfold Ex BG Ck Ba
  rw [p0,p1,fineP]
  cases v0
  ·rfl
  ·cases v1
   ·rfl
   ·rw [if_neg (fun h2=>h ⟨rfl,rfl,h2⟩)];rfl
 ·unfold Ex BG Ck Ba
  rw [p0,p1,fineP,if_pos h]
  subst hX hY
  unfold toL
  simp only [Gw]
  show ((mb (Dl ⟨ofD x.Lo,ofD x.Hi⟩ ⟨ofD y.Lo,ofD y.Hi⟩ b) _).bind _).bind _=_
  rw [hG];rfl
end Go.Proofs.Pq
namespace Go.Proofs.Pq
set_option linter.unusedVariables false
set_option linter.unusedSimpArgs false
set_option maxRecDepth 4000
open Go.Proofs Go.Sb Go.Proofs.Sbn Go.Proofs.Lf
theorem Cb.of {σ:Bool} {M:Nat} {E:Int} (h1:bl M≤20000) (h2 : -100000≤E) (h3:E≤100000):Cb (nz σ M E):=by
 refine ⟨?_,?_,?_,σ,M,E,rfl⟩
 all_goals
  unfold nz
  by_cases h0:M=0
  ·rw [if_pos h0];simp only;first | (rw [Dg];omega) | omega
  ·rw [if_neg h0];simp only
   have:=Ik M (2^tz M)
   obtain ⟨_,_,hq⟩:=DW h0
   omega
theorem mbo {α β:Type} (a:α) (f:α→M β):mb (some (.ok a)) f=f a:=rfl
theorem Jy {x y:Af} (hx:VT x) (hy:VT y):DX (toL x) (toL y)=some (.ok ()):=by
 unfold DX
 rw [(validT hx).2,(validT hy).2];rfl
theorem Ml {x:Af} (hx:VT x):EQ (toL x)=some (.ok ()):=by
 unfold EQ
 rw [(validT hx).2];rfl
theorem inT (x:Af):DU ⟨⟨(toL x).Man.Neg,x.Man.Abs⟩,(toL x).Exp⟩=some (ofD x):=rfl
theorem toNT (x:Af):toN (toL x).Man.Abs=some x.Man.Abs:=Gw _
theorem wantT (e:Int):Bw true e=some (.ok ()):=rfl
end Go.Proofs.Pq
