import Derived.Test.YtabiobmfelafoaaGreatDoorPB
import Derived.KernelRfl
namespace Go.Proofs.Pq
set_option linter.unusedVariables false
set_option linter.unusedSimpArgs false
set_option maxRecDepth 4000
open Go.Proofs Go.Sb Go.Proofs.Sbn Go.Proofs.Lf
theorem nValid {a:List Int} (ha:Dig a):Gt a=some (decide (a.length≤1024∧limbs (val a)=a)):=by
 rw [←Mb ha];rfl
def toL (d:Ag):AD:=⟨⟨d.Man.Neg,limbs d.Man.Abs⟩,d.Exp⟩
def ofD (d:Ag):Ao:=⟨d.Man,d.Exp⟩
structure VT (d:Ag):Prop where
 s:Sbn.sz d.Man.Abs≤1024
 z:d.Man.Abs=0→d.Man.Neg=false∧d.Exp=0
 o:d.Man.Abs≠0→d.Man.Abs%2=1∧-1048576≤d.Exp∧d.Exp≤1048576
theorem validT {d:Ag} (h:VT d):Bg (toL d)=some true∧EU (toL d)=some true:=by
 obtain ⟨⟨s,n⟩,e⟩:=d
 obtain ⟨h1,h2,h3⟩:=h
 simp only at h1 h2 h3
 unfold Bg EU DO FZ toL
 simp only
 rw [show BG (limbs n)=_ from Mb (Ay n),nValid (Ay n),sB,AB,decide_eq_true ⟨h1,rfl⟩]
 by_cases h0:n=0
 ·obtain ⟨rfl,rfl⟩:=h2 h0
  subst h0
  exact ⟨rfl,rfl⟩
 ·obtain ⟨a1,a2,a3⟩:=h3 h0
  have hb:=rBit (Ay n) 0 (by decide)
  have hl:((limbs n).length:Int)≠0:=by
   intro h;exact h0 (Ig (by have:Sbn.sz n=(limbs n).length:=rfl;omega))
  have hl2:(0:Int)<((limbs n).length:Int):=by omega
  rw [AB,Nat.pow_zero,Nat.div_one,a1] at hb
  have hnt:nth (limbs n) 0=some ((n%4294967296:Nat):Int):=by
   rw [Ft h0];unfold nth;rw [if_pos ⟨by omega,by simp only [List.length_cons];omega⟩];rfl
  have hb2:BP (limbs n) 0=some 1:=hb
  have e1:(((n%4294967296:Nat):Int)%2)=1:=by omega
  rw [hb2,hnt]
  simp only [decide_eq_true hl2,sB,if_true,e1,decide_eq_true a2,decide_eq_true a3,if_neg hl]
  cases s<;>exact ⟨rfl,rfl⟩
theorem LR (x:AD) (hx:Dig x.Man.Abs):∃v,Bg x=some v∧EU x=some v∧(v=true→∃d,x=toL d∧VT d):=by
 obtain ⟨⟨s,l⟩,e⟩:=x
 simp only at hx
 unfold Bg EU DO FZ
 simp only
 rw [show BG l=_ from Mb hx,nValid hx,sB]
 by_cases hP:l.length≤1024∧limbs (val l)=l
 ·rw [decide_eq_true hP]
  obtain ⟨hl,hc⟩:=hP
  generalize val l=n at hc
  subst hc
  by_cases h0:n=0
  ·subst h0
   cases s
   ·exact ⟨decide (e=0),rfl,rfl,fun h=>⟨⟨⟨false,0⟩,e⟩,rfl,hl,fun _=>⟨rfl,of_decide_eq_true h⟩,fun h=>absurd rfl h⟩⟩
   ·exact ⟨false,rfl,rfl,fun h=>by cases h⟩
  ·have hb:=rBit (Ay n) 0 (by decide)
   have hz:Sbn.sz n=(limbs n).length:=rfl
   have hln:((limbs n).length:Int)≠0:=by
    intro h;exact h0 (Ig (by omega))
   have hl2:(0:Int)<((limbs n).length:Int):=by omega
   rw [AB,Nat.pow_zero,Nat.div_one] at hb
   have hnt:nth (limbs n) 0=some ((n%4294967296:Nat):Int):=by
    rw [Ft h0];unfold nth;rw [if_pos ⟨by omega,by simp only [List.length_cons];omega⟩];rfl
   have hb2:BP (limbs n) 0=some ((n%2:Nat):Int):=hb
   rw [hb2,hnt]
   have c1:(((n%2:Nat):Int)=1)=(n%2=1):=by apply propext;omega
   refine ⟨decide (n%2=1∧-1048576≤e∧e≤1048576),?_,?_,fun h=>?_⟩
   ·simp only [decide_eq_true hl2,sB,if_true,if_neg hln,c1]
    by_cases a1:n%2=1<;>by_cases a2 : -1048576≤e<;>by_cases a3:e≤1048576<;>cases s<;>simp [a1,a2,a3,sB]
   ·simp only [decide_eq_true hl2,sB,if_true,if_neg hln]
    have e1:(((n%4294967296:Nat):Int)%2)=((n%2:Nat):Int):=by omega
    simp only [e1,c1]
    by_cases a1:n%2=1<;>by_cases a2 : -1048576≤e<;>by_cases a3:e≤1048576<;>cases s<;>simp [a1,a2,a3,sB]
   ·have h:=of_decide_eq_true h
    exact ⟨⟨⟨s,n⟩,e⟩,rfl,hl,fun h=>absurd h h0,fun _=>h⟩
 ·rw [decide_eq_false hP]
  exact ⟨false,rfl,rfl,fun h=>by cases h⟩
end Go.Proofs.Pq
namespace Go.Proofs.Pq
set_option linter.unusedVariables false
set_option linter.unusedSimpArgs false
set_option maxRecDepth 4000
open Go.Proofs Go.Sb Go.Proofs.Sbn Go.Proofs.Lf
theorem Le (s:Bool) (M:Nat) (e:Int):nz (s && decide (M≠0)) M e=nz s M e:=by
 unfold nz
 by_cases h:M=0
 ·rw [if_pos h,if_pos h]
 ·rw [if_neg h,if_neg h,decide_eq_true h,Bool.and_true]
def addZ (s:Bool) (A:Nat) (t:Bool) (C:Nat):Bool × Nat:=if s=t then (s,A+C) else if C≤A then (s,A - C) else (t,C - A)
theorem addZ_Z (s:Bool) (A:Nat) (t:Bool) (C:Nat):Z (addZ s A t C).1 (addZ s A t C).2=Z s A+Z t C:=by
 unfold addZ Z
 by_cases h:C≤A<;>cases s<;>cases t<;>simp [h]<;>omega
theorem NF {a b:Nat} (ha:bl a≤400000) (hb:bl b≤400000):Sm (a+b):=by
 have:=Ms ha hb
 unfold Sm;omega
theorem refSum (s t:Bool) (n m:Nat) (e f:Int) (hn:n≠0) (hm:m≠0) (hns:bl n≤40000) (hms:bl m≤40000) (hd:e - f≤300000) (hd':f - e≤300000)
  (he : -1000000≤e) (he':e≤1000000) (hf : -1000000≤f) (hf':f≤1000000) (A C:Nat) (hA:A=n*2^(e - min e f).toNat) (hC:C=m*2^(f - min e f).toNat) :
  Bs ⟨⟨s,n⟩,e⟩ ⟨⟨t,m⟩,f⟩=some (toD (nz (addZ s A t C).1 (addZ s A t C).2 (min e f))):=by
 obtain ⟨a,ha⟩:∃a:Nat,e - min e f=(a:Int):=⟨(e - min e f).toNat,by omega⟩
 obtain ⟨c,hc⟩:∃c:Nat,f - min e f=(c:Int):=⟨(f - min e f).toNat,by omega⟩
 rw [ha] at hA;rw [hc] at hC
 rw [Int.toNat_natCast] at hA hC
 have hbA:bl A≤400000:=by rw [hA];have:=IQ n a;omega
 have hbC:bl C≤400000:=by rw [hC];have:=IQ m c;omega
 have hsA:Sm A:=by unfold Sm;omega
 have hsC:Sm C:=by unfold Sm;omega
 have hsg:∀a b:Nat,(0≤sgnc a b↔b≤a):=by intro a b;unfold sgnc;split<;>(try split)<;>omega
 unfold Bs
 simp only [sz0]
 rw [if_neg hn,if_neg hm,w64 (x:=e - min e f) (by omega) (by omega),w64 (x:=f - min e f) (by omega) (by omega),ha,hc]
 unfold Ef
 simp only
 rw [rShl (by unfold Sm;omega) (by omega),sB,sB,rShl (by unfold Sm;omega) (by omega),sB,sB,←hA,←hC]
 unfold Fj addZ
 simp only
 by_cases hst:s=t
 ·have hs:=NF hbA hbC
  rw [if_pos hst,if_pos hst,rAdd hsA hsC,sB,signed,sB,sB,refOf _ _ _ hs (by omega) (by omega),sB,Le]
 ·rw [if_neg hst,if_neg hst,rCmp hsA hsC,sB]
  by_cases h:C≤A
  ·rw [if_pos ((hsg _ _).2 h),if_pos h,rSub hsA h,sB,signed,sB,sB,refOf _ _ _ (HZ (Nat.sub_le _ _) hsA) (by omega) (by omega),sB,Le]
  ·rw [if_neg (fun h2=>h ((hsg _ _).1 h2)),if_neg h,rSub hsC (by omega),sB,signed,sB,sB,refOf _ _ _ (HZ (Nat.sub_le _ _) hsC) (by omega) (by omega),sB,Le]
theorem refMinus (s:Bool) (n:Nat) (e:Int):CC ⟨⟨s,n⟩,e⟩=some ⟨⟨!s && decide (n≠0),n⟩,e⟩:=by
 unfold CC Fk
 simp only [signed,sB]
 cases s<;>rfl
theorem refSign (s:Bool) (n:Nat) (e:Int):Eg ⟨⟨s,n⟩,e⟩=some (sv s n):=by
 unfold Eg sv
 simp only [sz0]
 split
 ·rfl
 ·split<;>rfl
theorem refSign_nz (s:Bool) (n:Nat) (e:Int):Eg (toD (nz s n e))=some (sv s n):=by
 rw [←MA s n e,sign]
 exact refSign _ _ _
theorem MC (s:Bool) (n:Nat):(sv s n<0↔Z s n<0)∧(0<sv s n↔0<Z s n):=by
 unfold sv Z
 by_cases h:n=0
 ·subst h;cases s<;>simp
 ·rw [if_neg h];cases s<;>simp<;>omega
theorem Kr (s t:Bool) (n m:Nat) (e f:Int) (hns:bl n≤40000) (hms:bl m≤40000) (hd:e - f≤300000) (hd':f - e≤300000)
  (he : -1000000≤e) (he':e≤1000000) (hf : -1000000≤f) (hf':f≤1000000) :
  ∃k,Bc ⟨⟨s,n⟩,e⟩ ⟨⟨t,m⟩,f⟩=some k∧(k = -1∨k=0∨k=1)∧∀i j:Nat,e - f=(i:Int) - j→
   (k<0↔Z s n*(2^i:Nat)<Z t m*(2^j:Nat))∧(0<k↔Z t m*(2^j:Nat)<Z s n*(2^i:Nat)):=by
 have h01:∀s n,sv s n = -1∨sv s n=0∨sv s n=1:=by intro s n;unfold sv;split<;>(try split)<;>simp
 have hpos:∀i:Nat,(0:Int)<(2^i:Nat):=fun i=>by have:=Nat.two_pow_pos i;omega
 unfold Bc
 rw [refMinus,sB]
 by_cases hn:n=0
 ·unfold Bs
  simp only [sz0]
  rw [if_pos hn,sB,refSign,sB]
  refine ⟨_,rfl,h01 _ _,fun i j hij=>?_⟩
  rw [(MC _ _).1,(MC _ _).2,hn]
  have h0:Z s 0=0:=by cases s<;>rfl
  rw [h0,Int.zero_mul]
  have hq:=hpos j
  have h1:Z (!t && decide (m≠0)) m = - Z t m:=by
   unfold Z;by_cases h:m=0
   ·subst h;cases t<;>rfl
   ·cases t<;>simp [h]
  rw [h1]
  constructor
  ·constructor
   ·intro h;exact Int.mul_pos (by omega) hq
   ·intro h;have:=Int.pos_of_mul_pos_left h hq;omega
  ·constructor
   ·intro h;exact Int.mul_neg_of_neg_of_pos (by omega) hq
   ·intro h
    rcases Int.lt_trichotomy (Z t m) 0 with h2 | h2 | h2
    ·omega
    ·rw [h2,Int.zero_mul] at h;omega
    ·have:=Int.mul_pos h2 hq;omega
 ·by_cases hm:m=0
  ·unfold Bs
   simp only [sz0]
   rw [if_neg hn,if_pos hm,sB,refSign,sB]
   refine ⟨_,rfl,h01 _ _,fun i j hij=>?_⟩
   rw [(MC _ _).1,(MC _ _).2,hm]
   have h0:Z t 0=0:=by cases t<;>rfl
   rw [h0,Int.zero_mul]
   have hq:=hpos i
   constructor
   ·constructor
    ·intro h;exact Int.mul_neg_of_neg_of_pos h hq
    ·intro h
     rcases Int.lt_trichotomy (Z s n) 0 with h2 | h2 | h2
     ·exact h2
     ·rw [h2,Int.zero_mul] at h;omega
     ·have:=Int.mul_pos h2 hq;omega
   ·constructor
    ·intro h;exact Int.mul_pos h hq
    ·intro h
     rcases Int.lt_trichotomy (Z s n) 0 with h2 | h2 | h2
     ·have:=Int.mul_neg_of_neg_of_pos h2 hq;omega
     ·rw [h2,Int.zero_mul] at h;omega
     ·exact h2
  ·have hbm:(!t && decide (m≠0)) = !t:=by rw [decide_eq_true hm,Bool.and_true]
   rw [hbm,refSum s (!t) n m e f hn hm hns hms hd hd' he he' hf hf' _ _ rfl rfl,sB,refSign_nz,sB]
   refine ⟨_,rfl,h01 _ _,fun i j hij=>?_⟩
   rw [(MC _ _).1,(MC _ _).2,addZ_Z,NX,NX]
   have h1:Z (!t) m = - Z t m:=by unfold Z;cases t<;>simp
   rw [h1,Int.neg_mul]
   obtain ⟨a,ha⟩:∃a:Nat,(e - min e f).toNat=a:=⟨_,rfl⟩
   obtain ⟨c,hc⟩:∃c:Nat,(f - min e f).toNat=c:=⟨_,rfl⟩
   rw [ha,hc]
   have k1:=Kz (X:=Z s n) (Y:=Z t m) (a:=a) (c:=c) (i:=i) (j:=j) (by omega)
   have k2:=Kz (X:=Z t m) (Y:=Z s n) (a:=c) (c:=a) (i:=j) (j:=i) (by omega)
   generalize Z s n*(2^a:Nat)=X at *
   generalize Z t m*(2^c:Nat)=Y at *
   generalize Z s n*(2^i:Nat)=X' at *
   generalize Z t m*(2^j:Nat)=Y' at *
   omega
theorem VT.ok {d:Ag} (h:VT d) (hl : -5000≤d.Exp) (hu:d.Exp≤5000) (hs:Sbn.sz d.Man.Abs≤600):Ok d:=
 ⟨fun h0=>(h.z h0).1,by have:=Kl hs;omega,hl,hu⟩
theorem outOK {r:Ao} (h:Cb r):Ec r=some (.ok (toD r))∧VT (toD r):=by
 obtain ⟨h1,h2,h3,s,M,e,rfl⟩:=h
 have hS:Sm (nz s M e).m.Abs:=by unfold Sm;omega
 have hz:Sbn.sz (nz s M e).m.Abs≤1000:=IP (by omega)
 have hv:VT (toD (nz s M e)):=by
  refine ⟨Nat.le_trans hz (by decide),fun h=>?_,fun h=>?_⟩
  ·have h0:M=0:=by
    by_cases h0:M=0
    ·exact h0
    ·exfalso
     unfold toD nz at h
     rw [if_neg h0] at h
     simp only at h
     obtain ⟨q,hq⟩:=Na M
     generalize tz M=z at *
     rw [hq,Nat.mul_div_cancel _ (Nat.two_pow_pos z)] at h
     rw [h,Nat.zero_mul] at hq;exact h0 hq
   unfold toD nz
   rw [if_pos h0]
   exact ⟨rfl,rfl⟩
  ·have h0:M≠0:=by
    intro h0;apply h;unfold toD nz;rw [if_pos h0]
   refine ⟨?_,by show _≤(nz s M e).e;omega,by show (nz s M e).e≤_;omega⟩
   unfold toD nz
   rw [if_neg h0]
   simp only
   obtain ⟨q,hq,_⟩:=Ho h0
   generalize tz M=z at *
   rw [hq,Nat.mul_div_cancel_left _ (Nat.two_pow_pos z)];omega
 refine ⟨?_,hv⟩
 have hneg:(if (nz s M e).m.Neg=true then some (decide (0<(Sbn.sz (nz s M e).m.Abs:Int))) else some false)=some (nz s M e).m.Neg:=by
  simp only [Lq]
  by_cases h0:(nz s M e).m.Abs=0
  ·have:=(hv.z h0).1
   have h5:(nz s M e).m.Neg=false:=this
   rw [h5];rfl
  ·rw [decide_eq_true h0];cases (nz s M e).m.Neg<;>rfl
 unfold Ec DQ
 generalize nz s M e=r at *
 rw [if_pos (by omega),sB,decide_eq_true (show r.e≤1048576 by omega),if_pos rfl,sB,decide_eq_true (show -1048576≤r.e by omega),if_neg (by simp)]
 show (CV r.m.Abs).bind _=_
 rw [wClone hS,sB]
 unfold GS
 simp only
 rw [hneg,sB,sB]
 rfl
theorem sameInt (a:Ah) (h:Sm a.Abs):DZ a a=some true:=by
 unfold DZ
 rw [if_pos rfl,same _ _ h,decide_eq_true rfl];rfl
theorem sameD (a:Ag) (h:Sm a.Man.Abs):Cr a a=some true:=by
 unfold Cr
 rw [sameInt _ h,sB,if_pos rfl,decide_eq_true rfl];rfl
def zD:Ag:=⟨⟨false,0⟩,0⟩
def zS:Ak:=⟨zD,zD⟩
theorem sm0:Sm 0:=by unfold Sm;decide
theorem VT.sm {d:Ag} (h:VT d):Sm d.Man.Abs:=by have:=Kl h.s;unfold Sm;omega
theorem NN (a:Ak) (h:Sm a.Lo.Man.Abs) (h':Sm a.Hi.Man.Abs):Bn a a=some true:=by
 unfold Bn
 rw [sameD _ h,sB,if_pos rfl,sameD _ h'];rfl
theorem agS_err (e:Int) (x:Ak) (he:e≠0):Bo zS e e x=some true:=by
 unfold Bo
 rw [if_pos he,if_pos rfl]
 show ((Bn zS zS).bind fun r=>some r).bind _=_
 rw [NN zS sm0 sm0];rfl
theorem LM (lo hi:Ag) (h:VT lo) (h':VT hi):Bo ⟨lo,hi⟩ 0 0 ⟨lo,hi⟩=some true:=by
 unfold Bo EN
 rw [if_neg (by decide)]
 simp only
 rw [show Bg ⟨⟨lo.Man.Neg,limbs lo.Man.Abs⟩,lo.Exp⟩=some true from (validT h).1,sB,if_neg (by simp),show Bg ⟨⟨hi.Man.Neg,limbs hi.Man.Abs⟩,hi.Exp⟩=some true from (validT h').1,sB,sB,if_neg (by simp),sB,if_pos rfl]
 rw [NN ⟨lo,hi⟩ h.sm h'.sm];rfl
end Go.Proofs.Pq
namespace Go.Proofs.Pq
set_option linter.unusedVariables false
set_option linter.unusedSimpArgs false
set_option maxRecDepth 4000
open Go.Proofs Go.Sb Go.Proofs.Sbn Go.Proofs.Lf
theorem Mj (x:Ap) (h0:Dig x.Lo.Man.Abs) (h1:Dig x.Hi.Man.Abs) (k0:∀d,x.Lo=toL d→VT d→Ok d) (k1:∀d,x.Hi=toL d→VT d→Ok d) :
  ∃v,Dx x=some v∧DX x=some v∧(v=true→∃lo hi,x=⟨toL lo,toL hi⟩∧VT lo∧VT hi∧Ok lo∧Ok hi∧LeV (ofD lo) (ofD hi)):=by
 obtain ⟨a,b⟩:=x
 obtain ⟨v0,e0,f0,g0⟩:=LR a h0
 obtain ⟨v1,e1,f1,g1⟩:=LR b h1
 unfold Dx DX
 simp only
 rw [e0,f0,sB,sB]
 cases v0
 ·exact ⟨false,rfl,rfl,fun h=>by cases h⟩
 ·rw [e1,f1]
  cases v1
  ·exact ⟨false,rfl,rfl,fun h=>by cases h⟩
  ·obtain ⟨lo,rfl,hlo⟩:=g0 rfl
   obtain ⟨hi,rfl,hhi⟩:=g1 rfl
   have o0:=k0 lo rfl hlo
   have o1:=k1 hi rfl hhi
   obtain ⟨⟨s,n⟩,e⟩:=lo
   obtain ⟨⟨t,m⟩,f⟩:=hi
   obtain ⟨k,hk,_,hk2⟩:=Kr s t n m e f (Nat.le_trans o0.s (by decide)) (Nat.le_trans o1.s (by decide)) (by have:=o0.u;have:=o1.l;simp only at *;omega) (by have:=o1.u;have:=o0.l;simp only at *;omega) (by have:=o0.l;simp only at *;omega) (by have:=o0.u;simp only at *;omega) (by have:=o1.l;simp only at *;omega) (by have:=o1.u;simp only at *;omega)
   obtain ⟨c,hc,_,hc2⟩:=cmpV ⟨⟨s,n⟩,e⟩ ⟨⟨t,m⟩,f⟩ o0.s o1.s (by have:=o0.l;simp only at *;omega) (by have:=o0.u;simp only at *;omega) (by have:=o1.l;simp only at *;omega) (by have:=o1.u;simp only at *;omega)
   have hkc:k≤0↔LeV ⟨⟨s,n⟩,e⟩ ⟨⟨t,m⟩,f⟩:=by
    constructor
    ·intro h i j hij
     exact Int.not_lt.1 fun h5=>by have:=((hk2 i j hij).2).2 h5;omega
    ·intro h
     have h5:=h (e - f).toNat (-(e - f)).toNat (by simp only;omega)
     have h6:=(hk2 (e - f).toNat (-(e - f)).toNat (by omega)).2
     refine Int.not_lt.1 fun h7=>?_
     have:=h6.1 h7
     simp only at h5
     omega
   refine ⟨decide (k≤0),?_,?_,fun h=>⟨_,_,rfl,hlo,hhi,o0,o1,hkc.1 (of_decide_eq_true h)⟩⟩
   ·unfold toL
    simp only [if_true,sB,Gv]
    rw [hk,sB]
    rfl
   ·unfold toL
    simp only [if_true,sB,Gv,GM,Hy]
    rw [hc,sB]
    congr 1
    apply decide_eq_decide.2
    rw [hkc,←hc2];omega
theorem fineP (b:Int):EW b=if 1≤b∧b≤4096 then some (.ok ()) else some (.error 1):=by
 unfold EW DQ
 by_cases h1:1≤b<;>by_cases h2:b≤4096<;>simp [h1,h2,sB,mb]
theorem fineL (b:Int):EQ b=some (decide (1≤b∧b≤4096)):=by
 unfold EQ
 by_cases h1:1≤b<;>by_cases h2:b≤4096<;>simp [h1,h2,sB]
end Go.Proofs.Pq
namespace Go.Proofs.Pq
set_option linter.unusedVariables false
set_option linter.unusedSimpArgs false
set_option maxRecDepth 4000
open Go.Proofs Go.Sb Go.Proofs.Sbn Go.Proofs.Lf
theorem sanity:Ep=some true:=by kernel_rfl
theorem bb (o:Option Bool):((o.bind fun r=>some r).bind fun m=>some m)=o:=by cases o<;>rfl
end Go.Proofs.Pq
namespace Go.Proofs.Pq
set_option linter.unusedVariables false
set_option linter.unusedSimpArgs false
set_option maxRecDepth 4000
open Go.Proofs Go.Sb Go.Proofs.Sbn Go.Proofs.Lf
theorem round1 (s:Bool) (n b:Nat) (e dir:Int) (hn:bl n≤400000) (hb:1≤b) (h:b+1≤bl n) (he : -100000000≤e) (he':e≤100000000) :
  AK ⟨⟨s,n⟩,e⟩ (b:Int) dir false=some (rn s n (2^(bl n - b)) (e+((bl n - b:Nat):Int)) dir):=by
 have hn0:n≠0:=by intro h0;subst h0;rw [HJ] at h;omega
 have key:∀(n:Nat) (e:Int),bl n≤400001→b+2≤bl n→-100000001≤e→e≤100000001→AK ⟨⟨s,n⟩,e⟩ (b:Int) dir false=some (rn s n (2^(bl n - b)) (e+((bl n - b:Nat):Int)) dir):=by
  intro n e h1 h2 h3 h4
  have:=round_st s n e b dir n 1 (by unfold Sm;omega) (by decide) (Nat.div_one n).symm hb h2 (by omega) (by omega)
  rw [show (decide (n%1≠0))=false by simp [Nat.mod_one],Nat.one_mul] at this
  exact this
 by_cases h2:b+2≤bl n
 ·exact key n e (by omega) h2 (by omega) (by omega)
 ·have hbl:=LQ (k:=1) hn0
  have hk:=key (n*2^1) (e - 1) (by omega) (by omega) (by omega) (by omega)
  have e1:AK ⟨⟨s,n⟩,e⟩ (b:Int) dir false=AK ⟨⟨s,n*2^1⟩,e - 1⟩ (b:Int) dir false:=by
   unfold AK
   simp only
   rw [wBits (by unfold Sm;omega),wBits (by unfold Sm;omega),sB,sB,w64 (x:=(bl n:Int) - (b:Int)) (by omega) (by omega),w64 (x:=(bl (n*2^1):Int) - (b:Int)) (by omega) (by omega)]
   rw [show (bl n:Int) - (b:Int)=1 by omega,show (bl (n*2^1):Int) - (b:Int)=2 by omega]
   unfold Dz
   simp only
   rw [show wi64 (2 - (1:Int))=((1:Nat):Int) from by decide,wShl (by unfold Sm;omega) (by decide),w64 (x:=e - 2) (by omega) (by omega),w64 (x:=e - 2+1) (by omega) (by omega),show e - 2+1=e - 1 by omega]
   rfl
  rw [e1,hk]
  congr 1
  rw [hbl,show bl n+1 - b=(bl n - b)+1 by omega]
  rw [Mz (N:=n*2^1) (D:=2^(bl n - b+1)) (N':=n) (D':=2^(bl n - b)) _ dir (Nat.two_pow_pos _) (Nat.two_pow_pos _) (by rw [Nat.pow_succ 2 (bl n - b),Nat.pow_one];simp only [Nat.mul_assoc,Nat.mul_comm,Nat.mul_left_comm])]
  congr 1
  omega
theorem La {s:Bool} {q:Nat} {e:Int} (h:q%2=1):nz s q e=⟨⟨s,q⟩,e⟩:=by
 have h0:q≠0:=by omega
 have hz:tz q=0:=Mk (m:=q/2) (by rw [Nat.pow_zero,Nat.one_mul];omega)
 unfold nz
 rw [if_neg h0,hz,Nat.pow_zero,Nat.div_one]
 congr 1
 simp
theorem canonV {d:Ag} (h:VT d):ofD d=nz d.Man.Neg d.Man.Abs d.Exp:=by
 obtain ⟨⟨s,n⟩,e⟩:=d
 by_cases h0:n=0
 ·obtain ⟨h1,h2⟩:=h.z h0
  simp only at h1 h2
  subst h0 h1 h2;rfl
 ·exact (La (h.o h0).1).symm
theorem Ln (s:Bool) (M b:Nat) (e dir:Int) (hM:bl M≤20000) (hb:1≤b) (hb':b≤4096) (he : -900000≤e) (he':e≤900000) :
  ∃r,AK (nz s M e) (b:Int) dir false=some r∧BI (toD (nz s M e)) (b:Int) dir=some (toD r)∧Cb r:=by
 by_cases hM0:M=0
 ·subst hM0
  refine ⟨⟨⟨false,0⟩,0⟩,?_,?_,by decide,by decide,by decide,false,0,0,rfl⟩
  ·unfold nz
   rw [if_pos rfl]
   unfold AK
   rw [wBits (show Sm 0 from sm0),sB,HJ,w64 (x:=((0:Nat):Int) - (b:Int)) (by omega) (by omega),if_pos (by omega),sB,if_pos (by decide)]
   rfl
  ·unfold nz toD
   rw [if_pos rfl]
   unfold BI
   simp only
   rw [rBits sm0,sB,HJ,w64 (x:=((0:Nat):Int) - (b:Int)) (by omega) (by omega),if_pos (by omega)]
 ·obtain ⟨q,hq,hqb⟩:=Ho hM0
  have hp:=Nat.two_pow_pos (tz M)
  have hqd:M/2^tz M=2*q+1:=by generalize tz M=z at *;rw [hq,Nat.mul_div_cancel_left _ hp]
  have hbl:bl M=bl (2*q+1)+tz M:=by
   have:=LQ (n:=2*q+1) (k:=tz M) (by omega)
   rw [Nat.mul_comm] at this
   generalize tz M=z at *;rw [hq];exact this
  have hnz:nz s M e=⟨⟨s,2*q+1⟩,e+tz M⟩:=by unfold nz;rw [if_neg hM0,hqd]
  by_cases h:bl (2*q+1)≤b
  ·refine ⟨nz s M e,?_,?_,?_⟩
   ·rw [hnz]
    unfold AK
    rw [wBits (by unfold Sm;simp only;omega),sB,w64 (x:=(bl (2*q+1):Int) - (b:Int)) (by omega) (by omega),if_pos (by omega),sB,if_pos (by decide),normal _ _ _ (by unfold Sm;omega) (by simp only;omega) (by simp only;omega),La (by omega)]
    rfl
   ·rw [hnz]
    unfold BI toD
    simp only
    rw [rBits (by unfold Sm;omega),sB,w64 (x:=(bl (2*q+1):Int) - (b:Int)) (by omega) (by omega),if_pos (by omega)]
   ·rw [hnz]
    refine ⟨by simp only;omega,by simp only;omega,by simp only;omega,s,M,e,hnz.symm⟩
  ·have hr:=refRound s (2*q+1) b (e+tz M) dir (by omega) hb (by omega) (by omega) (by omega)
   rw [La (by omega)] at hr
   have hpr:=round1 s (2*q+1) b (e+tz M) dir (by omega) hb (by omega) (by omega) (by omega)
   refine ⟨_,by rw [hnz];exact hpr,by rw [hnz];exact hr,?_⟩
   have hqn:2*q+1≠0:=by omega
   have h2:=(Hn hqn).2.1
   have h3:(2*q+1)/2^(bl (2*q+1) - b)<2^b:=by
    rw [Nat.div_lt_iff_lt_mul (Nat.two_pow_pos _),←Nat.pow_add,show b+(bl (2*q+1) - b)=bl (2*q+1) by omega];exact h2
   have h4:∀c:Bool,(if c=true then 1 else 0)≤1:=by intro c;cases c<;>decide
   unfold rn
   generalize hG:(2*q+1)/2^(bl (2*q+1) - b)+(if up (decide ((2*q+1)%2^(bl (2*q+1) - b)=0)) (sgnc (2*((2*q+1)%2^(bl (2*q+1) - b))) (2^(bl (2*q+1) - b))) (decide ((2*q+1)/2^(bl (2*q+1) - b)%2=1)) s dir=true then 1 else 0)=G
   have hGb:G≤2^b:=by rw [←hG];exact Nat.le_trans (Nat.add_le_add_left (h4 _) _) h3
   have hGl:bl G≤b+1:=by rw [FN,Nat.pow_succ];have:=Nat.two_pow_pos b;omega
   refine ⟨?_,?_,?_,s,G,_,rfl⟩
   all_goals
    unfold nz
    by_cases hG0:G=0
    ·rw [if_pos hG0];simp only;first | (rw [HJ];omega) | omega
    ·rw [if_neg hG0];simp only
     have:=MU G (2^tz G)
     obtain ⟨_,_,hq2⟩:=Ho hG0
     omega
theorem plusP (s t:Bool) (n m:Nat) (e f:Int) (hn:n≠0) (hm:m≠0) (hns:bl n≤40000) (hms:bl m≤40000) (hd:e - f≤300000) (hd':f - e≤300000)
  (he : -1000000≤e) (he':e≤1000000) (hf : -1000000≤f) (hf':f≤1000000) (A C:Nat) (hA:A=n*2^(e - min e f).toNat) (hC:C=m*2^(f - min e f).toNat) :
  BL ⟨⟨s,n⟩,e⟩ ⟨⟨t,m⟩,f⟩=some (nz (addZ s A t C).1 (addZ s A t C).2 (min e f)):=by
 obtain ⟨a,ha⟩:∃a:Nat,e - min e f=(a:Int):=⟨(e - min e f).toNat,by omega⟩
 obtain ⟨c,hc⟩:∃c:Nat,f - min e f=(c:Int):=⟨(f - min e f).toNat,by omega⟩
 rw [ha] at hA;rw [hc] at hC
 rw [Int.toNat_natCast] at hA hC
 have hbA:bl A≤400000:=by rw [hA];have:=IQ n a;omega
 have hbC:bl C≤400000:=by rw [hC];have:=IQ m c;omega
 have hsA:Sm A:=by unfold Sm;omega
 have hsC:Sm C:=by unfold Sm;omega
 have hcp:=@Hs A C
 unfold BL Bl
 simp only [sz0,Lq]
 rw [if_neg hn,sB,if_neg hm,sB,if_pos hn,if_pos hm]
 rw [w64 (x:=e - min e f) (by omega) (by omega),w64 (x:=f - min e f) (by omega) (by omega),ha,hc]
 unfold Dz
 simp only
 rw [wShl (by unfold Sm;omega) (by omega),sB,sB,sB,wShl (by unfold Sm;omega) (by omega),sB,sB,sB,←hA,←hC]
 unfold Dv EB addZ
 simp only
 by_cases hst:s=t
 ·rw [if_pos hst,if_pos hst,wAdd hsA hsC,sB,sB,normal _ _ _ (NF hbA hbC) (by omega) (by omega)];rfl
 ·rw [if_neg hst,if_neg hst,wCmp hsA hsC,sB]
  by_cases h:C≤A
  ·have:¬cmpw A C<0:=fun h2=>by have:=hcp.1 h2;omega
   rw [if_pos (by omega),wSub hsA h,sB,sB,normal _ _ _ (HZ (Nat.sub_le _ _) hsA) (by omega) (by omega),if_pos h];rfl
  ·have:cmpw A C<0:=hcp.2 (by omega)
   rw [if_neg (by omega),wSub hsC (by omega),sB,sB,normal _ _ _ (HZ (Nat.sub_le _ _) hsC) (by omega) (by omega),if_neg h];rfl
theorem plus0l (s t:Bool) (m:Nat) (e f:Int) (hms:bl m≤40000) (hf : -1000000≤f) (hf':f≤1000000) (he : -1000000≤e) (he':e≤1000000):BL ⟨⟨s,0⟩,e⟩ ⟨⟨t,m⟩,f⟩=some (nz t m f):=by
 have hmS:Sm m:=by unfold Sm;omega
 have hc:=@Hs 0 m
 unfold BL Bl
 simp only [sz0,Lq]
 rw [if_pos trivial,sB]
 by_cases hm:m=0
 ·subst hm
  rw [if_pos rfl,sB]
  unfold Dv EB DY
  simp only [ne_eq,not_true_eq_false,if_false,sB,sz0]
  cases s<;>cases t<;>rfl
 ·rw [if_neg hm,sB,if_pos hm,w64 (x:=f - f) (by omega) (by omega),show f - f=((0:Nat):Int) by omega]
  unfold Dz
  simp only [ne_eq,not_true_eq_false,if_false,sB]
  rw [wShl hmS (by decide),Nat.pow_zero,Nat.mul_one,sB]
  unfold Dv EB
  simp only [sB]
  by_cases hst:s=t
  ·rw [if_pos hst,wAdd sm0 hmS,sB,sB,Nat.zero_add,normal _ _ _ hmS (by omega) (by omega),hst];rfl
  ·have:cmpw 0 m<0:=hc.2 (by omega)
   rw [if_neg hst,wCmp sm0 hmS,sB,if_neg (by omega),wSub hmS (by omega),sB,sB,Nat.sub_zero,normal _ _ _ hmS (by omega) (by omega)];rfl
theorem plus0r (s t:Bool) (n:Nat) (e f:Int) (hn:n≠0) (hns:bl n≤40000) (he : -1000000≤e) (he':e≤1000000):BL ⟨⟨s,n⟩,e⟩ ⟨⟨t,0⟩,f⟩=some (nz s n e):=by
 have hnS:Sm n:=by unfold Sm;omega
 have hc:=@Hs n 0
 unfold BL Bl
 simp only [sz0,Lq]
 rw [if_neg hn,sB,if_pos trivial,sB,if_pos hn,w64 (x:=e - e) (by omega) (by omega),show e - e=((0:Nat):Int) by omega]
 unfold Dz
 simp only [ne_eq,not_true_eq_false,if_false,sB]
 rw [wShl hnS (by decide),Nat.pow_zero,Nat.mul_one,sB]
 unfold Dv EB
 simp only [sB]
 by_cases hst:s=t
 ·rw [if_pos hst,wAdd hnS sm0,sB,sB,Nat.add_zero,normal _ _ _ hnS (by omega) (by omega)];rfl
 ·have:¬cmpw n 0<0:=fun h2=>by have:=hc.1 h2;omega
  rw [if_neg hst,wCmp hnS sm0,sB,if_pos (by omega),wSub hnS (by omega),sB,sB,Nat.sub_zero,normal _ _ _ hnS (by omega) (by omega)];rfl
end Go.Proofs.Pq
namespace Go.Proofs.Pq
set_option linter.unusedVariables false
set_option linter.unusedSimpArgs false
set_option maxRecDepth 4000
open Go.Proofs Go.Sb Go.Proofs.Sbn Go.Proofs.Lf
structure LC (y:Ao) (z:Ag):Prop where
 a:y.m.Abs=z.Man.Abs
 e:y.e=z.Exp
 s:z.Man.Abs≠0→y.m.Neg=z.Man.Neg
 c:toD (nz y.m.Neg y.m.Abs y.e)=z
theorem LC.of {d:Ag} (h:VT d):LC (ofD d) d:=⟨rfl,rfl,fun _=>rfl,by
 have h2:nz d.Man.Neg d.Man.Abs d.Exp=ofD d:=(canonV h).symm
 show toD (nz d.Man.Neg d.Man.Abs d.Exp)=d
 rw [h2];rfl⟩
theorem sumC (x:Ag) (y:Ao) (z:Ag) (hx:VT x) (h:LC y z) (hxs:bl x.Man.Abs≤9000) (hys:bl z.Man.Abs≤9000) (h1 : -5000≤x.Exp) (h2:x.Exp≤5000) (h3 : -5000≤z.Exp) (h4:z.Exp≤5000) :
  ∃σ M E,BL (ofD x) y=some (nz σ M E)∧Bs x z=some (toD (nz σ M E))∧bl M≤20000∧-5000≤E∧E≤5000:=by
 obtain ⟨⟨s,n⟩,e⟩:=x
 obtain ⟨⟨t,m⟩,f⟩:=y
 obtain ⟨⟨t',m'⟩,f'⟩:=z
 obtain ⟨ha,hee,hs,hc⟩:=h
 simp only at ha hee hs hc hxs hys h1 h2 h3 h4
 subst ha hee
 by_cases hn:n=0
 ·subst hn
  refine ⟨t,m,f,plus0l s t m e f (by omega) (by omega) (by omega) (by omega) (by omega),?_,by omega,h3,h4⟩
  unfold Bs
  simp only [sz0]
  rw [if_pos trivial,hc]
 ·by_cases hm:m=0
  ·subst hm
   refine ⟨s,n,e,plus0r s t n e f hn (by omega) (by omega) (by omega),?_,by omega,h1,h2⟩
   unfold Bs
   simp only [sz0]
   rw [if_neg hn,if_pos trivial]
   have:=(LC.of hx).c
   exact congrArg some this.symm
  ·have hst:=hs hm
   subst hst
   refine ⟨_,_,_,plusP s t n m e f hn hm (by omega) (by omega) (by omega) (by omega) (by omega) (by omega) (by omega) (by omega) _ _ rfl rfl,refSum s t n m e f hn hm (by omega) (by omega) (by omega) (by omega) (by omega) (by omega) (by omega) (by omega) _ _ rfl rfl,?_,by omega,by omega⟩
   obtain ⟨a,ha⟩:∃a:Nat,(e - min e f).toNat=a:=⟨_,rfl⟩
   obtain ⟨c,hc⟩:∃c:Nat,(f - min e f).toNat=c:=⟨_,rfl⟩
   rw [ha,hc]
   have e1:bl (n*2^a)≤19000:=by have:=IQ n a;omega
   have e2:bl (m*2^c)≤19000:=by have:=IQ m c;omega
   generalize n*2^a=A at *
   generalize m*2^c=C at *
   have l0:=Ms e1 e2
   have hsum:∀X:Nat,X≤A+C→bl X≤20000:=fun X hX=>by have:=Mn hX;omega
   apply hsum
   unfold addZ
   split
   ·exact Nat.le_refl _
   ·split<;>simp only<;>omega
theorem nearT (x y:Ao) (hxs:bl x.m.Abs≤9000) (hys:bl y.m.Abs≤9000) (h1 : -5000≤x.e) (h2:x.e≤5000) (h3 : -5000≤y.e) (h4:y.e≤5000):Hu x y=some true:=by
 obtain ⟨⟨s,n⟩,e⟩:=x
 obtain ⟨⟨t,m⟩,f⟩:=y
 simp only at hxs hys h1 h2 h3 h4
 unfold Hu
 rw [sign,sB]
 by_cases hn:n=0
 ·rw [if_pos (by rw [if_pos hn])];rfl
 ·rw [if_neg (by rw [if_neg hn];split<;>decide),sign,sB,sB]
  by_cases hm:m=0
  ·rw [if_pos hm];rfl
  ·rw [decide_eq_false (by rw [if_neg hm];split<;>decide),if_neg (by decide)]
   unfold Dg
   simp only
   rw [wBits (show Sm n by unfold Sm;omega),sB,sB,wBits (show Sm m by unfold Sm;omega),sB,sB]
   rw [w64 (x:=(bl n:Int) - 1) (by omega) (by omega),w64 (x:=(bl n:Int) - 1+e) (by omega) (by omega),w64 (x:=(bl m:Int) - 1) (by omega) (by omega),w64 (x:=(bl m:Int) - 1+f) (by omega) (by omega)]
   rw [w64 (x:=max ((bl n:Int) - 1+e) ((bl m:Int) - 1+f) - min e f) (by omega) (by omega),decide_eq_true (by omega)]
theorem Mq (x:Ag) (y:Ao) (z:Ag) (b:Nat) (dir:Int) (hb:1≤b) (hb':b≤4096) (hx:VT x) (h:LC y z) (hxs:bl x.Man.Abs≤9000) (hys:bl z.Man.Abs≤9000) (h1 : -5000≤x.Exp) (h2:x.Exp≤5000) (h3 : -5000≤z.Exp) (h4:z.Exp≤5000) :
  ∃r u,Gm (ofD x) y (b:Int) dir=some r∧Bs x z=some u∧BI u (b:Int) dir=some (toD r)∧Cb r:=by
 obtain ⟨σ,M,E,p1,p2,p3,p4,p5⟩:=sumC x y z hx h hxs hys h1 h2 h3 h4
 obtain ⟨r,r1,r2,r3⟩:=Ln σ M b E dir p3 hb hb' (by omega) (by omega)
 refine ⟨r,_,?_,p2,r2,r3⟩
 unfold Gm
 rw [nearT (ofD x) y hxs (by rw [h.a];exact hys) h1 h2 (by rw [h.e];exact h3) (by rw [h.e];exact h4),sB,if_pos rfl,p1,sB,r1,sB]
theorem KW {d:Ag} (h:VT d):∃z,DK (ofD d)=some ⟨⟨!d.Man.Neg,d.Man.Abs⟩,d.Exp⟩∧CC d=some z∧LC ⟨⟨!d.Man.Neg,d.Man.Abs⟩,d.Exp⟩ z∧z.Man.Abs=d.Man.Abs∧z.Exp=d.Exp:=by
 obtain ⟨⟨s,n⟩,e⟩:=d
 refine ⟨_,?_,refMinus s n e,⟨rfl,rfl,fun h0=>?_,?_⟩,rfl,rfl⟩
 ·unfold DK FH ofD;cases s<;>rfl
 ·show (!s)=(!s && decide (n≠0));rw [decide_eq_true h0,Bool.and_true]
 ·show toD (nz (!s) n e)=_
  by_cases h0:n=0
  ·obtain ⟨h1,h2⟩:=h.z h0
   simp only at h1 h2
   subst h0 h1 h2;rfl
  ·rw [La (h.o h0).1];unfold toD;rw [decide_eq_true h0,Bool.and_true]
theorem JP {lo hi:Ao} (h:Cb lo) (h':Cb hi):DC ⟨lo,hi⟩=some (.ok ⟨toD lo,toD hi⟩):=by
 unfold DC
 rw [(outOK h).1]
 show mb (Ec hi) _=_
 rw [(outOK h').1]
 rfl
theorem Lk (x y:Ag) (hxs:bl x.Man.Abs≤9000) (hys:bl y.Man.Abs≤9000) (h1 : -5000≤x.Exp) (h2:x.Exp≤5000) (h3 : -5000≤y.Exp) (h4:y.Exp≤5000) :
  ∃σ M E,EX (ofD x) (ofD y)=some (nz σ M E)∧Ce x y=some (toD (nz σ M E))∧bl M≤18000∧-10000≤E∧E≤10000:=by
 obtain ⟨⟨s,n⟩,e⟩:=x
 obtain ⟨⟨t,m⟩,f⟩:=y
 simp only at hxs hys h1 h2 h3 h4
 have hM:bl (n*m)≤18000:=by have:=bl_mul2 n m;omega
 refine ⟨decide (¬s=t),n*m,e+f,?_,?_,hM,by omega,by omega⟩
 ·unfold EX GW ofD
  simp only
  rw [wMul (by unfold Sm;omega) (by unfold Sm;omega),sB,sB,w64 (x:=e+f) (by omega) (by omega),normal _ _ _ (by unfold Sm;omega) (by omega) (by omega)];rfl
 ·unfold Ce Fl
  simp only
  rw [rMul (by unfold Sm;omega) (by unfold Sm;omega),sB,signed,sB,sB,w64 (x:=e+f) (by omega) (by omega),refOf _ _ _ (by unfold Sm;omega) (by omega) (by omega),sB,Le]
def Pb (r:Ao):Prop:=∃s M e,r=nz s M e∧bl M≤18000∧-10000≤e∧e≤10000
theorem Pb.bd {r:Ao} (h:Pb r):bl r.m.Abs≤18000∧-10000≤r.e∧r.e≤30000:=by
 obtain ⟨s,M,e,rfl,h1,h2,h3⟩:=h
 unfold nz
 by_cases h0:M=0
 ·rw [if_pos h0];simp only;rw [HJ];omega
 ·rw [if_neg h0];simp only
  have:=MU M (2^tz M)
  obtain ⟨_,_,hq⟩:=Ho h0
  omega
theorem MB {x y:Ao} (hx:Pb x) (hy:Pb y):∃c k,BO x y=some c∧Bc (toD x) (toD y)=some k∧(c<0↔k<0)∧(0<c↔0<k):=by
 have hx:=hx.bd
 have hy:=hy.bd
 obtain ⟨⟨s,n⟩,e⟩:=x
 obtain ⟨⟨t,m⟩,f⟩:=y
 simp only at hx hy
 obtain ⟨c,hc,h1⟩:=cmp s t n m e f (by omega) (by omega) (by omega) (by omega) (by omega) (by omega)
 obtain ⟨k,hk,_,h2⟩:=Kr s t n m e f (by omega) (by omega) (by omega) (by omega) (by omega) (by omega) (by omega) (by omega)
 have a1:=h1 (e - f).toNat (-(e - f)).toNat (by omega)
 have a2:=h2 (e - f).toNat (-(e - f)).toNat (by omega)
 exact ⟨c,k,hc,hk,a1.1.trans a2.1.symm,a1.2.trans a2.2.symm⟩
theorem It {p:Prop} [Decidable p] (r r':Ao):(if p then some ((toD r').Man.Neg,(toD r').Man.Abs,(toD r').Exp) else some ((toD r).Man.Neg,(toD r).Man.Abs,(toD r).Exp))=some ((toD (if p then r' else r)).Man.Neg,(toD (if p then r' else r)).Man.Abs,(toD (if p then r' else r)).Exp):=by split<;>rfl
theorem Jg {α:Type} {p q:Prop} [Decidable p] [Decidable q] (h:p↔q) (a b:α):(if p then a else b)=(if q then a else b):=by
 by_cases hp:p
 ·rw [if_pos hp,if_pos (h.1 hp)]
 ·rw [if_neg hp,if_neg (fun hq=>hp (h.2 hq))]
theorem Pb.ite {p:Prop} [Decidable p] {a b:Ao} (ha:Pb a) (hb:Pb b):Pb (if p then a else b):=by split<;>assumption
theorem timesEq (x y:Ak) (X Y:Aq) (b:Nat) (hb:1≤b) (hb':b≤4096)
  (hb1:bl x.Lo.Man.Abs≤9000∧-5000≤x.Lo.Exp∧x.Lo.Exp≤5000) (hb2:bl x.Hi.Man.Abs≤9000∧-5000≤x.Hi.Exp∧x.Hi.Exp≤5000) (hb3:bl y.Lo.Man.Abs≤9000∧-5000≤y.Lo.Exp∧y.Lo.Exp≤5000) (hb4:bl y.Hi.Man.Abs≤9000∧-5000≤y.Hi.Exp∧y.Hi.Exp≤5000)
  (hX:X=⟨ofD x.Lo,ofD x.Hi⟩) (hY:Y=⟨ofD y.Lo,ofD y.Hi⟩) :
  ∃lo hi,Fi X Y (b:Int)=some (.ok ⟨toD lo,toD hi⟩)∧EG x y (b:Int)=some ⟨toD lo,toD hi⟩∧Cb lo∧Cb hi:=by
 subst hX hY
 obtain ⟨s1,M1,E1,p1,q1,l1⟩:=Lk x.Lo y.Lo hb1.1 hb3.1 hb1.2.1 hb1.2.2 hb3.2.1 hb3.2.2
 obtain ⟨s2,M2,E2,p2,q2,l2⟩:=Lk x.Lo y.Hi hb1.1 hb4.1 hb1.2.1 hb1.2.2 hb4.2.1 hb4.2.2
 obtain ⟨s3,M3,E3,p3,q3,l3⟩:=Lk x.Hi y.Lo hb2.1 hb3.1 hb2.2.1 hb2.2.2 hb3.2.1 hb3.2.2
 obtain ⟨s4,M4,E4,p4,q4,l4⟩:=Lk x.Hi y.Hi hb2.1 hb4.1 hb2.2.1 hb2.2.2 hb4.2.1 hb4.2.2
 have b1:Pb (nz s1 M1 E1):=⟨_,_,_,rfl,l1⟩
 have b2:Pb (nz s2 M2 E2):=⟨_,_,_,rfl,l2⟩
 have b3:Pb (nz s3 M3 E3):=⟨_,_,_,rfl,l3⟩
 have b4:Pb (nz s4 M4 E4):=⟨_,_,_,rfl,l4⟩
 generalize nz s1 M1 E1=r1 at *
 generalize nz s2 M2 E2=r2 at *
 generalize nz s3 M3 E3=r3 at *
 generalize nz s4 M4 E4=r4 at *
 obtain ⟨z1,_,hz1,_,_,_⟩:=MB b1 b1
 obtain ⟨c2,k2,hc2,hk2,i2,j2⟩:=MB b2 b1
 have bl2:Pb (if c2<0 then r2 else r1):=b2.ite b1
 have bh2:Pb (if 0<c2 then r2 else r1):=b2.ite b1
 obtain ⟨c3,k3,hc3,hk3,i3,j3⟩:=MB b3 bl2
 obtain ⟨d3,m3,hd3,hm3,u3,v3⟩:=MB b3 bh2
 have bl3:Pb (if c3<0 then r3 else if c2<0 then r2 else r1):=b3.ite bl2
 have bh3:Pb (if 0<d3 then r3 else if 0<c2 then r2 else r1):=b3.ite bh2
 obtain ⟨c4,k4,hc4,hk4,i4,j4⟩:=MB b4 bl3
 obtain ⟨d4,m4,hd4,hm4,u4,v4⟩:=MB b4 bh3
 have bl4:Pb (if c4<0 then r4 else if c3<0 then r3 else if c2<0 then r2 else r1):=b4.ite bl3
 have bh4:Pb (if 0<d4 then r4 else if 0<d3 then r3 else if 0<c2 then r2 else r1):=b4.ite bh3
 obtain ⟨sl,Ml,El,hl,hl1,hl2,hl3⟩:=bl4
 obtain ⟨sh,Mh,Eh,hh,hh1,hh2,hh3⟩:=bh4
 obtain ⟨lo,w1,w2,w3⟩:=Ln sl Ml b El 5 (by omega) hb hb' (by omega) (by omega)
 obtain ⟨hi,w4,w5,w6⟩:=Ln sh Mh b Eh 4 (by omega) hb hb' (by omega) (by omega)
 rw [←hl] at w1 w2
 rw [←hh] at w4 w5
 refine ⟨lo,hi,?_,?_,w3,w6⟩
 ·unfold Fi HE
  rw [p1,sB,hz1,sB,Mw,sB,sB,Mw,sB,sB]
  unfold Fs
  simp only
  rw [p2,sB,hc2,sB,pickn,sB,sB,pickn,sB,sB]
  simp only
  rw [p3,sB,hc3,sB,pickn,sB,hd3,sB,pickn,sB,sB]
  simp only
  rw [p4,sB,hc4,sB,pickn,sB,hd4,sB,pickn,sB,sB]
  unfold FC
  simp only
  rw [w1,sB,w4,sB,sB,JP w3 w6]
  rfl
 ·unfold EG
  rw [q1,sB,q2,sB,q3,sB,q4,sB,hk2,sB,It,sB,sB,It,sB]
  rw [←Jg i2,←Jg j2]
  simp only
  rw [hk3,sB,It,sB,hm3,sB,It,sB,←Jg i3,←Jg v3]
  simp only
  rw [hk4,sB,It,sB,hm4,sB,It,sB,←Jg i4,←Jg v4]
  unfold CI
  simp only
  rw [w2,sB,w5,sB,sB]
end Go.Proofs.Pq
namespace Go.Proofs.Pq
set_option linter.unusedVariables false
set_option linter.unusedSimpArgs false
set_option maxRecDepth 4000
open Go.Proofs Go.Sb Go.Proofs.Sbn Go.Proofs.Lf
def Lt (d:Ag):Prop:=Ok d∧bl d.Man.Abs≤9000
theorem Ng (x:AD) (h:Dig x.Man.Abs):∃v,DP x=some v∧(v=true→∀d,x=toL d→VT d→Lt d):=by
 obtain ⟨w,hv,_,_⟩:=LR x h
 unfold DP
 by_cases hl:(List.length x.Man.Abs:Int)≤60
 ·have key:(-3000≤x.Exp∧x.Exp≤3000)→∀d,x=toL d→VT d→Lt d:=by
   rintro ⟨k1,k2⟩ d rfl hd
   have e1:(toL d).Exp=d.Exp:=rfl
   have e2:(toL d).Man.Abs.length=Sbn.sz d.Man.Abs:=rfl
   have h60:Sbn.sz d.Man.Abs≤60:=by omega
   exact ⟨hd.ok (by omega) (by omega) (by omega),by have:=Kl h60;omega⟩
  have nov:w=false→∀d,x=toL d→VT d→Lt d:=by
   intro hw d hd hvt
   subst hd;rw [(validT hvt).1,hw] at hv;cases hv
  rw [if_pos hl,hv]
  by_cases k1 : -3000≤x.Exp
  ·rw [if_pos k1,sB]
   by_cases k2:x.Exp≤3000
   ·exact ⟨true,by rw [decide_eq_true k2];rfl,fun _=>key ⟨k1,k2⟩⟩
   ·refine ⟨!w,by rw [decide_eq_false k2];cases w<;>rfl,fun hw=>nov (by cases w<;>simp_all)⟩
  ·rw [if_neg k1,sB]
   refine ⟨!w,by cases w<;>rfl,fun hw=>nov (by cases w<;>simp_all)⟩
 ·rw [if_neg hl]
  exact ⟨false,rfl,fun h=>by cases h⟩
theorem KD (x:Ap) (h0:Dig x.Lo.Man.Abs) (h1:Dig x.Hi.Man.Abs):∃v,CO x=some v∧(v=true→(∀d,x.Lo=toL d→VT d→Lt d)∧∀d,x.Hi=toL d→VT d→Lt d):=by
 obtain ⟨u,hu,ku⟩:=Ng x.Lo h0
 obtain ⟨v,hv,kv⟩:=Ng x.Hi h1
 unfold CO
 rw [hu,hv,sB]
 cases u
 ·exact ⟨false,rfl,fun h=>by cases h⟩
 ·cases v
  ·exact ⟨false,rfl,fun h=>by cases h⟩
  ·exact ⟨true,rfl,fun _=>⟨ku rfl,kv rfl⟩⟩
def MJ (G:Aq→Aq→Int→M Ak) (F:Ap→Ap→Int→Option (Ak × Int)):Prop:=
 (∀x y b v0 v1,DX x=some v0→DX y=some v1→¬(v0=true∧v1=true∧1≤b∧b≤4096)→F x y b=some (zS,1))∧
 (∀(x y:Ak) (b:Int) (X Y:Ap),X=⟨toL x.Lo,toL x.Hi⟩→Y=⟨toL y.Lo,toL y.Hi⟩→DX X=some true→DX Y=some true→1≤b∧b≤4096→
  ∀lo hi,G ⟨ofD x.Lo,ofD x.Hi⟩ ⟨ofD y.Lo,ofD y.Hi⟩ b=some (.ok ⟨lo,hi⟩)→F X Y b=some (⟨lo,hi⟩,0))
theorem LB:MJ FB GO:=by
 refine ⟨fun x y b v0 v1 p0 p1 h=>?_,fun x y b X Y hX hY p0 p1 h lo hi hG=>?_⟩
 ·unfold GO CG Ds BJ
  rw [p0,p1,fineP]
  cases v0
  ·rfl
  ·cases v1
   ·rfl
   ·rw [if_neg (fun h2=>h ⟨rfl,rfl,h2⟩)];rfl
 ·unfold GO CG Ds BJ
  rw [p0,p1,fineP,if_pos h]
  subst hX hY
  unfold toL
  simp only [Gv]
  show ((mb (FB ⟨ofD x.Lo,ofD x.Hi⟩ ⟨ofD y.Lo,ofD y.Hi⟩ b) _).bind _).bind _=_
  rw [hG];rfl
theorem KX:MJ EZ Gw:=by
 refine ⟨fun x y b v0 v1 p0 p1 h=>?_,fun x y b X Y hX hY p0 p1 h lo hi hG=>?_⟩
 ·unfold Gw Cw CX BJ
  rw [p0,p1,fineP]
  cases v0
  ·rfl
  ·cases v1
   ·rfl
   ·rw [if_neg (fun h2=>h ⟨rfl,rfl,h2⟩)];rfl
 ·unfold Gw Cw CX BJ
  rw [p0,p1,fineP,if_pos h]
  subst hX hY
  unfold toL
  simp only [Gv]
  show ((mb (EZ ⟨ofD x.Lo,ofD x.Hi⟩ ⟨ofD y.Lo,ofD y.Hi⟩ b) _).bind _).bind _=_
  rw [hG];rfl
theorem KT:MJ Fi FT:=by
 refine ⟨fun x y b v0 v1 p0 p1 h=>?_,fun x y b X Y hX hY p0 p1 h lo hi hG=>?_⟩
 ·unfold FT Cu CY BJ
  rw [p0,p1,fineP]
  cases v0
  ·rfl
  ·cases v1
   ·rfl
   ·rw [if_neg (fun h2=>h ⟨rfl,rfl,h2⟩)];rfl
 ·unfold FT Cu CY BJ
  rw [p0,p1,fineP,if_pos h]
  subst hX hY
  unfold toL
  simp only [Gv]
  show ((mb (Fi ⟨ofD x.Lo,ofD x.Hi⟩ ⟨ofD y.Lo,ofD y.Hi⟩ b) _).bind _).bind _=_
  rw [hG];rfl
theorem plusEq (lo hi lo' hi':Ag) (b:Nat) (hb:1≤b) (hb':b≤4096) (v1:VT lo) (v2:VT hi) (v3:VT lo') (v4:VT hi') (l1:Lt lo) (l2:Lt hi) (l3:Lt lo') (l4:Lt hi') :
  ∃r5 r4,FB ⟨ofD lo,ofD hi⟩ ⟨ofD lo',ofD hi'⟩ (b:Int)=some (.ok ⟨toD r5,toD r4⟩)∧CS ⟨lo,hi⟩ ⟨lo',hi'⟩ (b:Int)=some ⟨toD r5,toD r4⟩∧Cb r5∧Cb r4:=by
 obtain ⟨r5,u5,a1,a2,a3,a4⟩:=Mq lo (ofD lo') lo' b 5 hb hb' v1 (LC.of v3) l1.2 l3.2 l1.1.l l1.1.u l3.1.l l3.1.u
 obtain ⟨r4,u4,b1,b2,b3,b4⟩:=Mq hi (ofD hi') hi' b 4 hb hb' v2 (LC.of v4) l2.2 l4.2 l2.1.l l2.1.u l4.1.l l4.1.u
 refine ⟨r5,r4,?_,?_,a4,b4⟩
 ·unfold FB
  simp only
  rw [a1,sB,b1,sB,JP a4 b4];rfl
 ·unfold CS CI
  simp only
  rw [a2,sB,b2,sB,a3,sB,b3,sB,sB]
theorem minusEq (lo hi lo' hi':Ag) (b:Nat) (hb:1≤b) (hb':b≤4096) (v1:VT lo) (v2:VT hi) (v3:VT lo') (v4:VT hi') (l1:Lt lo) (l2:Lt hi) (l3:Lt lo') (l4:Lt hi') :
  ∃r5 r4 T,EZ ⟨ofD lo,ofD hi⟩ ⟨ofD lo',ofD hi'⟩ (b:Int)=some (.ok ⟨toD r5,toD r4⟩)∧Es ⟨lo',hi'⟩=some T∧CS ⟨lo,hi⟩ T (b:Int)=some ⟨toD r5,toD r4⟩∧Cb r5∧Cb r4:=by
 obtain ⟨z,m1,m2,m3,m4,m5⟩:=KW v3
 obtain ⟨y,n1,n2,n3,n4,n5⟩:=KW v4
 obtain ⟨r5,u5,a1,a2,a3,a4⟩:=Mq lo _ y b 5 hb hb' v1 n3 l1.2 (by rw [n4];exact l4.2) l1.1.l l1.1.u (by rw [n5];exact l4.1.l) (by rw [n5];exact l4.1.u)
 obtain ⟨r4,u4,b1,b2,b3,b4⟩:=Mq hi _ z b 4 hb hb' v2 m3 l2.2 (by rw [m4];exact l3.2) l2.1.l l2.1.u (by rw [m5];exact l3.1.l) (by rw [m5];exact l3.1.u)
 refine ⟨r5,r4,⟨y,z⟩,?_,?_,?_,a4,b4⟩
 ·unfold EZ
  simp only
  rw [n1,sB,a1,sB,m1,sB,b1,sB,JP a4 b4];rfl
 ·unfold Es
  simp only
  rw [n2,sB,m2,sB]
 ·unfold CS CI
  simp only
  rw [a2,sB,b2,sB,a3,sB,b3,sB,sB]
theorem lawSpans (x0 x1:Ap) (x2:Int) (h0:Dig x0.Lo.Man.Abs) (h1:Dig x0.Hi.Man.Abs) (h2:Dig x1.Lo.Man.Abs) (h3:Dig x1.Hi.Man.Abs):Ez x0 x1 x2=some true:=by
 obtain ⟨w0,fe0,fk0⟩:=KD x0 h0 h1
 obtain ⟨w1,fe1,fk1⟩:=KD x1 h2 h3
 unfold Ez
 rw [fe0,fe1,sanity,sB]
 cases w0
 ·rfl
 cases w1
 ·rfl
 obtain ⟨ka,kb⟩:=fk0 rfl
 obtain ⟨kc,kd⟩:=fk1 rfl
 obtain ⟨v0,pe0,pp0,pk0⟩:=Mj x0 h0 h1 (fun d h1 h2=>(ka d h1 h2).1) (fun d h1 h2=>(kb d h1 h2).1)
 obtain ⟨v1,pe1,pp1,pk1⟩:=Mj x1 h2 h3 (fun d h1 h2=>(kc d h1 h2).1) (fun d h1 h2=>(kd d h1 h2).1)
 simp only [not_true_eq_false,if_false,sB,decide_false,Bool.false_eq_true]
 rw [fineL,sB,pe0,pe1]
 simp only [sB]
 have hm96:(if decide (1≤x2∧x2≤4096)=true then some v0 else some false)=some (decide (1≤x2∧x2≤4096) && v0):=by
  cases decide (1≤x2∧x2≤4096)<;>rfl
 have hm126:(if (decide (1≤x2∧x2≤4096) && v0)=true then some v1 else some false)=some (decide (1≤x2∧x2≤4096) && v0 && v1):=by
  cases decide (1≤x2∧x2≤4096)<;>cases v0<;>rfl
 rw [hm96,sB,hm126,sB]
 by_cases hok:(decide (1≤x2∧x2≤4096) && v0 && v1)=true
 ·obtain ⟨hA,hv1⟩:=(Bool.and_eq_true _ _▸hok:(decide (1≤x2∧x2≤4096) && v0)=true∧v1=true)
  obtain ⟨hF,hv0⟩:=(Bool.and_eq_true _ _▸hA:decide (1≤x2∧x2≤4096)=true∧v0=true)
  have hf:1≤x2∧x2≤4096:=of_decide_eq_true hF
  obtain ⟨lo,hi,hx0,vl,vh,ol,oh,hle⟩:=pk0 hv0
  obtain ⟨lo',hi',hx1,vl',vh',ol',oh',hle'⟩:=pk1 hv1
  have t1:Lt lo:=ka lo (by rw [hx0]) vl
  have t2:Lt hi:=kb hi (by rw [hx0]) vh
  have t3:Lt lo':=kc lo' (by rw [hx1]) vl'
  have t4:Lt hi':=kd hi' (by rw [hx1]) vh'
  subst hv0 hv1
  rw [hok]
  obtain ⟨b,hb⟩:∃b:Nat,x2=(b:Int):=⟨x2.toNat,by omega⟩
  subst hb
  obtain ⟨r5,r4,a1,a2,a3,a4⟩:=plusEq lo hi lo' hi' b (by omega) (by omega) vl vh vl' vh' t1 t2 t3 t4
  obtain ⟨s5,s4,T,b1,b2,b3,b4,b5⟩:=minusEq lo hi lo' hi' b (by omega) (by omega) vl vh vl' vh' t1 t2 t3 t4
  obtain ⟨q5,q4,c1,c2,c3,c4⟩:=timesEq ⟨lo,hi⟩ ⟨lo',hi'⟩ _ _ b (by omega) (by omega) ⟨t1.2,t1.1.l,t1.1.u⟩ ⟨t2.2,t2.1.l,t2.1.u⟩ ⟨t3.2,t3.1.l,t3.1.u⟩ ⟨t4.2,t4.1.l,t4.1.u⟩ rfl rfl
  rw [LB.2 ⟨lo,hi⟩ ⟨lo',hi'⟩ b x0 x1 hx0 hx1 pp0 pp1 hf _ _ a1,KX.2 ⟨lo,hi⟩ ⟨lo',hi'⟩ b x0 x1 hx0 hx1 pp0 pp1 hf _ _ b1,KT.2 ⟨lo,hi⟩ ⟨lo',hi'⟩ b x0 x1 hx0 hx1 pp0 pp1 hf _ _ c1]
  have ht0:toN x0.Lo.Man.Abs=some lo.Man.Abs:=by rw [hx0];exact Gv _
  have ht1:toN x0.Hi.Man.Abs=some hi.Man.Abs:=by rw [hx0];exact Gv _
  have ht2:toN x1.Lo.Man.Abs=some lo'.Man.Abs:=by rw [hx1];exact Gv _
  have ht3:toN x1.Hi.Man.Abs=some hi'.Man.Abs:=by rw [hx1];exact Gv _
  have d0:(⟨⟨x0.Lo.Man.Neg,lo.Man.Abs⟩,x0.Lo.Exp⟩:Ag)=lo:=by rw [hx0];rfl
  have d1:(⟨⟨x0.Hi.Man.Neg,hi.Man.Abs⟩,x0.Hi.Exp⟩:Ag)=hi:=by rw [hx0];rfl
  have d2:(⟨⟨x1.Lo.Man.Neg,lo'.Man.Abs⟩,x1.Lo.Exp⟩:Ag)=lo':=by rw [hx1];rfl
  have d3:(⟨⟨x1.Hi.Man.Neg,hi'.Man.Abs⟩,x1.Hi.Exp⟩:Ag)=hi':=by rw [hx1];rfl
  rw [show Fa true=some 0 from rfl,sB,if_pos rfl]
  simp only [ht0,ht1,ht2,ht3,sB,d0,d1,d2,d3]
  rw [a2,sB,b2,sB,b3,sB,c2,sB,sB]
  simp only [if_true,bb,sB]
  rw [LM _ _ (outOK a3).2 (outOK a4).2]
  simp only [if_true,bb,sB]
  rw [LM _ _ (outOK b4).2 (outOK b5).2]
  simp only [if_true,bb,sB]
  rw [LM _ _ (outOK c3).2 (outOK c4).2]
 ·have hf:(decide (1≤x2∧x2≤4096) && v0 && v1)=false:=by simpa using hok
  have he:¬(v0=true∧v1=true∧1≤x2∧x2≤4096):=by
   rintro ⟨k1,k2,k3⟩
   rw [k1,k2,decide_eq_true k3] at hf;cases hf
  rw [hf,show Fa false=some 1 from rfl,sB,if_neg (by decide),sB,LB.1 x0 x1 x2 v0 v1 pp0 pp1 he,KX.1 x0 x1 x2 v0 v1 pp0 pp1 he,KT.1 x0 x1 x2 v0 v1 pp0 pp1 he,sB,sB,sB]
  have a8:=agS_err 1 zS (by decide)
  unfold zS zD at a8 ⊢
  repeat (first | rfl | rw [a8] | simp only [if_true,bb,sB])
end Go.Proofs.Pq
