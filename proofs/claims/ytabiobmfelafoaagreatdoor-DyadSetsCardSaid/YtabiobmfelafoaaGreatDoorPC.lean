import Derived.Test.YtabiobmfelafoaaGreatDoorPB
import Derived.KernelRfl
namespace Go.Proofs.Pq
set_option linter.unusedVariables false
set_option linter.unusedSimpArgs false
set_option maxRecDepth 4000
open Go.Proofs Go.Sb Go.Proofs.Sbn Go.Proofs.Lf
theorem nValid {a:List Int} (ha:Dig a):GA a=some (decide (a.length≤1024∧limbs (val a)=a)):=by
 rw [←Nj ha];rfl
def toL (d:Ae):Au:=⟨⟨d.Man.Neg,limbs d.Man.Abs⟩,d.Exp⟩
def ofD (d:Ae):Al:=⟨d.Man,d.Exp⟩
structure VT (d:Ae):Prop where
 s:Sbn.sz d.Man.Abs≤1024
 z:d.Man.Abs=0→d.Man.Neg=false∧d.Exp=0
 o:d.Man.Abs≠0→d.Man.Abs%2=1∧-1048576≤d.Exp∧d.Exp≤1048576
theorem validT {d:Ae} (h:VT d):Be (toL d)=some true∧EW (toL d)=some true:=by
 obtain ⟨⟨s,n⟩,e⟩:=d
 obtain ⟨h1,h2,h3⟩:=h
 simp only at h1 h2 h3
 unfold Be EW Co FG toL
 simp only
 rw [show Bu (limbs n)=_ from Nj (Ap n),nValid (Ap n),sB,Ax,decide_eq_true ⟨h1,rfl⟩]
 by_cases h0:n=0
 ·obtain ⟨rfl,rfl⟩:=h2 h0
  subst h0
  exact ⟨rfl,rfl⟩
 ·obtain ⟨a1,a2,a3⟩:=h3 h0
  have hb:=rBit (Ap n) 0 (by decide)
  have hl:((limbs n).length:Int)≠0:=by
   intro h;exact h0 (HV (by have:Sbn.sz n=(limbs n).length:=rfl;omega))
  have hl2:(0:Int)<((limbs n).length:Int):=by omega
  rw [Ax,Nat.pow_zero,Nat.div_one,a1] at hb
  have hnt:nth (limbs n) 0=some ((n%4294967296:Nat):Int):=by
   rw [FU h0];unfold nth;rw [if_pos ⟨by omega,by simp only [List.length_cons];omega⟩];rfl
  have hb2:Ck (limbs n) 0=some 1:=hb
  have e1:(((n%4294967296:Nat):Int)%2)=1:=by omega
  rw [hb2,hnt]
  simp only [decide_eq_true hl2,sB,if_true,e1,decide_eq_true a2,decide_eq_true a3,if_neg hl]
  cases s<;>exact ⟨rfl,rfl⟩
theorem OU (x:Au) (hx:Dig x.Man.Abs):∃v,Be x=some v∧EW x=some v∧(v=true→∃d,x=toL d∧VT d):=by
 obtain ⟨⟨s,l⟩,e⟩:=x
 simp only at hx
 unfold Be EW Co FG
 simp only
 rw [show Bu l=_ from Nj hx,nValid hx,sB]
 by_cases hP:l.length≤1024∧limbs (val l)=l
 ·rw [decide_eq_true hP]
  obtain ⟨hl,hc⟩:=hP
  generalize val l=n at hc
  subst hc
  by_cases h0:n=0
  ·subst h0
   cases s
   ·exact ⟨decide (e=0),rfl,rfl,fun h=>⟨⟨⟨false,0⟩,e⟩,rfl,hl,fun _=>⟨rfl,of_decide_eq_true h⟩,fun h=>absurd rfl h⟩⟩
   ·exact ⟨false,rfl,rfl,fun h=>by cases h⟩
  ·have hb:=rBit (Ap n) 0 (by decide)
   have hz:Sbn.sz n=(limbs n).length:=rfl
   have hln:((limbs n).length:Int)≠0:=by
    intro h;exact h0 (HV (by omega))
   have hl2:(0:Int)<((limbs n).length:Int):=by omega
   rw [Ax,Nat.pow_zero,Nat.div_one] at hb
   have hnt:nth (limbs n) 0=some ((n%4294967296:Nat):Int):=by
    rw [FU h0];unfold nth;rw [if_pos ⟨by omega,by simp only [List.length_cons];omega⟩];rfl
   have hb2:Ck (limbs n) 0=some ((n%2:Nat):Int):=hb
   rw [hb2,hnt]
   have c1:(((n%2:Nat):Int)=1)=(n%2=1):=by apply propext;omega
   refine ⟨decide (n%2=1∧-1048576≤e∧e≤1048576),?_,?_,fun h=>?_⟩
   ·simp only [decide_eq_true hl2,sB,if_true,if_neg hln,c1]
    by_cases a1:n%2=1<;>by_cases a2 : -1048576≤e<;>by_cases a3:e≤1048576<;>cases s<;>simp [a1,a2,a3,sB]
   ·simp only [decide_eq_true hl2,sB,if_true,if_neg hln]
    have e1:(((n%4294967296:Nat):Int)%2)=((n%2:Nat):Int):=by omega
    simp only [e1,c1]
    by_cases a1:n%2=1<;>by_cases a2 : -1048576≤e<;>by_cases a3:e≤1048576<;>cases s<;>simp [a1,a2,a3,sB]
   ·have h:=of_decide_eq_true h
    exact ⟨⟨⟨s,n⟩,e⟩,rfl,hl,fun h=>absurd h h0,fun _=>h⟩
 ·rw [decide_eq_false hP]
  exact ⟨false,rfl,rfl,fun h=>by cases h⟩
theorem Po (s:Bool) (M:Nat) (e:Int):nz (s && decide (M≠0)) M e=nz s M e:=by
 unfold nz
 by_cases h:M=0
 ·rw [if_pos h,if_pos h]
 ·rw [if_neg h,if_neg h,decide_eq_true h,Bool.and_true]
def addZ (s:Bool) (A:Nat) (t:Bool) (C:Nat):Bool × Nat:=if s=t then (s,A+C) else if C≤A then (s,A - C) else (t,C - A)
theorem addZ_Z (s:Bool) (A:Nat) (t:Bool) (C:Nat):Z (addZ s A t C).1 (addZ s A t C).2=Z s A+Z t C:=by
 unfold addZ Z
 by_cases h:C≤A<;>cases s<;>cases t<;>simp [h]<;>omega
theorem Qi {a b:Nat} (ha:bl a≤400000) (hb:bl b≤400000):Sm (a+b):=by
 have:=PO ha hb
 unfold Sm;omega
theorem refSum (s t:Bool) (n m:Nat) (e f:Int) (hn:n≠0) (hm:m≠0) (hns:bl n≤40000) (hms:bl m≤40000) (hd:e - f≤300000) (hd':f - e≤300000)
  (he : -1000000≤e) (he':e≤1000000) (hf : -1000000≤f) (hf':f≤1000000) (A C:Nat) (hA:A=n*2^(e - min e f).toNat) (hC:C=m*2^(f - min e f).toNat) :
  BI ⟨⟨s,n⟩,e⟩ ⟨⟨t,m⟩,f⟩=some (toD (nz (addZ s A t C).1 (addZ s A t C).2 (min e f))):=by
 obtain ⟨a,ha⟩:∃a:Nat,e - min e f=(a:Int):=⟨(e - min e f).toNat,by omega⟩
 obtain ⟨c,hc⟩:∃c:Nat,f - min e f=(c:Int):=⟨(f - min e f).toNat,by omega⟩
 rw [ha] at hA;rw [hc] at hC
 rw [Int.toNat_natCast] at hA hC
 have hbA:bl A≤400000:=by rw [hA];have:=KP n a;omega
 have hbC:bl C≤400000:=by rw [hC];have:=KP m c;omega
 have hsA:Sm A:=by unfold Sm;omega
 have hsC:Sm C:=by unfold Sm;omega
 have hsg:∀a b:Nat,(0≤sgnc a b↔b≤a):=by intro a b;unfold sgnc;split<;>(try split)<;>omega
 unfold BI
 simp only [sz0]
 rw [if_neg hn,if_neg hm,w64 (x:=e - min e f) (by omega) (by omega),w64 (x:=f - min e f) (by omega) (by omega),ha,hc]
 unfold Fa
 simp only
 rw [rShl (by unfold Sm;omega) (by omega),sB,sB,rShl (by unfold Sm;omega) (by omega),sB,sB,←hA,←hC]
 unfold Gt addZ
 simp only
 by_cases hst:s=t
 ·have hs:=Qi hbA hbC
  rw [if_pos hst,if_pos hst,rAdd hsA hsC,sB,signed,sB,sB,refOf _ _ _ hs (by omega) (by omega),sB,Po]
 ·rw [if_neg hst,if_neg hst,rCmp hsA hsC,sB]
  by_cases h:C≤A
  ·rw [if_pos ((hsg _ _).2 h),if_pos h,rSub hsA h,sB,signed,sB,sB,refOf _ _ _ (Ig (Nat.sub_le _ _) hsA) (by omega) (by omega),sB,Po]
  ·rw [if_neg (fun h2=>h ((hsg _ _).1 h2)),if_neg h,rSub hsC (by omega),sB,signed,sB,sB,refOf _ _ _ (Ig (Nat.sub_le _ _) hsC) (by omega) (by omega),sB,Po]
theorem refMinus (s:Bool) (n:Nat) (e:Int):CH ⟨⟨s,n⟩,e⟩=some ⟨⟨!s && decide (n≠0),n⟩,e⟩:=by
 unfold CH Gu
 simp only [signed,sB]
 cases s<;>rfl
theorem refSign (s:Bool) (n:Nat) (e:Int):Ct ⟨⟨s,n⟩,e⟩=some (sv s n):=by
 unfold Ct sv
 simp only [sz0]
 split
 ·rfl
 ·split<;>rfl
theorem refSign_nz (s:Bool) (n:Nat) (e:Int):Ct (toD (nz s n e))=some (sv s n):=by
 rw [←PR s n e,sign]
 exact refSign _ _ _
theorem Ny (s:Bool) (n:Nat):(sv s n<0↔Z s n<0)∧(0<sv s n↔0<Z s n):=by
 unfold sv Z
 by_cases h:n=0
 ·subst h;cases s<;>simp
 ·rw [if_neg h];cases s<;>simp<;>omega
theorem Nm (s t:Bool) (n m:Nat) (e f:Int) (hns:bl n≤40000) (hms:bl m≤40000) (hd:e - f≤300000) (hd':f - e≤300000)
  (he : -1000000≤e) (he':e≤1000000) (hf : -1000000≤f) (hf':f≤1000000) :
  ∃k,Bi ⟨⟨s,n⟩,e⟩ ⟨⟨t,m⟩,f⟩=some k∧(k = -1∨k=0∨k=1)∧∀i j:Nat,e - f=(i:Int) - j→
   (k<0↔Z s n*(2^i:Nat)<Z t m*(2^j:Nat))∧(0<k↔Z t m*(2^j:Nat)<Z s n*(2^i:Nat)):=by
 have h01:∀s n,sv s n = -1∨sv s n=0∨sv s n=1:=by intro s n;unfold sv;split<;>(try split)<;>simp
 have hpos:∀i:Nat,(0:Int)<(2^i:Nat):=fun i=>by have:=Nat.two_pow_pos i;omega
 unfold Bi
 rw [refMinus,sB]
 by_cases hn:n=0
 ·unfold BI
  simp only [sz0]
  rw [if_pos hn,sB,refSign,sB]
  refine ⟨_,rfl,h01 _ _,fun i j hij=>?_⟩
  rw [(Ny _ _).1,(Ny _ _).2,hn]
  have h0:Z s 0=0:=by cases s<;>rfl
  rw [h0,Int.zero_mul]
  have hq:=hpos j
  have h1:Z (!t && decide (m≠0)) m = - Z t m:=by
   unfold Z;by_cases h:m=0
   ·subst h;cases t<;>rfl
   ·cases t<;>simp [h]
  rw [h1]
  constructor
  ·constructor
   ·intro h;exact Int.mul_pos (by omega) hq
   ·intro h;have:=Int.pos_of_mul_pos_left h hq;omega
  ·constructor
   ·intro h;exact Int.mul_neg_of_neg_of_pos (by omega) hq
   ·intro h
    rcases Int.lt_trichotomy (Z t m) 0 with h2 | h2 | h2
    ·omega
    ·rw [h2,Int.zero_mul] at h;omega
    ·have:=Int.mul_pos h2 hq;omega
 ·by_cases hm:m=0
  ·unfold BI
   simp only [sz0]
   rw [if_neg hn,if_pos hm,sB,refSign,sB]
   refine ⟨_,rfl,h01 _ _,fun i j hij=>?_⟩
   rw [(Ny _ _).1,(Ny _ _).2,hm]
   have h0:Z t 0=0:=by cases t<;>rfl
   rw [h0,Int.zero_mul]
   have hq:=hpos i
   constructor
   ·constructor
    ·intro h;exact Int.mul_neg_of_neg_of_pos h hq
    ·intro h
     rcases Int.lt_trichotomy (Z s n) 0 with h2 | h2 | h2
     ·exact h2
     ·rw [h2,Int.zero_mul] at h;omega
     ·have:=Int.mul_pos h2 hq;omega
   ·constructor
    ·intro h;exact Int.mul_pos h hq
    ·intro h
     rcases Int.lt_trichotomy (Z s n) 0 with h2 | h2 | h2
     ·have:=Int.mul_neg_of_neg_of_pos h2 hq;omega
     ·rw [h2,Int.zero_mul] at h;omega
     ·exact h2
  ·have hbm:(!t && decide (m≠0)) = !t:=by rw [decide_eq_true hm,Bool.and_true]
   rw [hbm,refSum s (!t) n m e f hn hm hns hms hd hd' he he' hf hf' _ _ rfl rfl,sB,refSign_nz,sB]
   refine ⟨_,rfl,h01 _ _,fun i j hij=>?_⟩
   rw [(Ny _ _).1,(Ny _ _).2,addZ_Z,QU,QU]
   have h1:Z (!t) m = - Z t m:=by unfold Z;cases t<;>simp
   rw [h1,Int.neg_mul]
   obtain ⟨a,ha⟩:∃a:Nat,(e - min e f).toNat=a:=⟨_,rfl⟩
   obtain ⟨c,hc⟩:∃c:Nat,(f - min e f).toNat=c:=⟨_,rfl⟩
   rw [ha,hc]
   have k1:=JV (X:=Z s n) (Y:=Z t m) (a:=a) (c:=c) (i:=i) (j:=j) (by omega)
   have k2:=JV (X:=Z t m) (Y:=Z s n) (a:=c) (c:=a) (i:=j) (j:=i) (by omega)
   generalize Z s n*(2^a:Nat)=X at *
   generalize Z t m*(2^c:Nat)=Y at *
   generalize Z s n*(2^i:Nat)=X' at *
   generalize Z t m*(2^j:Nat)=Y' at *
   omega
theorem VT.ok {d:Ae} (h:VT d) (hl : -5000≤d.Exp) (hu:d.Exp≤5000) (hs:Sbn.sz d.Man.Abs≤600):Ok d:=
 ⟨fun h0=>(h.z h0).1,by have:=IL hs;omega,hl,hu⟩
theorem outOK {r:Al} (h:Cb r):Ep r=some (.ok (toD r))∧VT (toD r):=by
 obtain ⟨h1,h2,h3,s,M,e,rfl⟩:=h
 have hS:Sm (nz s M e).m.Abs:=by unfold Sm;omega
 have hz:Sbn.sz (nz s M e).m.Abs≤1000:=JN (by omega)
 have hv:VT (toD (nz s M e)):=by
  refine ⟨Nat.le_trans hz (by decide),fun h=>?_,fun h=>?_⟩
  ·have h0:M=0:=by
    by_cases h0:M=0
    ·exact h0
    ·exfalso
     unfold toD nz at h
     rw [if_neg h0] at h
     simp only at h
     obtain ⟨q,hq⟩:=Mp M
     generalize tz M=z at *
     rw [hq,Nat.mul_div_cancel _ (Nat.two_pow_pos z)] at h
     rw [h,Nat.zero_mul] at hq;exact h0 hq
   unfold toD nz
   rw [if_pos h0]
   exact ⟨rfl,rfl⟩
  ·have h0:M≠0:=by
    intro h0;apply h;unfold toD nz;rw [if_pos h0]
   refine ⟨?_,by show _≤(nz s M e).e;omega,by show (nz s M e).e≤_;omega⟩
   unfold toD nz
   rw [if_neg h0]
   simp only
   obtain ⟨q,hq,_⟩:=GQ h0
   generalize tz M=z at *
   rw [hq,Nat.mul_div_cancel_left _ (Nat.two_pow_pos z)];omega
 refine ⟨?_,hv⟩
 have hneg:(if (nz s M e).m.Neg=true then some (decide (0<(Sbn.sz (nz s M e).m.Abs:Int))) else some false)=some (nz s M e).m.Neg:=by
  simp only [LN]
  by_cases h0:(nz s M e).m.Abs=0
  ·have:=(hv.z h0).1
   have h5:(nz s M e).m.Neg=false:=this
   rw [h5];rfl
  ·rw [decide_eq_true h0];cases (nz s M e).m.Neg<;>rfl
 unfold Ep BX
 generalize nz s M e=r at *
 rw [if_pos (by omega),sB,decide_eq_true (show r.e≤1048576 by omega),if_pos rfl,sB,decide_eq_true (show -1048576≤r.e by omega),if_neg (by simp)]
 show (Dz r.m.Abs).bind _=_
 rw [wClone hS,sB]
 unfold IC
 simp only
 rw [hneg,sB,sB]
 rfl
theorem sameInt (a:Af) (h:Sm a.Abs):EZ a a=some true:=by
 unfold EZ
 rw [if_pos rfl,same _ _ h,decide_eq_true rfl];rfl
theorem sameD (a:Ae) (h:Sm a.Man.Abs):BB a a=some true:=by
 unfold BB
 rw [sameInt _ h,sB,if_pos rfl,decide_eq_true rfl];rfl
def zD:Ae:=⟨⟨false,0⟩,0⟩
def zS:Aj:=⟨zD,zD⟩
theorem sm0:Sm 0:=by unfold Sm;decide
theorem VT.sm {d:Ae} (h:VT d):Sm d.Man.Abs:=by have:=IL h.s;unfold Sm;omega
theorem sameS (a:Aj) (h:Sm a.Lo.Man.Abs) (h':Sm a.Hi.Man.Abs):Bl a a=some true:=by
 unfold Bl
 rw [sameD _ h,sB,if_pos rfl,sameD _ h'];rfl
theorem LX (e:Int) (x:Aj) (he:e≠0):AZ zS e e x=some true:=by
 unfold AZ
 rw [if_pos he,if_pos rfl]
 show ((Bl zS zS).bind fun r=>some r).bind _=_
 rw [sameS zS sm0 sm0];rfl
theorem Ol (lo hi:Ae) (h:VT lo) (h':VT hi):AZ ⟨lo,hi⟩ 0 0 ⟨lo,hi⟩=some true:=by
 unfold AZ FW
 rw [if_neg (by decide)]
 simp only
 rw [show Be ⟨⟨lo.Man.Neg,limbs lo.Man.Abs⟩,lo.Exp⟩=some true from (validT h).1,sB,if_neg (by simp),show Be ⟨⟨hi.Man.Neg,limbs hi.Man.Abs⟩,hi.Exp⟩=some true from (validT h').1,sB,sB,if_neg (by simp),sB,if_pos rfl]
 rw [sameS ⟨lo,hi⟩ h.sm h'.sm];rfl
theorem HG (n:Nat):toN (limbs n)=some n:=JK n
theorem proper_ (x:Am) (h0:Dig x.Lo.Man.Abs) (h1:Dig x.Hi.Man.Abs) (k0:∀d,x.Lo=toL d→VT d→Ok d) (k1:∀d,x.Hi=toL d→VT d→Ok d) :
  ∃v,Cl x=some v∧Bj x=some v∧(v=true→∃lo hi,x=⟨toL lo,toL hi⟩∧VT lo∧VT hi∧Ok lo∧Ok hi∧LeV (ofD lo) (ofD hi)):=by
 obtain ⟨a,b⟩:=x
 obtain ⟨v0,e0,f0,g0⟩:=OU a h0
 obtain ⟨v1,e1,f1,g1⟩:=OU b h1
 unfold Cl Bj
 simp only
 rw [e0,f0,sB,sB]
 cases v0
 ·exact ⟨false,rfl,rfl,fun h=>by cases h⟩
 ·rw [e1,f1]
  cases v1
  ·exact ⟨false,rfl,rfl,fun h=>by cases h⟩
  ·obtain ⟨lo,rfl,hlo⟩:=g0 rfl
   obtain ⟨hi,rfl,hhi⟩:=g1 rfl
   have o0:=k0 lo rfl hlo
   have o1:=k1 hi rfl hhi
   obtain ⟨⟨s,n⟩,e⟩:=lo
   obtain ⟨⟨t,m⟩,f⟩:=hi
   obtain ⟨k,hk,_,hk2⟩:=Nm s t n m e f (Nat.le_trans o0.s (by decide)) (Nat.le_trans o1.s (by decide)) (by have:=o0.u;have:=o1.l;simp only at *;omega) (by have:=o1.u;have:=o0.l;simp only at *;omega) (by have:=o0.l;simp only at *;omega) (by have:=o0.u;simp only at *;omega) (by have:=o1.l;simp only at *;omega) (by have:=o1.u;simp only at *;omega)
   obtain ⟨c,hc,_,hc2⟩:=cmpV ⟨⟨s,n⟩,e⟩ ⟨⟨t,m⟩,f⟩ o0.s o1.s (by have:=o0.l;simp only at *;omega) (by have:=o0.u;simp only at *;omega) (by have:=o1.l;simp only at *;omega) (by have:=o1.u;simp only at *;omega)
   have hkc:k≤0↔LeV ⟨⟨s,n⟩,e⟩ ⟨⟨t,m⟩,f⟩:=by
    constructor
    ·intro h i j hij
     exact Int.not_lt.1 fun h5=>by have:=((hk2 i j hij).2).2 h5;omega
    ·intro h
     have h5:=h (e - f).toNat (-(e - f)).toNat (by simp only;omega)
     have h6:=(hk2 (e - f).toNat (-(e - f)).toNat (by omega)).2
     refine Int.not_lt.1 fun h7=>?_
     have:=h6.1 h7
     simp only at h5
     omega
   refine ⟨decide (k≤0),?_,?_,fun h=>⟨_,_,rfl,hlo,hhi,o0,o1,hkc.1 (of_decide_eq_true h)⟩⟩
   ·unfold toL
    simp only [if_true,sB,JK]
    rw [hk,sB]
    rfl
   ·unfold toL
    simp only [if_true,sB,JK,Fy,Ix]
    rw [hc,sB]
    congr 1
    apply decide_eq_decide.2
    rw [hkc,←hc2];omega
theorem fineP (b:Int):EF b=if 1≤b∧b≤4096 then some (.ok ()) else some (.error 1):=by
 unfold EF BX
 by_cases h1:1≤b<;>by_cases h2:b≤4096<;>simp [h1,h2,sB,mb]
theorem fineL (b:Int):Dr b=some (decide (1≤b∧b≤4096)):=by
 unfold Dr
 by_cases h1:1≤b<;>by_cases h2:b≤4096<;>simp [h1,h2,sB]
theorem signs {lo hi:Ae} (h:LeV (ofD lo) (ofD hi)):(0<sv lo.Man.Neg lo.Man.Abs→0<sv hi.Man.Neg hi.Man.Abs)∧(sv hi.Man.Neg hi.Man.Abs<0→sv lo.Man.Neg lo.Man.Abs<0):=by
 have h5:=h (lo.Exp - hi.Exp).toNat (-(lo.Exp - hi.Exp)).toNat (by show lo.Exp - hi.Exp=_;omega)
 have hp1:(0:Int)<(2^(lo.Exp - hi.Exp).toNat:Nat):=by have:=Nat.two_pow_pos (lo.Exp - hi.Exp).toNat;omega
 have hp2:(0:Int)<(2^(-(lo.Exp - hi.Exp)).toNat:Nat):=by have:=Nat.two_pow_pos (-(lo.Exp - hi.Exp)).toNat;omega
 have h5:Z lo.Man.Neg lo.Man.Abs*(2^(lo.Exp - hi.Exp).toNat:Nat)≤Z hi.Man.Neg hi.Man.Abs*(2^(-(lo.Exp - hi.Exp)).toNat:Nat):=h5
 generalize ((2^(lo.Exp - hi.Exp).toNat:Nat):Int)=P at *
 generalize ((2^(-(lo.Exp - hi.Exp)).toNat:Nat):Int)=Q at *
 rw [(Ny _ _).2,(Ny _ _).2,(Ny _ _).1,(Ny _ _).1]
 generalize Z lo.Man.Neg lo.Man.Abs=A at *
 generalize Z hi.Man.Neg hi.Man.Abs=C at *
 constructor
 ·intro hA
  have h6:=Int.mul_pos hA hp1
  exact Int.pos_of_mul_pos_left (show 0<C*Q by omega) hp2
 ·intro hC
  have h6:=Int.mul_neg_of_neg_of_pos hC hp2
  rcases Int.lt_trichotomy A 0 with h2 | h2 | h2
  ·exact h2
  ·rw [h2,Int.zero_mul] at h5;omega
  ·have:=Int.mul_pos h2 hp1;omega
theorem RV (s:Bool) (n:Nat):sv s n = -1∨sv s n=0∨sv s n=1:=by unfold sv;split<;>(try split)<;>simp
theorem sanity:En=some true:=by kernel_rfl
theorem refSide (lo hi:Ae):Fb ⟨lo,hi⟩=some (if 0<sv lo.Man.Neg lo.Man.Abs then 1 else if sv hi.Man.Neg hi.Man.Abs<0 then -1 else 0):=by
 unfold Fb
 rw [show Ct (Aj.Lo ⟨lo,hi⟩)=some (sv lo.Man.Neg lo.Man.Abs) from refSign _ _ _,sB]
 split
 ·rfl
 ·rw [show Ct (Aj.Hi ⟨lo,hi⟩)=some (sv hi.Man.Neg hi.Man.Abs) from refSign _ _ _,sB]
  split<;>rfl
theorem bb (o:Option Bool):((o.bind fun r=>some r).bind fun m=>some m)=o:=by cases o<;>rfl
theorem round1 (s:Bool) (n b:Nat) (e dir:Int) (hn:bl n≤400000) (hb:1≤b) (h:b+1≤bl n) (he : -100000000≤e) (he':e≤100000000) :
  Bt ⟨⟨s,n⟩,e⟩ (b:Int) dir false=some (rn s n (2^(bl n - b)) (e+((bl n - b:Nat):Int)) dir):=by
 have hn0:n≠0:=by intro h0;subst h0;rw [HU] at h;omega
 have key:∀(n:Nat) (e:Int),bl n≤400001→b+2≤bl n→-100000001≤e→e≤100000001→Bt ⟨⟨s,n⟩,e⟩ (b:Int) dir false=some (rn s n (2^(bl n - b)) (e+((bl n - b:Nat):Int)) dir):=by
  intro n e h1 h2 h3 h4
  have:=Ox s n e b dir n 1 (by unfold Sm;omega) (by decide) (Nat.div_one n).symm hb h2 (by omega) (by omega)
  rw [show (decide (n%1≠0))=false by simp [Nat.mod_one],Nat.one_mul] at this
  exact this
 by_cases h2:b+2≤bl n
 ·exact key n e (by omega) h2 (by omega) (by omega)
 ·have hbl:=Pa (k:=1) hn0
  have hk:=key (n*2^1) (e - 1) (by omega) (by omega) (by omega) (by omega)
  have e1:Bt ⟨⟨s,n⟩,e⟩ (b:Int) dir false=Bt ⟨⟨s,n*2^1⟩,e - 1⟩ (b:Int) dir false:=by
   unfold Bt
   simp only
   rw [wBits (by unfold Sm;omega),wBits (by unfold Sm;omega),sB,sB,w64 (x:=(bl n:Int) - (b:Int)) (by omega) (by omega),w64 (x:=(bl (n*2^1):Int) - (b:Int)) (by omega) (by omega)]
   rw [show (bl n:Int) - (b:Int)=1 by omega,show (bl (n*2^1):Int) - (b:Int)=2 by omega]
   unfold Eo
   simp only
   rw [show wi64 (2 - (1:Int))=((1:Nat):Int) from by decide,wShl (by unfold Sm;omega) (by decide),w64 (x:=e - 2) (by omega) (by omega),w64 (x:=e - 2+1) (by omega) (by omega),show e - 2+1=e - 1 by omega]
   rfl
  rw [e1,hk]
  congr 1
  rw [hbl,show bl n+1 - b=(bl n - b)+1 by omega]
  rw [NN (N:=n*2^1) (D:=2^(bl n - b+1)) (N':=n) (D':=2^(bl n - b)) _ dir (Nat.two_pow_pos _) (Nat.two_pow_pos _) (by rw [Nat.pow_succ 2 (bl n - b),Nat.pow_one];simp only [Nat.mul_assoc,Nat.mul_comm,Nat.mul_left_comm])]
  congr 1
  omega
theorem NV {s:Bool} {q:Nat} {e:Int} (h:q%2=1):nz s q e=⟨⟨s,q⟩,e⟩:=by
 have h0:q≠0:=by omega
 have hz:tz q=0:=PT (m:=q/2) (by rw [Nat.pow_zero,Nat.one_mul];omega)
 unfold nz
 rw [if_neg h0,hz,Nat.pow_zero,Nat.div_one]
 congr 1
 simp
theorem canonV {d:Ae} (h:VT d):ofD d=nz d.Man.Neg d.Man.Abs d.Exp:=by
 obtain ⟨⟨s,n⟩,e⟩:=d
 by_cases h0:n=0
 ·obtain ⟨h1,h2⟩:=h.z h0
  simp only at h1 h2
  subst h0 h1 h2;rfl
 ·exact (NV (h.o h0).1).symm
theorem Pu (s:Bool) (M b:Nat) (e dir:Int) (hM:bl M≤20000) (hb:1≤b) (hb':b≤4096) (he : -900000≤e) (he':e≤900000) :
  ∃r,Bt (nz s M e) (b:Int) dir false=some r∧BN (toD (nz s M e)) (b:Int) dir=some (toD r)∧Cb r:=by
 by_cases hM0:M=0
 ·subst hM0
  refine ⟨⟨⟨false,0⟩,0⟩,?_,?_,by decide,by decide,by decide,false,0,0,rfl⟩
  ·unfold nz
   rw [if_pos rfl]
   unfold Bt
   rw [wBits (show Sm 0 from sm0),sB,HU,w64 (x:=((0:Nat):Int) - (b:Int)) (by omega) (by omega),if_pos (by omega),sB,if_pos (by decide)]
   rfl
  ·unfold nz toD
   rw [if_pos rfl]
   unfold BN
   simp only
   rw [rBits sm0,sB,HU,w64 (x:=((0:Nat):Int) - (b:Int)) (by omega) (by omega),if_pos (by omega)]
 ·obtain ⟨q,hq,hqb⟩:=GQ hM0
  have hp:=Nat.two_pow_pos (tz M)
  have hqd:M/2^tz M=2*q+1:=by generalize tz M=z at *;rw [hq,Nat.mul_div_cancel_left _ hp]
  have hbl:bl M=bl (2*q+1)+tz M:=by
   have:=Pa (n:=2*q+1) (k:=tz M) (by omega)
   rw [Nat.mul_comm] at this
   generalize tz M=z at *;rw [hq];exact this
  have hnz:nz s M e=⟨⟨s,2*q+1⟩,e+tz M⟩:=by unfold nz;rw [if_neg hM0,hqd]
  by_cases h:bl (2*q+1)≤b
  ·refine ⟨nz s M e,?_,?_,?_⟩
   ·rw [hnz]
    unfold Bt
    rw [wBits (by unfold Sm;simp only;omega),sB,w64 (x:=(bl (2*q+1):Int) - (b:Int)) (by omega) (by omega),if_pos (by omega),sB,if_pos (by decide),normal _ _ _ (by unfold Sm;omega) (by simp only;omega) (by simp only;omega),NV (by omega)]
    rfl
   ·rw [hnz]
    unfold BN toD
    simp only
    rw [rBits (by unfold Sm;omega),sB,w64 (x:=(bl (2*q+1):Int) - (b:Int)) (by omega) (by omega),if_pos (by omega)]
   ·rw [hnz]
    refine ⟨by simp only;omega,by simp only;omega,by simp only;omega,s,M,e,hnz.symm⟩
  ·have hr:=refRound s (2*q+1) b (e+tz M) dir (by omega) hb (by omega) (by omega) (by omega)
   rw [NV (by omega)] at hr
   have hpr:=round1 s (2*q+1) b (e+tz M) dir (by omega) hb (by omega) (by omega) (by omega)
   refine ⟨_,by rw [hnz];exact hpr,by rw [hnz];exact hr,?_⟩
   have hqn:2*q+1≠0:=by omega
   have h2:=(FV hqn).2.1
   have h3:(2*q+1)/2^(bl (2*q+1) - b)<2^b:=by
    rw [Nat.div_lt_iff_lt_mul (Nat.two_pow_pos _),←Nat.pow_add,show b+(bl (2*q+1) - b)=bl (2*q+1) by omega];exact h2
   have h4:∀c:Bool,(if c=true then 1 else 0)≤1:=by intro c;cases c<;>decide
   unfold rn
   generalize hG:(2*q+1)/2^(bl (2*q+1) - b)+(if up (decide ((2*q+1)%2^(bl (2*q+1) - b)=0)) (sgnc (2*((2*q+1)%2^(bl (2*q+1) - b))) (2^(bl (2*q+1) - b))) (decide ((2*q+1)/2^(bl (2*q+1) - b)%2=1)) s dir=true then 1 else 0)=G
   have hGb:G≤2^b:=by rw [←hG];exact Nat.le_trans (Nat.add_le_add_left (h4 _) _) h3
   have hGl:bl G≤b+1:=by rw [ER,Nat.pow_succ];have:=Nat.two_pow_pos b;omega
   refine ⟨?_,?_,?_,s,G,_,rfl⟩
   all_goals
    unfold nz
    by_cases hG0:G=0
    ·rw [if_pos hG0];simp only;first | (rw [HU];omega) | omega
    ·rw [if_neg hG0];simp only
     have:=Ld G (2^tz G)
     obtain ⟨_,_,hq2⟩:=GQ hG0
     omega
theorem plusP (s t:Bool) (n m:Nat) (e f:Int) (hn:n≠0) (hm:m≠0) (hns:bl n≤40000) (hms:bl m≤40000) (hd:e - f≤300000) (hd':f - e≤300000)
  (he : -1000000≤e) (he':e≤1000000) (hf : -1000000≤f) (hf':f≤1000000) (A C:Nat) (hA:A=n*2^(e - min e f).toNat) (hC:C=m*2^(f - min e f).toNat) :
  CA ⟨⟨s,n⟩,e⟩ ⟨⟨t,m⟩,f⟩=some (nz (addZ s A t C).1 (addZ s A t C).2 (min e f)):=by
 obtain ⟨a,ha⟩:∃a:Nat,e - min e f=(a:Int):=⟨(e - min e f).toNat,by omega⟩
 obtain ⟨c,hc⟩:∃c:Nat,f - min e f=(c:Int):=⟨(f - min e f).toNat,by omega⟩
 rw [ha] at hA;rw [hc] at hC
 rw [Int.toNat_natCast] at hA hC
 have hbA:bl A≤400000:=by rw [hA];have:=KP n a;omega
 have hbC:bl C≤400000:=by rw [hC];have:=KP m c;omega
 have hsA:Sm A:=by unfold Sm;omega
 have hsC:Sm C:=by unfold Sm;omega
 have hcp:=@Js A C
 unfold CA BC
 simp only [sz0,LN]
 rw [if_neg hn,sB,if_neg hm,sB,if_pos hn,if_pos hm]
 rw [w64 (x:=e - min e f) (by omega) (by omega),w64 (x:=f - min e f) (by omega) (by omega),ha,hc]
 unfold Eo
 simp only
 rw [wShl (by unfold Sm;omega) (by omega),sB,sB,sB,wShl (by unfold Sm;omega) (by omega),sB,sB,sB,←hA,←hC]
 unfold Ei FN addZ
 simp only
 by_cases hst:s=t
 ·rw [if_pos hst,if_pos hst,wAdd hsA hsC,sB,sB,normal _ _ _ (Qi hbA hbC) (by omega) (by omega)];rfl
 ·rw [if_neg hst,if_neg hst,wCmp hsA hsC,sB]
  by_cases h:C≤A
  ·have:¬cmpw A C<0:=fun h2=>by have:=hcp.1 h2;omega
   rw [if_pos (by omega),wSub hsA h,sB,sB,normal _ _ _ (Ig (Nat.sub_le _ _) hsA) (by omega) (by omega),if_pos h];rfl
  ·have:cmpw A C<0:=hcp.2 (by omega)
   rw [if_neg (by omega),wSub hsC (by omega),sB,sB,normal _ _ _ (Ig (Nat.sub_le _ _) hsC) (by omega) (by omega),if_neg h];rfl
theorem plus0l (s t:Bool) (m:Nat) (e f:Int) (hms:bl m≤40000) (hf : -1000000≤f) (hf':f≤1000000) (he : -1000000≤e) (he':e≤1000000):CA ⟨⟨s,0⟩,e⟩ ⟨⟨t,m⟩,f⟩=some (nz t m f):=by
 have hmS:Sm m:=by unfold Sm;omega
 have hc:=@Js 0 m
 unfold CA BC
 simp only [sz0,LN]
 rw [if_pos trivial,sB]
 by_cases hm:m=0
 ·subst hm
  rw [if_pos rfl,sB]
  unfold Ei FN CX
  simp only [ne_eq,not_true_eq_false,if_false,sB,sz0]
  cases s<;>cases t<;>rfl
 ·rw [if_neg hm,sB,if_pos hm,w64 (x:=f - f) (by omega) (by omega),show f - f=((0:Nat):Int) by omega]
  unfold Eo
  simp only [ne_eq,not_true_eq_false,if_false,sB]
  rw [wShl hmS (by decide),Nat.pow_zero,Nat.mul_one,sB]
  unfold Ei FN
  simp only [sB]
  by_cases hst:s=t
  ·rw [if_pos hst,wAdd sm0 hmS,sB,sB,Nat.zero_add,normal _ _ _ hmS (by omega) (by omega),hst];rfl
  ·have:cmpw 0 m<0:=hc.2 (by omega)
   rw [if_neg hst,wCmp sm0 hmS,sB,if_neg (by omega),wSub hmS (by omega),sB,sB,Nat.sub_zero,normal _ _ _ hmS (by omega) (by omega)];rfl
theorem plus0r (s t:Bool) (n:Nat) (e f:Int) (hn:n≠0) (hns:bl n≤40000) (he : -1000000≤e) (he':e≤1000000):CA ⟨⟨s,n⟩,e⟩ ⟨⟨t,0⟩,f⟩=some (nz s n e):=by
 have hnS:Sm n:=by unfold Sm;omega
 have hc:=@Js n 0
 unfold CA BC
 simp only [sz0,LN]
 rw [if_neg hn,sB,if_pos trivial,sB,if_pos hn,w64 (x:=e - e) (by omega) (by omega),show e - e=((0:Nat):Int) by omega]
 unfold Eo
 simp only [ne_eq,not_true_eq_false,if_false,sB]
 rw [wShl hnS (by decide),Nat.pow_zero,Nat.mul_one,sB]
 unfold Ei FN
 simp only [sB]
 by_cases hst:s=t
 ·rw [if_pos hst,wAdd hnS sm0,sB,sB,Nat.add_zero,normal _ _ _ hnS (by omega) (by omega)];rfl
 ·have:¬cmpw n 0<0:=fun h2=>by have:=hc.1 h2;omega
  rw [if_neg hst,wCmp hnS sm0,sB,if_pos (by omega),wSub hnS (by omega),sB,sB,Nat.sub_zero,normal _ _ _ hnS (by omega) (by omega)];rfl
structure Qg (y:Al) (z:Ae):Prop where
 a:y.m.Abs=z.Man.Abs
 e:y.e=z.Exp
 s:z.Man.Abs≠0→y.m.Neg=z.Man.Neg
 c:toD (nz y.m.Neg y.m.Abs y.e)=z
theorem Qg.of {d:Ae} (h:VT d):Qg (ofD d) d:=⟨rfl,rfl,fun _=>rfl,by
 have h2:nz d.Man.Neg d.Man.Abs d.Exp=ofD d:=(canonV h).symm
 show toD (nz d.Man.Neg d.Man.Abs d.Exp)=d
 rw [h2];rfl⟩
theorem sumC (x:Ae) (y:Al) (z:Ae) (hx:VT x) (h:Qg y z) (hxs:bl x.Man.Abs≤9000) (hys:bl z.Man.Abs≤9000) (h1 : -5000≤x.Exp) (h2:x.Exp≤5000) (h3 : -5000≤z.Exp) (h4:z.Exp≤5000) :
  ∃σ M E,CA (ofD x) y=some (nz σ M E)∧BI x z=some (toD (nz σ M E))∧bl M≤20000∧-5000≤E∧E≤5000:=by
 obtain ⟨⟨s,n⟩,e⟩:=x
 obtain ⟨⟨t,m⟩,f⟩:=y
 obtain ⟨⟨t',m'⟩,f'⟩:=z
 obtain ⟨ha,hee,hs,hc⟩:=h
 simp only at ha hee hs hc hxs hys h1 h2 h3 h4
 subst ha hee
 by_cases hn:n=0
 ·subst hn
  refine ⟨t,m,f,plus0l s t m e f (by omega) (by omega) (by omega) (by omega) (by omega),?_,by omega,h3,h4⟩
  unfold BI
  simp only [sz0]
  rw [if_pos trivial,hc]
 ·by_cases hm:m=0
  ·subst hm
   refine ⟨s,n,e,plus0r s t n e f hn (by omega) (by omega) (by omega),?_,by omega,h1,h2⟩
   unfold BI
   simp only [sz0]
   rw [if_neg hn,if_pos trivial]
   have:=(Qg.of hx).c
   exact congrArg some this.symm
  ·have hst:=hs hm
   subst hst
   refine ⟨_,_,_,plusP s t n m e f hn hm (by omega) (by omega) (by omega) (by omega) (by omega) (by omega) (by omega) (by omega) _ _ rfl rfl,refSum s t n m e f hn hm (by omega) (by omega) (by omega) (by omega) (by omega) (by omega) (by omega) (by omega) _ _ rfl rfl,?_,by omega,by omega⟩
   obtain ⟨a,ha⟩:∃a:Nat,(e - min e f).toNat=a:=⟨_,rfl⟩
   obtain ⟨c,hc⟩:∃c:Nat,(f - min e f).toNat=c:=⟨_,rfl⟩
   rw [ha,hc]
   have e1:bl (n*2^a)≤19000:=by have:=KP n a;omega
   have e2:bl (m*2^c)≤19000:=by have:=KP m c;omega
   generalize n*2^a=A at *
   generalize m*2^c=C at *
   have l0:=PO e1 e2
   have hsum:∀X:Nat,X≤A+C→bl X≤20000:=fun X hX=>by have:=Oc hX;omega
   apply hsum
   unfold addZ
   split
   ·exact Nat.le_refl _
   ·split<;>simp only<;>omega
theorem nearT (x y:Al) (hxs:bl x.m.Abs≤9000) (hys:bl y.m.Abs≤9000) (h1 : -5000≤x.e) (h2:x.e≤5000) (h3 : -5000≤y.e) (h4:y.e≤5000):Ji x y=some true:=by
 obtain ⟨⟨s,n⟩,e⟩:=x
 obtain ⟨⟨t,m⟩,f⟩:=y
 simp only at hxs hys h1 h2 h3 h4
 unfold Ji
 rw [sign,sB]
 by_cases hn:n=0
 ·rw [if_pos (by rw [if_pos hn])];rfl
 ·rw [if_neg (by rw [if_neg hn];split<;>decide),sign,sB,sB]
  by_cases hm:m=0
  ·rw [if_pos hm];rfl
  ·rw [decide_eq_false (by rw [if_neg hm];split<;>decide),if_neg (by decide)]
   unfold FK
   simp only
   rw [wBits (show Sm n by unfold Sm;omega),sB,sB,wBits (show Sm m by unfold Sm;omega),sB,sB]
   rw [w64 (x:=(bl n:Int) - 1) (by omega) (by omega),w64 (x:=(bl n:Int) - 1+e) (by omega) (by omega),w64 (x:=(bl m:Int) - 1) (by omega) (by omega),w64 (x:=(bl m:Int) - 1+f) (by omega) (by omega)]
   rw [w64 (x:=max ((bl n:Int) - 1+e) ((bl m:Int) - 1+f) - min e f) (by omega) (by omega),decide_eq_true (by omega)]
theorem minusSame {d:Ae} (h:VT d):∃z,Fs (ofD d)=some ⟨⟨!d.Man.Neg,d.Man.Abs⟩,d.Exp⟩∧CH d=some z∧Qg ⟨⟨!d.Man.Neg,d.Man.Abs⟩,d.Exp⟩ z∧z.Man.Abs=d.Man.Abs∧z.Exp=d.Exp:=by
 obtain ⟨⟨s,n⟩,e⟩:=d
 refine ⟨_,?_,refMinus s n e,⟨rfl,rfl,fun h0=>?_,?_⟩,rfl,rfl⟩
 ·unfold Fs GR ofD;cases s<;>rfl
 ·show (!s)=(!s && decide (n≠0));rw [decide_eq_true h0,Bool.and_true]
 ·show toD (nz (!s) n e)=_
  by_cases h0:n=0
  ·obtain ⟨h1,h2⟩:=h.z h0
   simp only at h1 h2
   subst h0 h1 h2;rfl
  ·rw [NV (h.o h0).1];unfold toD;rw [decide_eq_true h0,Bool.and_true]
theorem Lw {lo hi:Al} (h:Cb lo) (h':Cb hi):Cv ⟨lo,hi⟩=some (.ok ⟨toD lo,toD hi⟩):=by
 unfold Cv
 rw [(outOK h).1]
 show mb (Ep hi) _=_
 rw [(outOK h').1]
 rfl
def Pb (r:Al):Prop:=∃s M e,r=nz s M e∧bl M≤18000∧-10000≤e∧e≤10000
theorem Pb.bd {r:Al} (h:Pb r):bl r.m.Abs≤18000∧-10000≤r.e∧r.e≤30000:=by
 obtain ⟨s,M,e,rfl,h1,h2,h3⟩:=h
 unfold nz
 by_cases h0:M=0
 ·rw [if_pos h0];simp only;rw [HU];omega
 ·rw [if_neg h0];simp only
  have:=Ld M (2^tz M)
  obtain ⟨_,_,hq⟩:=GQ h0
  omega
def Lt (d:Ae):Prop:=Ok d∧bl d.Man.Abs≤9000
theorem Rt (x:Au) (h:Dig x.Man.Abs):∃v,EE x=some v∧(v=true→∀d,x=toL d→VT d→Lt d):=by
 obtain ⟨w,hv,_,_⟩:=OU x h
 unfold EE
 by_cases hl:(List.length x.Man.Abs:Int)≤60
 ·have key:(-3000≤x.Exp∧x.Exp≤3000)→∀d,x=toL d→VT d→Lt d:=by
   rintro ⟨k1,k2⟩ d rfl hd
   have e1:(toL d).Exp=d.Exp:=rfl
   have e2:(toL d).Man.Abs.length=Sbn.sz d.Man.Abs:=rfl
   have h60:Sbn.sz d.Man.Abs≤60:=by omega
   exact ⟨hd.ok (by omega) (by omega) (by omega),by have:=IL h60;omega⟩
  have nov:w=false→∀d,x=toL d→VT d→Lt d:=by
   intro hw d hd hvt
   subst hd;rw [(validT hvt).1,hw] at hv;cases hv
  rw [if_pos hl,hv]
  by_cases k1 : -3000≤x.Exp
  ·rw [if_pos k1,sB]
   by_cases k2:x.Exp≤3000
   ·exact ⟨true,by rw [decide_eq_true k2];rfl,fun _=>key ⟨k1,k2⟩⟩
   ·refine ⟨!w,by rw [decide_eq_false k2];cases w<;>rfl,fun hw=>nov (by cases w<;>simp_all)⟩
  ·rw [if_neg k1,sB]
   refine ⟨!w,by cases w<;>rfl,fun hw=>nov (by cases w<;>simp_all)⟩
 ·rw [if_neg hl]
  exact ⟨false,rfl,fun h=>by cases h⟩
theorem Nt (x:Am) (h0:Dig x.Lo.Man.Abs) (h1:Dig x.Hi.Man.Abs):∃v,Dm x=some v∧(v=true→(∀d,x.Lo=toL d→VT d→Lt d)∧∀d,x.Hi=toL d→VT d→Lt d):=by
 obtain ⟨u,hu,ku⟩:=Rt x.Lo h0
 obtain ⟨v,hv,kv⟩:=Rt x.Hi h1
 unfold Dm
 rw [hu,hv,sB]
 cases u
 ·exact ⟨false,rfl,fun h=>by cases h⟩
 ·cases v
  ·exact ⟨false,rfl,fun h=>by cases h⟩
  ·exact ⟨true,rfl,fun _=>⟨ku rfl,kv rfl⟩⟩
theorem Cb.of {σ:Bool} {M:Nat} {E:Int} (h1:bl M≤20000) (h2 : -100000≤E) (h3:E≤100000):Cb (nz σ M E):=by
 refine ⟨?_,?_,?_,σ,M,E,rfl⟩
 all_goals
  unfold nz
  by_cases h0:M=0
  ·rw [if_pos h0];simp only;first | (rw [HU];omega) | omega
  ·rw [if_neg h0];simp only
   have:=Ld M (2^tz M)
   obtain ⟨_,_,hq⟩:=GQ h0
   omega
theorem QY {d:Ae} : ∃z,CH d=some z∧Hm (toL d)=some (toL z):=by
 obtain ⟨⟨s,n⟩,e⟩:=d
 refine ⟨_,refMinus s n e,?_⟩
 unfold Hm Iw Iy toL
 simp only
 have hz:(0<((limbs n).length:Int))=(n≠0):=LN n
 simp only [hz]
 cases s
 ·rfl
 ·rfl
theorem mbo {α β:Type} (a:α) (f:α→M β):mb (some (.ok a)) f=f a:=rfl
theorem valid2 {x y:Ae} (hx:VT x) (hy:VT y):Hr (toL x) (toL y)=some (.ok ()):=by
 unfold Hr
 rw [(validT hx).2,(validT hy).2];rfl
theorem inT (x:Ae):Fy ⟨⟨(toL x).Man.Neg,x.Man.Abs⟩,(toL x).Exp⟩=some (ofD x):=rfl
theorem toNT (x:Ae):toN (toL x).Man.Abs=some x.Man.Abs:=JK _
theorem wantT (e:Int):BX true e=some (.ok ()):=rfl
theorem sub_ok (x y:Ae) (hx:VT x) (hy:VT y) (lx:Lt x) (ly:Lt y):∃r z,JW (toL x) (toL y)=some (toD r,0)∧Hm (toL y)=some (toL z)∧BI x z=some (toD r)∧Cb r:=by
 obtain ⟨z,m1,m2,m3,m4,m5⟩:=minusSame hy
 obtain ⟨z',n1,n2⟩:=QY (d:=y)
 obtain rfl:z'=z:=Option.some.inj (n1.symm.trans m2)
 obtain ⟨σ,M,E,p1,p2,p3,p4,p5⟩:=sumC x _ z' hx m3 lx.2 (by rw [m4];exact ly.2) lx.1.l lx.1.u (by rw [m5];exact ly.1.l) (by rw [m5];exact ly.1.u)
 have hc:Cb (nz σ M E):=Cb.of p3 (by omega) (by omega)
 refine ⟨_,z',?_,n2,p2,hc⟩
 unfold JW CY Ed
 rw [valid2 hx hy,mbo,toNT,sB,inT,sB,toNT,sB,inT,sB,nearT (ofD x) (ofD y) lx.2 ly.2 lx.1.l lx.1.u ly.1.l ly.1.u,sB,wantT,mbo]
 unfold JI
 rw [m1,sB,p1,sB,sB,(outOK hc).1,mbo]
 rfl
theorem validInt (x:AK) (hx:Dig x.Abs):∃v,Co x=some v∧FG x=some v∧(v=true→∃m:Af,x=⟨m.Neg,limbs m.Abs⟩∧Sbn.sz m.Abs≤1024∧(m.Abs=0→m.Neg=false)):=by
 obtain ⟨s,l⟩:=x
 simp only at hx
 unfold Co FG
 simp only
 rw [show Bu l=_ from Nj hx,nValid hx,sB]
 by_cases hP:l.length≤1024∧limbs (val l)=l
 ·rw [decide_eq_true hP]
  obtain ⟨hl,hc⟩:=hP
  generalize val l=n at hc
  subst hc
  by_cases h0:n=0
  ·subst h0
   cases s
   ·exact ⟨true,rfl,rfl,fun _=>⟨⟨false,0⟩,rfl,hl,fun _=>rfl⟩⟩
   ·exact ⟨false,rfl,rfl,fun h=>by cases h⟩
  ·have hl2:(0:Int)<((limbs n).length:Int):=by
    have hz:Sbn.sz n=(limbs n).length:=rfl
    have:Sbn.sz n≠0:=fun h=>h0 (HV h)
    omega
   have hv:∀(o:Option Bool),o=some true→(if true=true then o.bind fun m68=>some m68 else some false).bind (fun m42=>some m42)=some true:=by rintro _ rfl;rfl
   have ho:(if ¬(s=true) then some true else some (decide (0<((limbs n).length:Int))))=some true:=by
    cases s
    ·rfl
    ·rw [decide_eq_true hl2];rfl
   exact ⟨true,hv _ ho,hv _ ho,fun _=>⟨⟨s,n⟩,rfl,hl,fun h=>absurd h h0⟩⟩
 ·rw [decide_eq_false hP]
  exact ⟨false,rfl,rfl,fun h=>by cases h⟩
theorem agT_ok {w:Ae} (h:VT w):Fl w 0 0 w=some true:=by
 have hv:Be ⟨⟨w.Man.Neg,limbs w.Man.Abs⟩,w.Exp⟩=some true:=(validT h).1
 unfold Fl GO
 rw [if_neg (by decide),hv,sB,if_neg (by decide),sB]
 simp only [if_true]
 rw [sameD w h.sm];rfl
theorem natGiven (n:Nat) (hn:Sbn.sz n≤1024):Jo n=some (.ok n):=by
 have h:((Sbn.sz n:Int))≤1024:=by omega
 unfold Jo
 rw [decide_eq_true h,show JO true 2=some (.ok ()) from rfl,mbo]
 unfold FF
 rw [gdB (by omega)];rfl
theorem odd_gcd (n k:Nat) (h:n%2=1):Nat.gcd n (2^k)=1:=by
 apply Nat.Coprime.pow_right
 rw [Nat.coprime_comm]
 show Nat.gcd 2 n=1
 rw [Nat.gcd_rec,h];rfl
theorem NO (k:Nat):bl (2^k)≤k+1:=ER.2 (Nat.pow_lt_pow_right (by decide) (by omega))
theorem nLongN {a b:Nat} (ha:Sm a) (hb:Sm b) (h:b≠0):Cz a b=some (a/b,a%b):=by
 unfold Cz
 rw [gdB ⟨ha.sz,hb.sz,h⟩]
theorem Qs (x y:Nat):∀(f a b:Nat),b≤a→bl a+bl b<f→Sm a→FC x y f a b=some (Nat.gcd a b):=by
 intro f
 induction f with
 | zero=>intro a b _ h;omega
 | succ f ih=>
  intro a b hab hf hs
  show (if 0<(Sbn.sz b:Int) then (Cz a b).bind fun r=>FC x y f b r.2 else some a)=_
  simp only [LN]
  by_cases hb:b=0
  ·subst hb;rw [if_neg (by simp),Nat.gcd_zero_right]
  ·have hbs:Sm b:=Ig hab hs
   have hm:=Nat.mod_lt a (Nat.pos_of_ne_zero hb)
   rw [if_pos hb,nLongN hs hbs hb,sB,ih b (a%b) (by omega) ?_ hbs]
   ·rw [Nat.gcd_comm b,←Nat.gcd_rec,Nat.gcd_comm]
   ·have h2:2*(a%b)<a:=by
     have h3:=Nat.div_add_mod a b
     have h4:b*1≤b*(a/b):=Nat.mul_le_mul_left _ (Nat.div_pos hab (by omega))
     omega
    obtain ⟨h5,h6,h7⟩:=FV (n:=a) (by omega)
    have:bl (a%b)≤bl a - 1:=by
     rw [ER]
     have:2^bl a=2^(bl a - 1)*2:=by rw [←Nat.pow_succ];congr 1;omega
     omega
    omega
theorem ngcd (a b:Nat) (ha:bl a≤100000) (hb:bl b≤100000):Jn a b=some (Nat.gcd a b):=by
 have key:FC a b 18446744073709551616 a b=some (Nat.gcd a b):=by
  by_cases h:b≤a
  ·exact Qs a b _ a b h (by omega) (by unfold Sm;omega)
  ·obtain ⟨f,hf⟩:∃f,18446744073709551616=f+1:=⟨_,rfl⟩
   rw [hf]
   show (if 0<(Sbn.sz b:Int) then (Cz a b).bind fun r=>FC a b f b r.2 else some a)=_
   simp only [LN]
   rw [if_pos (by omega),nLongN (by unfold Sm;omega) (by unfold Sm;omega) (by omega),sB,Nat.mod_eq_of_lt (by omega)]
   show FC a b f b a=_
   rw [Qs a b f b a (by omega) (by omega) (by unfold Sm;omega),Nat.gcd_comm]
 unfold Jn
 rw [key];rfl
theorem natTaken2 (n d:Nat) (hn:Sbn.sz n≤1024) (hd:Sbn.sz d≤1024):HI n d=some (.ok ()):=by
 unfold HI Cf CD Ic
 rw [nValid (Ap n),nValid (Ap d),Ax,Ax,decide_eq_true ⟨hn,rfl⟩,decide_eq_true ⟨hd,rfl⟩];rfl
theorem natGcd (n d:Nat) (hn:Sbn.sz n≤1024) (hd:Sbn.sz d≤1024) (hd0:d≠0):Kw n d=some (Nat.gcd n d,0):=by
 have hb:=IL hn
 have hc:=IL hd
 have hg:Sbn.sz (Nat.gcd n d)≤1024:=JN (by
  have h1:Nat.gcd n d≤d:=Nat.gcd_le_right _ (by omega)
  have h2:bl (Nat.gcd n d)≤bl d:=ER.2 (Nat.lt_of_le_of_lt h1 (ER.1 (Nat.le_refl _)))
  omega)
 unfold Kw Dx EQ
 rw [natTaken2 n d hn hd,mbo,ngcd n d (by omega) (by omega),sB,natGiven _ hg]
 rfl
theorem progOne (g:Nat):((if (0:Int)=0 then some (decide ((Sbn.sz g:Int)=1)) else some false).bind fun m111=>(if m111=true then (nth (limbs g) 0).bind fun u155=>some (decide (u155=1)) else some false).bind fun m141=>some m141)=some (decide (g=1)):=by
 rw [if_pos rfl,sB]
 by_cases h0:g=0
 ·subst h0;rfl
 ·have hl:Sbn.sz g=(limbs (g/4294967296)).length+1:=by
   show (limbs g).length=_
   rw [FU h0];rfl
  by_cases h1:g/4294967296=0
  ·have e:limbs g=[((g%4294967296:Nat):Int)]:=by rw [FU h0,h1,BQ]
   have hs:(Sbn.sz g:Int)=1:=by rw [hl,h1,BQ];rfl
   rw [decide_eq_true hs,if_pos rfl,e,nth0,sB,sB]
   congr 1
   apply decide_eq_decide.2
   omega
  ·have hn:(limbs (g/4294967296)).length≠0:=fun h=>h1 (HV h)
   rw [decide_eq_false (by omega),if_neg (by decide),sB,decide_eq_false (by omega)]
theorem validRat (x:Et) (h1:Dig x.Num.Abs) (h2:Dig x.Den):∃v,DN x=some v∧DP x=some v∧(v=true→∃(s:Bool) (n d:Nat),x=⟨⟨s,limbs n⟩,limbs d⟩∧(n=0→s=false)∧d≠0):=by
 obtain ⟨v,e,f,g⟩:=validInt x.Num h1
 unfold DN DP
 rw [e,f,sB,sB]
 cases v
 ·exact ⟨false,rfl,rfl,fun h=>by cases h⟩
 obtain ⟨m,hm,hs,hz⟩:=g rfl
 rw [show Bu x.Den=_ from Nj h2,nValid h2]
 by_cases hP:x.Den.length≤1024∧limbs (val x.Den)=x.Den
 ·rw [decide_eq_true hP]
  obtain ⟨hl,hc⟩:=hP
  obtain ⟨N,D⟩:=x
  simp only at hm hl hc
  generalize val D=d at hc
  subst hc hm
  by_cases h0:d=0
  ·subst h0
   exact ⟨false,rfl,rfl,fun h=>by cases h⟩
  ·have hln:((limbs d).length:Int)≠0:=by
    intro h;exact h0 (HV (by have:Sbn.sz d=(limbs d).length:=rfl;omega))
   have hg:=natGcd m.Abs d hs hl h0
   have hb:=IL hs
   have hc:=IL (n:=d) (k:=1024) hl
   have hr:=gcd m.Abs d (by omega) (by omega)
   have hgs:Sm (Nat.gcd m.Abs d):=Ig (Nat.gcd_le_right _ (by omega)) (by unfold Sm;omega)
   refine ⟨decide (Nat.gcd m.Abs d=1),?_,?_,fun _=>⟨m.Neg,m.Abs,d,rfl,hz,h0⟩⟩
   ·simp only [not_true_eq_false,if_false,sB,decide_false,Bool.false_eq_true,decide_eq_false hln,HG,hr,BT,same _ _ hgs]
   ·simp only [not_true_eq_false,if_false,sB,decide_false,Bool.false_eq_true,decide_eq_false hln,HG,hg]
    exact progOne _
 ·rw [decide_eq_false hP]
  exact ⟨false,rfl,rfl,fun h=>by cases h⟩
end Go.Proofs.Pq
