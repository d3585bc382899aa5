import Derived.Test.YtabiobmfelafoaaGreatDoorPB
import Derived.KernelRfl
namespace Go.Proofs.Pq
set_option linter.unusedVariables false
set_option linter.unusedSimpArgs false
set_option maxRecDepth 4000
open Go.Proofs Go.Sb Go.Proofs.Sbn Go.Proofs.Lf
theorem nValid {a:List Int} (ha:Dig a):FA a=some (decide (a.length≤1024∧limbs (val a)=a)):=by
 rw [←LD ha];rfl
def toL (d:Ak):Au:=⟨⟨d.Man.Neg,limbs d.Man.Abs⟩,d.Exp⟩
def ofD (d:Ak):An:=⟨d.Man,d.Exp⟩
structure VT (d:Ak):Prop where
 s:Sbn.sz d.Man.Abs≤1024
 z:d.Man.Abs=0→d.Man.Neg=false∧d.Exp=0
 o:d.Man.Abs≠0→d.Man.Abs%2=1∧-1048576≤d.Exp∧d.Exp≤1048576
theorem validT {d:Ak} (h:VT d):Bb (toL d)=some true∧DQ (toL d)=some true:=by
 obtain ⟨⟨s,n⟩,e⟩:=d
 obtain ⟨h1,h2,h3⟩:=h
 simp only at h1 h2 h3
 unfold Bb DQ BP CB toL
 simp only
 rw [show Bm (limbs n)=_ from LD (Aq n),nValid (Aq n),sB,Az,decide_eq_true ⟨h1,rfl⟩]
 by_cases h0:n=0
 ·obtain ⟨rfl,rfl⟩:=h2 h0
  subst h0
  exact ⟨rfl,rfl⟩
 ·obtain ⟨a1,a2,a3⟩:=h3 h0
  have hb:=rBit (Aq n) 0 (by decide)
  have hl:((limbs n).length:Int)≠0:=by
   intro h;exact h0 (Gy (by have:Sbn.sz n=(limbs n).length:=rfl;omega))
  have hl2:(0:Int)<((limbs n).length:Int):=by omega
  rw [Az,Nat.pow_zero,Nat.div_one,a1] at hb
  have hnt:nth (limbs n) 0=some ((n%4294967296:Nat):Int):=by
   rw [Fk h0];unfold nth;rw [if_pos ⟨by omega,by simp only [List.length_cons];omega⟩];rfl
  have hb2:BL (limbs n) 0=some 1:=hb
  have e1:(((n%4294967296:Nat):Int)%2)=1:=by omega
  rw [hb2,hnt]
  simp only [decide_eq_true hl2,sB,if_true,e1,decide_eq_true a2,decide_eq_true a3,if_neg hl]
  cases s<;>exact ⟨rfl,rfl⟩
theorem LV (x:Au) (hx:Dig x.Man.Abs):∃v,Bb x=some v∧DQ x=some v∧(v=true→∃d,x=toL d∧VT d):=by
 obtain ⟨⟨s,l⟩,e⟩:=x
 simp only at hx
 unfold Bb DQ BP CB
 simp only
 rw [show Bm l=_ from LD hx,nValid hx,sB]
 by_cases hP:l.length≤1024∧limbs (val l)=l
 ·rw [decide_eq_true hP]
  obtain ⟨hl,hc⟩:=hP
  generalize val l=n at hc
  subst hc
  by_cases h0:n=0
  ·subst h0
   cases s
   ·exact ⟨decide (e=0),rfl,rfl,fun h=>⟨⟨⟨false,0⟩,e⟩,rfl,hl,fun _=>⟨rfl,of_decide_eq_true h⟩,fun h=>absurd rfl h⟩⟩
   ·exact ⟨false,rfl,rfl,fun h=>by cases h⟩
  ·have hb:=rBit (Aq n) 0 (by decide)
   have hz:Sbn.sz n=(limbs n).length:=rfl
   have hln:((limbs n).length:Int)≠0:=by
    intro h;exact h0 (Gy (by omega))
   have hl2:(0:Int)<((limbs n).length:Int):=by omega
   rw [Az,Nat.pow_zero,Nat.div_one] at hb
   have hnt:nth (limbs n) 0=some ((n%4294967296:Nat):Int):=by
    rw [Fk h0];unfold nth;rw [if_pos ⟨by omega,by simp only [List.length_cons];omega⟩];rfl
   have hb2:BL (limbs n) 0=some ((n%2:Nat):Int):=hb
   rw [hb2,hnt]
   have c1:(((n%2:Nat):Int)=1)=(n%2=1):=by apply propext;omega
   refine ⟨decide (n%2=1∧-1048576≤e∧e≤1048576),?_,?_,fun h=>?_⟩
   ·simp only [decide_eq_true hl2,sB,if_true,if_neg hln,c1]
    by_cases a1:n%2=1<;>by_cases a2 : -1048576≤e<;>by_cases a3:e≤1048576<;>cases s<;>simp [a1,a2,a3,sB]
   ·simp only [decide_eq_true hl2,sB,if_true,if_neg hln]
    have e1:(((n%4294967296:Nat):Int)%2)=((n%2:Nat):Int):=by omega
    simp only [e1,c1]
    by_cases a1:n%2=1<;>by_cases a2 : -1048576≤e<;>by_cases a3:e≤1048576<;>cases s<;>simp [a1,a2,a3,sB]
   ·have h:=of_decide_eq_true h
    exact ⟨⟨⟨s,n⟩,e⟩,rfl,hl,fun h=>absurd h h0,fun _=>h⟩
 ·rw [decide_eq_false hP]
  exact ⟨false,rfl,rfl,fun h=>by cases h⟩
end Go.Proofs.Pq
namespace Go.Proofs.Pq
set_option linter.unusedVariables false
set_option linter.unusedSimpArgs false
set_option maxRecDepth 4000
open Go.Proofs Go.Sb Go.Proofs.Sbn Go.Proofs.Lf
theorem MP (s:Bool) (M:Nat) (e:Int):nz (s && decide (M≠0)) M e=nz s M e:=by
 unfold nz
 by_cases h:M=0
 ·rw [if_pos h,if_pos h]
 ·rw [if_neg h,if_neg h,decide_eq_true h,Bool.and_true]
def addZ (s:Bool) (A:Nat) (t:Bool) (C:Nat):Bool × Nat:=if s=t then (s,A+C) else if C≤A then (s,A - C) else (t,C - A)
theorem addZ_Z (s:Bool) (A:Nat) (t:Bool) (C:Nat):Z (addZ s A t C).1 (addZ s A t C).2=Z s A+Z t C:=by
 unfold addZ Z
 by_cases h:C≤A<;>cases s<;>cases t<;>simp [h]<;>omega
theorem sm_add {a b:Nat} (ha:bl a≤400000) (hb:bl b≤400000):Sm (a+b):=by
 have:=bl_add2 ha hb
 unfold Sm;omega
theorem refSum (s t:Bool) (n m:Nat) (e f:Int) (hn:n≠0) (hm:m≠0) (hns:bl n≤40000) (hms:bl m≤40000) (hd:e - f≤300000) (hd':f - e≤300000)
  (he : -1000000≤e) (he':e≤1000000) (hf : -1000000≤f) (hf':f≤1000000) (A C:Nat) (hA:A=n*2^(e - min e f).toNat) (hC:C=m*2^(f - min e f).toNat) :
  Dw ⟨⟨s,n⟩,e⟩ ⟨⟨t,m⟩,f⟩=some (toD (nz (addZ s A t C).1 (addZ s A t C).2 (min e f))):=by
 obtain ⟨a,ha⟩:∃a:Nat,e - min e f=(a:Int):=⟨(e - min e f).toNat,by omega⟩
 obtain ⟨c,hc⟩:∃c:Nat,f - min e f=(c:Int):=⟨(f - min e f).toNat,by omega⟩
 rw [ha] at hA;rw [hc] at hC
 rw [Int.toNat_natCast] at hA hC
 have hbA:bl A≤400000:=by rw [hA];have:=Mn n a;omega
 have hbC:bl C≤400000:=by rw [hC];have:=Mn m c;omega
 have hsA:Sm A:=by unfold Sm;omega
 have hsC:Sm C:=by unfold Sm;omega
 have hsg:∀a b:Nat,(0≤sgnc a b↔b≤a):=by intro a b;unfold sgnc;split<;>(try split)<;>omega
 unfold Dw
 simp only [sz0]
 rw [if_neg hn,if_neg hm,w64 (x:=e - min e f) (by omega) (by omega),w64 (x:=f - min e f) (by omega) (by omega),ha,hc]
 unfold DP
 simp only
 rw [rShl (by unfold Sm;omega) (by omega),sB,sB,rShl (by unfold Sm;omega) (by omega),sB,sB,←hA,←hC]
 unfold EN addZ
 simp only
 by_cases hst:s=t
 ·have hs:=sm_add hbA hbC
  rw [if_pos hst,if_pos hst,rAdd hsA hsC,sB,signed,sB,sB,refOf _ _ _ hs (by omega) (by omega),sB,MP]
 ·rw [if_neg hst,if_neg hst,rCmp hsA hsC,sB]
  by_cases h:C≤A
  ·rw [if_pos ((hsg _ _).2 h),if_pos h,rSub hsA h,sB,signed,sB,sB,refOf _ _ _ (IT (Nat.sub_le _ _) hsA) (by omega) (by omega),sB,MP]
  ·rw [if_neg (fun h2=>h ((hsg _ _).1 h2)),if_neg h,rSub hsC (by omega),sB,signed,sB,sB,refOf _ _ _ (IT (Nat.sub_le _ _) hsC) (by omega) (by omega),sB,MP]
theorem refMinus (s:Bool) (n:Nat) (e:Int):Ek ⟨⟨s,n⟩,e⟩=some ⟨⟨!s && decide (n≠0),n⟩,e⟩:=by
 unfold Ek EO
 simp only [signed,sB]
 cases s<;>rfl
theorem refSign (s:Bool) (n:Nat) (e:Int):DR ⟨⟨s,n⟩,e⟩=some (sv s n):=by
 unfold DR sv
 simp only [sz0]
 split
 ·rfl
 ·split<;>rfl
theorem refSign_nz (s:Bool) (n:Nat) (e:Int):DR (toD (nz s n e))=some (sv s n):=by
 rw [←Nd s n e,sign]
 exact refSign _ _ _
theorem Nm (s:Bool) (n:Nat):(sv s n<0↔Z s n<0)∧(0<sv s n↔0<Z s n):=by
 unfold sv Z
 by_cases h:n=0
 ·subst h;cases s<;>simp
 ·rw [if_neg h];cases s<;>simp<;>omega
theorem refCompare (s t:Bool) (n m:Nat) (e f:Int) (hns:bl n≤40000) (hms:bl m≤40000) (hd:e - f≤300000) (hd':f - e≤300000)
  (he : -1000000≤e) (he':e≤1000000) (hf : -1000000≤f) (hf':f≤1000000) :
  ∃k,DJ ⟨⟨s,n⟩,e⟩ ⟨⟨t,m⟩,f⟩=some k∧(k = -1∨k=0∨k=1)∧∀i j:Nat,e - f=(i:Int) - j→
   (k<0↔Z s n*(2^i:Nat)<Z t m*(2^j:Nat))∧(0<k↔Z t m*(2^j:Nat)<Z s n*(2^i:Nat)):=by
 have h01:∀s n,sv s n = -1∨sv s n=0∨sv s n=1:=by intro s n;unfold sv;split<;>(try split)<;>simp
 have hpos:∀i:Nat,(0:Int)<(2^i:Nat):=fun i=>by have:=Nat.two_pow_pos i;omega
 unfold DJ
 rw [refMinus,sB]
 by_cases hn:n=0
 ·unfold Dw
  simp only [sz0]
  rw [if_pos hn,sB,refSign,sB]
  refine ⟨_,rfl,h01 _ _,fun i j hij=>?_⟩
  rw [(Nm _ _).1,(Nm _ _).2,hn]
  have h0:Z s 0=0:=by cases s<;>rfl
  rw [h0,Int.zero_mul]
  have hq:=hpos j
  have h1:Z (!t && decide (m≠0)) m = - Z t m:=by
   unfold Z;by_cases h:m=0
   ·subst h;cases t<;>rfl
   ·cases t<;>simp [h]
  rw [h1]
  constructor
  ·constructor
   ·intro h;exact Int.mul_pos (by omega) hq
   ·intro h;have:=Int.pos_of_mul_pos_left h hq;omega
  ·constructor
   ·intro h;exact Int.mul_neg_of_neg_of_pos (by omega) hq
   ·intro h
    rcases Int.lt_trichotomy (Z t m) 0 with h2 | h2 | h2
    ·omega
    ·rw [h2,Int.zero_mul] at h;omega
    ·have:=Int.mul_pos h2 hq;omega
 ·by_cases hm:m=0
  ·unfold Dw
   simp only [sz0]
   rw [if_neg hn,if_pos hm,sB,refSign,sB]
   refine ⟨_,rfl,h01 _ _,fun i j hij=>?_⟩
   rw [(Nm _ _).1,(Nm _ _).2,hm]
   have h0:Z t 0=0:=by cases t<;>rfl
   rw [h0,Int.zero_mul]
   have hq:=hpos i
   constructor
   ·constructor
    ·intro h;exact Int.mul_neg_of_neg_of_pos h hq
    ·intro h
     rcases Int.lt_trichotomy (Z s n) 0 with h2 | h2 | h2
     ·exact h2
     ·rw [h2,Int.zero_mul] at h;omega
     ·have:=Int.mul_pos h2 hq;omega
   ·constructor
    ·intro h;exact Int.mul_pos h hq
    ·intro h
     rcases Int.lt_trichotomy (Z s n) 0 with h2 | h2 | h2
     ·have:=Int.mul_neg_of_neg_of_pos h2 hq;omega
     ·rw [h2,Int.zero_mul] at h;omega
     ·exact h2
  ·have hbm:(!t && decide (m≠0)) = !t:=by rw [decide_eq_true hm,Bool.and_true]
   rw [hbm,refSum s (!t) n m e f hn hm hns hms hd hd' he he' hf hf' _ _ rfl rfl,sB,refSign_nz,sB]
   refine ⟨_,rfl,h01 _ _,fun i j hij=>?_⟩
   rw [(Nm _ _).1,(Nm _ _).2,addZ_Z,OQ,OQ]
   have h1:Z (!t) m = - Z t m:=by unfold Z;cases t<;>simp
   rw [h1,Int.neg_mul]
   obtain ⟨a,ha⟩:∃a:Nat,(e - min e f).toNat=a:=⟨_,rfl⟩
   obtain ⟨c,hc⟩:∃c:Nat,(f - min e f).toNat=c:=⟨_,rfl⟩
   rw [ha,hc]
   have k1:=Lk (X:=Z s n) (Y:=Z t m) (a:=a) (c:=c) (i:=i) (j:=j) (by omega)
   have k2:=Lk (X:=Z t m) (Y:=Z s n) (a:=c) (c:=a) (i:=j) (j:=i) (by omega)
   generalize Z s n*(2^a:Nat)=X at *
   generalize Z t m*(2^c:Nat)=Y at *
   generalize Z s n*(2^i:Nat)=X' at *
   generalize Z t m*(2^j:Nat)=Y' at *
   omega
theorem VT.ok {d:Ak} (h:VT d) (hl : -5000≤d.Exp) (hu:d.Exp≤5000) (hs:Sbn.sz d.Man.Abs≤600):Ok d:=
 ⟨fun h0=>(h.z h0).1,by have:=JU hs;omega,hl,hu⟩
theorem outOK {r:An} (h:Cb r):DL r=some (.ok (toD r))∧VT (toD r):=by
 obtain ⟨h1,h2,h3,s,M,e,rfl⟩:=h
 have hS:Sm (nz s M e).m.Abs:=by unfold Sm;omega
 have hz:Sbn.sz (nz s M e).m.Abs≤1000:=Hv (by omega)
 have hv:VT (toD (nz s M e)):=by
  refine ⟨Nat.le_trans hz (by decide),fun h=>?_,fun h=>?_⟩
  ·have h0:M=0:=by
    by_cases h0:M=0
    ·exact h0
    ·exfalso
     unfold toD nz at h
     rw [if_neg h0] at h
     simp only at h
     obtain ⟨q,hq⟩:=tz_dvd M
     generalize tz M=z at *
     rw [hq,Nat.mul_div_cancel _ (Nat.two_pow_pos z)] at h
     rw [h,Nat.zero_mul] at hq;exact h0 hq
   unfold toD nz
   rw [if_pos h0]
   exact ⟨rfl,rfl⟩
  ·have h0:M≠0:=by
    intro h0;apply h;unfold toD nz;rw [if_pos h0]
   refine ⟨?_,by show _≤(nz s M e).e;omega,by show (nz s M e).e≤_;omega⟩
   unfold toD nz
   rw [if_neg h0]
   simp only
   obtain ⟨q,hq,_⟩:=II h0
   generalize tz M=z at *
   rw [hq,Nat.mul_div_cancel_left _ (Nat.two_pow_pos z)];omega
 refine ⟨?_,hv⟩
 have hneg:(if (nz s M e).m.Neg=true then some (decide (0<(Sbn.sz (nz s M e).m.Abs:Int))) else some false)=some (nz s M e).m.Neg:=by
  simp only [Mj]
  by_cases h0:(nz s M e).m.Abs=0
  ·have:=(hv.z h0).1
   have h5:(nz s M e).m.Neg=false:=this
   rw [h5];rfl
  ·rw [decide_eq_true h0];cases (nz s M e).m.Neg<;>rfl
 unfold DL Co
 generalize nz s M e=r at *
 rw [if_pos (by omega),sB,decide_eq_true (show r.e≤1048576 by omega),if_pos rfl,sB,decide_eq_true (show -1048576≤r.e by omega),if_neg (by simp)]
 show (CL r.m.Abs).bind _=_
 rw [wClone hS,sB]
 unfold GX
 simp only
 rw [hneg,sB,sB]
 rfl
theorem Nj (a:Ai) (h:Sm a.Abs):Dd a a=some true:=by
 unfold Dd
 rw [if_pos rfl,same _ _ h,decide_eq_true rfl];rfl
theorem OE (a:Ak) (h:Sm a.Man.Abs):Bh a a=some true:=by
 unfold Bh
 rw [Nj _ h,sB,if_pos rfl,decide_eq_true rfl];rfl
def zD:Ak:=⟨⟨false,0⟩,0⟩
theorem sm0:Sm 0:=by unfold Sm;decide
theorem VT.sm {d:Ak} (h:VT d):Sm d.Man.Abs:=by have:=JU h.s;unfold Sm;omega
end Go.Proofs.Pq
namespace Go.Proofs.Pq
set_option linter.unusedVariables false
set_option linter.unusedSimpArgs false
set_option maxRecDepth 4000
open Go.Proofs Go.Sb Go.Proofs.Sbn Go.Proofs.Lf
theorem Lc (n:Nat):toN (limbs n)=some n:=Jw n
theorem proper_ (x:Av) (h0:Dig x.Lo.Man.Abs) (h1:Dig x.Hi.Man.Abs) (k0:∀d,x.Lo=toL d→VT d→Ok d) (k1:∀d,x.Hi=toL d→VT d→Ok d) :
  ∃v,DY x=some v∧Fe x=some v∧(v=true→∃lo hi,x=⟨toL lo,toL hi⟩∧VT lo∧VT hi∧Ok lo∧Ok hi∧LeV (ofD lo) (ofD hi)):=by
 obtain ⟨a,b⟩:=x
 obtain ⟨v0,e0,f0,g0⟩:=LV a h0
 obtain ⟨v1,e1,f1,g1⟩:=LV b h1
 unfold DY Fe
 simp only
 rw [e0,f0,sB,sB]
 cases v0
 ·exact ⟨false,rfl,rfl,fun h=>by cases h⟩
 ·rw [e1,f1]
  cases v1
  ·exact ⟨false,rfl,rfl,fun h=>by cases h⟩
  ·obtain ⟨lo,rfl,hlo⟩:=g0 rfl
   obtain ⟨hi,rfl,hhi⟩:=g1 rfl
   have o0:=k0 lo rfl hlo
   have o1:=k1 hi rfl hhi
   obtain ⟨⟨s,n⟩,e⟩:=lo
   obtain ⟨⟨t,m⟩,f⟩:=hi
   obtain ⟨k,hk,_,hk2⟩:=refCompare s t n m e f (Nat.le_trans o0.s (by decide)) (Nat.le_trans o1.s (by decide)) (by have:=o0.u;have:=o1.l;simp only at *;omega) (by have:=o1.u;have:=o0.l;simp only at *;omega) (by have:=o0.l;simp only at *;omega) (by have:=o0.u;simp only at *;omega) (by have:=o1.l;simp only at *;omega) (by have:=o1.u;simp only at *;omega)
   obtain ⟨c,hc,_,hc2⟩:=cmpV ⟨⟨s,n⟩,e⟩ ⟨⟨t,m⟩,f⟩ o0.s o1.s (by have:=o0.l;simp only at *;omega) (by have:=o0.u;simp only at *;omega) (by have:=o1.l;simp only at *;omega) (by have:=o1.u;simp only at *;omega)
   have hkc:k≤0↔LeV ⟨⟨s,n⟩,e⟩ ⟨⟨t,m⟩,f⟩:=by
    constructor
    ·intro h i j hij
     exact Int.not_lt.1 fun h5=>by have:=((hk2 i j hij).2).2 h5;omega
    ·intro h
     have h5:=h (e - f).toNat (-(e - f)).toNat (by simp only;omega)
     have h6:=(hk2 (e - f).toNat (-(e - f)).toNat (by omega)).2
     refine Int.not_lt.1 fun h7=>?_
     have:=h6.1 h7
     simp only at h5
     omega
   refine ⟨decide (k≤0),?_,?_,fun h=>⟨_,_,rfl,hlo,hhi,o0,o1,hkc.1 (of_decide_eq_true h)⟩⟩
   ·unfold toL
    simp only [if_true,sB,Jw]
    rw [hk,sB]
    rfl
   ·unfold toL
    simp only [if_true,sB,Jw,GR,Hx]
    rw [hc,sB]
    congr 1
    apply decide_eq_decide.2
    rw [hkc,←hc2];omega
end Go.Proofs.Pq
namespace Go.Proofs.Pq
set_option linter.unusedVariables false
set_option linter.unusedSimpArgs false
set_option maxRecDepth 4000
open Go.Proofs Go.Sb Go.Proofs.Sbn Go.Proofs.Lf
theorem sanity:Dk=some true:=by kernel_rfl
theorem bb (o:Option Bool):((o.bind fun r=>some r).bind fun m=>some m)=o:=by cases o<;>rfl
end Go.Proofs.Pq
namespace Go.Proofs.Pq
set_option linter.unusedVariables false
set_option linter.unusedSimpArgs false
set_option maxRecDepth 4000
open Go.Proofs Go.Sb Go.Proofs.Sbn Go.Proofs.Lf
theorem nz_odd {s:Bool} {q:Nat} {e:Int} (h:q%2=1):nz s q e=⟨⟨s,q⟩,e⟩:=by
 have h0:q≠0:=by omega
 have hz:tz q=0:=Oh (m:=q/2) (by rw [Nat.pow_zero,Nat.one_mul];omega)
 unfold nz
 rw [if_neg h0,hz,Nat.pow_zero,Nat.div_one]
 congr 1
 simp
theorem canonV {d:Ak} (h:VT d):ofD d=nz d.Man.Neg d.Man.Abs d.Exp:=by
 obtain ⟨⟨s,n⟩,e⟩:=d
 by_cases h0:n=0
 ·obtain ⟨h1,h2⟩:=h.z h0
  simp only at h1 h2
  subst h0 h1 h2;rfl
 ·exact (nz_odd (h.o h0).1).symm
end Go.Proofs.Pq
namespace Go.Proofs.Pq
set_option linter.unusedVariables false
set_option linter.unusedSimpArgs false
set_option maxRecDepth 4000
open Go.Proofs Go.Sb Go.Proofs.Sbn Go.Proofs.Lf
structure Same (y:An) (z:Ak):Prop where
 a:y.m.Abs=z.Man.Abs
 e:y.e=z.Exp
 s:z.Man.Abs≠0→y.m.Neg=z.Man.Neg
 c:toD (nz y.m.Neg y.m.Abs y.e)=z
theorem Same.of {d:Ak} (h:VT d):Same (ofD d) d:=⟨rfl,rfl,fun _=>rfl,by
 have h2:nz d.Man.Neg d.Man.Abs d.Exp=ofD d:=(canonV h).symm
 show toD (nz d.Man.Neg d.Man.Abs d.Exp)=d
 rw [h2];rfl⟩
end Go.Proofs.Pq
namespace Go.Proofs.Pq
set_option linter.unusedVariables false
set_option linter.unusedSimpArgs false
set_option maxRecDepth 4000
open Go.Proofs Go.Sb Go.Proofs.Sbn Go.Proofs.Lf
def Lt (d:Ak):Prop:=Ok d∧bl d.Man.Abs≤9000
theorem MS (x:Au) (h:Dig x.Man.Abs):∃v,CS x=some v∧(v=true→∀d,x=toL d→VT d→Lt d):=by
 obtain ⟨w,hv,_,_⟩:=LV x h
 unfold CS
 by_cases hl:(List.length x.Man.Abs:Int)≤60
 ·have key:(-3000≤x.Exp∧x.Exp≤3000)→∀d,x=toL d→VT d→Lt d:=by
   rintro ⟨k1,k2⟩ d rfl hd
   have e1:(toL d).Exp=d.Exp:=rfl
   have e2:(toL d).Man.Abs.length=Sbn.sz d.Man.Abs:=rfl
   have h60:Sbn.sz d.Man.Abs≤60:=by omega
   exact ⟨hd.ok (by omega) (by omega) (by omega),by have:=JU h60;omega⟩
  have nov:w=false→∀d,x=toL d→VT d→Lt d:=by
   intro hw d hd hvt
   subst hd;rw [(validT hvt).1,hw] at hv;cases hv
  rw [if_pos hl,hv]
  by_cases k1 : -3000≤x.Exp
  ·rw [if_pos k1,sB]
   by_cases k2:x.Exp≤3000
   ·exact ⟨true,by rw [decide_eq_true k2];rfl,fun _=>key ⟨k1,k2⟩⟩
   ·refine ⟨!w,by rw [decide_eq_false k2];cases w<;>rfl,fun hw=>nov (by cases w<;>simp_all)⟩
  ·rw [if_neg k1,sB]
   refine ⟨!w,by cases w<;>rfl,fun hw=>nov (by cases w<;>simp_all)⟩
 ·rw [if_neg hl]
  exact ⟨false,rfl,fun h=>by cases h⟩
theorem lightSpan_ (x:Av) (h0:Dig x.Lo.Man.Abs) (h1:Dig x.Hi.Man.Abs):∃v,Dq x=some v∧(v=true→(∀d,x.Lo=toL d→VT d→Lt d)∧∀d,x.Hi=toL d→VT d→Lt d):=by
 obtain ⟨u,hu,ku⟩:=MS x.Lo h0
 obtain ⟨v,hv,kv⟩:=MS x.Hi h1
 unfold Dq
 rw [hu,hv,sB]
 cases u
 ·exact ⟨false,rfl,fun h=>by cases h⟩
 ·cases v
  ·exact ⟨false,rfl,fun h=>by cases h⟩
  ·exact ⟨true,rfl,fun _=>⟨ku rfl,kv rfl⟩⟩
end Go.Proofs.Pq
namespace Go.Proofs.Pq
set_option linter.unusedVariables false
set_option linter.unusedSimpArgs false
set_option maxRecDepth 4000
open Go.Proofs Go.Sb Go.Proofs.Sbn Go.Proofs.Lf
theorem Cb.of {σ:Bool} {M:Nat} {E:Int} (h1:bl M≤20000) (h2 : -100000≤E) (h3:E≤100000):Cb (nz σ M E):=by
 refine ⟨?_,?_,?_,σ,M,E,rfl⟩
 all_goals
  unfold nz
  by_cases h0:M=0
  ·rw [if_pos h0];simp only;first | (rw [LP];omega) | omega
  ·rw [if_neg h0];simp only
   have:=bl_div M (2^tz M)
   obtain ⟨_,_,hq⟩:=II h0
   omega
theorem mbo {α β:Type} (a:α) (f:α→M β):mb (some (.ok a)) f=f a:=rfl
theorem valid1 {x:Ak} (hx:VT x):Eu (toL x)=some (.ok ()):=by
 unfold Eu
 rw [(validT hx).2];rfl
theorem toNT (x:Ak):toN (toL x).Man.Abs=some x.Man.Abs:=Jw _
theorem wantT (e:Int):Co true e=some (.ok ()):=rfl
end Go.Proofs.Pq
namespace Go.Proofs.Pq
set_option linter.unusedVariables false
set_option linter.unusedSimpArgs false
set_option maxRecDepth 4000
open Go.Proofs Go.Sb Go.Proofs.Sbn Go.Proofs.Lf
theorem Ma (x:AK) (hx:Dig x.Abs):∃v,BP x=some v∧CB x=some v∧(v=true→∃m:Ai,x=⟨m.Neg,limbs m.Abs⟩∧Sbn.sz m.Abs≤1024∧(m.Abs=0→m.Neg=false)):=by
 obtain ⟨s,l⟩:=x
 simp only at hx
 unfold BP CB
 simp only
 rw [show Bm l=_ from LD hx,nValid hx,sB]
 by_cases hP:l.length≤1024∧limbs (val l)=l
 ·rw [decide_eq_true hP]
  obtain ⟨hl,hc⟩:=hP
  generalize val l=n at hc
  subst hc
  by_cases h0:n=0
  ·subst h0
   cases s
   ·exact ⟨true,rfl,rfl,fun _=>⟨⟨false,0⟩,rfl,hl,fun _=>rfl⟩⟩
   ·exact ⟨false,rfl,rfl,fun h=>by cases h⟩
  ·have hl2:(0:Int)<((limbs n).length:Int):=by
    have hz:Sbn.sz n=(limbs n).length:=rfl
    have:Sbn.sz n≠0:=fun h=>h0 (Gy h)
    omega
   have hv:∀(o:Option Bool),o=some true→(if true=true then o.bind fun m68=>some m68 else some false).bind (fun m42=>some m42)=some true:=by rintro _ rfl;rfl
   have ho:(if ¬(s=true) then some true else some (decide (0<((limbs n).length:Int))))=some true:=by
    cases s
    ·rfl
    ·rw [decide_eq_true hl2];rfl
   exact ⟨true,hv _ ho,hv _ ho,fun _=>⟨⟨s,n⟩,rfl,hl,fun h=>absurd h h0⟩⟩
 ·rw [decide_eq_false hP]
  exact ⟨false,rfl,rfl,fun h=>by cases h⟩
theorem make_err (x:AK) (e:Int) (h:CB x=some false):EC x e=some (zD,1):=by
 unfold EC HN
 rw [h];rfl
theorem make_ok (m:Ai) (e:Int) (hv:CB ⟨m.Neg,limbs m.Abs⟩=some true) (hs:Sbn.sz m.Abs≤60) (he : -3000≤e) (he':e≤3000) :
  EC ⟨m.Neg,limbs m.Abs⟩ e=some (toD (nz m.Neg m.Abs e),0)∧BZ m e=some (toD (nz m.Neg m.Abs e))∧VT (toD (nz m.Neg m.Abs e)):=by
 have hb:bl m.Abs≤1920:=JU hs
 have hsm:Sm m.Abs:=by unfold Sm;omega
 have hc:Cb (nz m.Neg m.Abs e):=Cb.of (by omega) (by omega) (by omega)
 refine ⟨?_,refOf m.Neg m.Abs e hsm (by omega) (by omega),(outOK hc).2⟩
 unfold EC HN
 rw [hv,sB,wantT,mbo]
 by_cases h0:m.Abs=0
 ·obtain ⟨s,n⟩:=m
  simp only at h0
  subst h0
  rfl
 ·have hl:((limbs m.Abs).length:Int)≠0:=by
   intro h;exact h0 (Gy (by have:Sbn.sz m.Abs=(limbs m.Abs).length:=rfl;omega))
  have hm:max (-1099511627776) (min e 1099511627776)=e:=by omega
  rw [if_neg hl,Lc,sB]
  show (((some (⟨m.Neg,m.Abs⟩:Ai)).bind fun r66=>(DI r66 (max (-1099511627776) (min e 1099511627776))).bind fun r74=>mb (DL r74) fun r82=>some (.ok (r82,0))):M _).bind _=_
  rw [sB,hm,normal m.Neg m.Abs e hsm (by omega) (by omega),sB,(outOK hc).1]
  rfl
theorem agT_ok {w:Ak} (h:VT w):BN w 0 0 w=some true:=by
 have hv:Bb ⟨⟨w.Man.Neg,limbs w.Man.Abs⟩,w.Exp⟩=some true:=(validT h).1
 unfold BN Fj
 rw [if_neg (by decide),hv,sB,if_neg (by decide),sB]
 simp only [if_true]
 rw [OE w h.sm];rfl
theorem agT_err (e:Int) (x:Ak) (he:e≠0):BN zD e e x=some true:=by
 have h:Bh zD zD=some true:=OE zD sm0
 unfold BN
 rw [if_pos he,if_pos rfl]
 show (((Bh zD zD).bind _).bind _)=_
 rw [h];rfl
theorem natTaken (n:Nat) (hn:Sbn.sz n≤1024):Gr n=some (.ok ()):=by
 unfold Gr BI BW Hp
 rw [nValid (Aq n),Az,decide_eq_true ⟨hn,rfl⟩];rfl
theorem natGiven (n:Nat) (hn:Sbn.sz n≤1024):Hy n=some (.ok n):=by
 have h:((Sbn.sz n:Int))≤1024:=by omega
 unfold Hy
 rw [decide_eq_true h,show FL true 2=some (.ok ()) from rfl,mbo]
 unfold Eh
 rw [gdB (by omega)];rfl
theorem natShl (n k:Nat) (hn:Sbn.sz n≤1024) (hk:k≤32768) (hf:Sbn.sz (n*2^k)≤1024):HP n (k:Int)=some (n*2^k,0):=by
 unfold HP JI
 rw [natTaken n hn,mbo,decide_eq_true (by omega:0≤(k:Int)),show FL true 1=some (.ok ()) from rfl,mbo]
 by_cases h0:n=0
 ·subst h0
  rw [Nat.zero_mul];rfl
 ·have h1:¬((Sbn.sz n:Int)=0):=fun h=>h0 (Gy (by exact_mod_cast h))
  rw [if_neg h1,decide_eq_true (by omega:(k:Int)≤32768),show FL true 2=some (.ok ()) from rfl,mbo]
  unfold Ds
  rw [gdB ⟨by omega,by omega,by omega⟩,sB,Int.toNat_natCast,natGiven _ hf]
  rfl
theorem wholeArgs (s:Bool) (n:Nat) (hn:Sbn.sz n≤1024) (hz:n=0→s=false):FQ ⟨s,n⟩=some (.ok ()):=by
 have hv:CB ⟨s,limbs n⟩=some true:=by
  obtain ⟨v,_,h2,_⟩:=Ma ⟨s,limbs n⟩ (Aq n)
  rw [h2]
  unfold CB at h2
  simp only at h2
  rw [nValid (Aq n),Az,decide_eq_true ⟨hn,rfl⟩,sB] at h2
  by_cases h0:n=0
  ·rw [hz h0] at h2;exact h2.symm
  ·have hl2:(0:Int)<((limbs n).length:Int):=by
    have hz:Sbn.sz n=(limbs n).length:=rfl
    have:Sbn.sz n≠0:=fun h=>h0 (Gy h)
    omega
   rw [decide_eq_true hl2] at h2
   cases s<;>exact h2.symm
 unfold FQ BD BS GV
 simp only
 rw [hv];rfl
theorem wholeShift (s:Bool) (n k:Nat) (hn:Sbn.sz n≤1024) (hz:n=0→s=false) (hk:k≤32768) (hf:Sbn.sz (n*2^k)≤1024):FV ⟨s,n⟩ (k:Int)=some (⟨s,n*2^k⟩,0):=by
 have hsg:EJ s (n*2^k)=some ⟨s,n*2^k⟩:=by
  unfold EJ
  cases s
  ·rfl
  ·have h0:n≠0:=fun h=>by have:=hz h;cases this
   have h1:n*2^k≠0:=Nat.mul_ne_zero h0 (Nat.pos_iff_ne_zero.1 (Nat.two_pow_pos k))
   have h2:(0:Int)<(Sbn.sz (n*2^k):Int):=by
    have:Sbn.sz (n*2^k)≠0:=fun h=>h1 (Gy h)
    omega
   rw [decide_eq_true h2];rfl
 have hown:Gn ⟨s,n*2^k⟩=some ⟨s,n*2^k⟩:=by
  unfold Gn BX
  simp only
  rw [gdB (by omega)];rfl
 unfold FV CA Dv Ei
 rw [wholeArgs s n hn hz,mbo,if_pos (by omega)]
 simp only
 rw [natShl n k hn hk hf,sB]
 simp only
 rw [show EZ (n*2^k) 0=some (.ok (n*2^k)) from rfl,mbo,hsg,sB,hown]
 rfl
theorem toRat_err (x:Au) (p0:DQ x=some false):EV x=some (⟨⟨false,0⟩,0⟩,1):=by
 unfold EV Hn Eu
 rw [p0];rfl
theorem odd_gcd (n k:Nat) (h:n%2=1):Nat.gcd n (2^k)=1:=by
 apply Nat.Coprime.pow_right
 rw [Nat.coprime_comm]
 show Nat.gcd 2 n=1
 rw [Nat.gcd_rec,h];rfl
theorem Nw (k:Nat):bl (2^k)≤k+1:=Gd.2 (Nat.pow_lt_pow_right (by decide) (by omega))
theorem sameRat (a:Cw) (h1:Sm a.Num.Abs) (h2:Sm a.Den):Ch a a=some true:=by
 unfold Ch
 rw [Nj a.Num h1,sB,if_pos rfl,show AN (limbs a.Den) (limbs a.Den)=_ from NI (Aq _) (Aq _) (by have:=h2.sz;show Sbn.sz a.Den<_;omega),decide_eq_true ⟨rfl,rfl⟩]
 rfl
theorem toRat_ok (x:Ak) (hx:VT x) (hs:Sbn.sz x.Man.Abs≤300) (hl : -5000≤x.Exp) (hu:x.Exp≤5000):∃r,EV (toL x)=some (r,0)∧CU x=some r∧Sm r.Num.Abs∧Sm r.Den:=by
 obtain ⟨⟨s,n⟩,e⟩:=x
 simp only at hs hl hu
 have hsm:Sm n:=hx.sm
 have hb:=JU hs
 unfold EV Hn CU
 rw [valid1 hx,mbo]
 show ∃r,(((if 0≤e then _ else _:M _)).bind _)=_∧_
 by_cases he:0≤e
 ·obtain ⟨k,rfl⟩:∃k:Nat,e=k:=⟨e.toNat,by omega⟩
  have hb2:bl (n*2^k)≤16384:=Nat.le_trans (bl_mul2 n (2^k)) (by have:=Nw k;omega)
  have hf:Sbn.sz (n*2^k)≤1024:=Hv (by omega)
  refine ⟨⟨⟨s,n*2^k⟩,1⟩,?_,?_,by show Sm _;unfold Sm;show bl (n*2^k)≤_;omega,sm1⟩
  ·rw [if_pos he,toNT,sB]
   show (((FV ⟨s,n⟩ (k:Int)).bind _:M _).bind _)=_
   rw [wholeShift s n k (by omega) (fun h=>(hx.z h).1) (by omega) hf,sB]
   show ((mb (Co true 0) _:M _).bind _)=_
   rw [wantT,mbo]
   unfold BX
   simp only
   rw [gdB (by omega)];rfl
  ·rw [if_pos he]
   show ((Be n (k:Int)).bind _)=_
   rw [rShl hsm (by omega),sB];rfl
 ·obtain ⟨k,rfl⟩:∃k:Nat,e = -(k:Int):=⟨(-e).toNat,by omega⟩
  have hn0:n≠0:=fun h=>by have:=(hx.z h).2;simp only at this;omega
  have hodd:=(hx.o hn0).1
  simp only at hodd
  have hb2:bl (2^k)≤k+1:=Nw k
  have hf:Sbn.sz (1*2^k)≤1024:=by rw [Nat.one_mul];exact Hv (by omega)
  refine ⟨⟨⟨s,n⟩,2^k⟩,?_,?_,hsm,by show Sm _;unfold Sm;show bl (2^k)≤_;omega⟩
  ·rw [if_neg he,show wi64 (-(toL ⟨⟨s,n⟩,-(k:Int)⟩).Exp)=(k:Int) from w64n (by show -(-(k:Int))=_;omega) (by omega),natShl 1 k (by decide) (by omega) hf,sB]
   show ((mb (Co true 0) _:M _).bind _)=_
   rw [wantT,mbo,toNT,sB]
   unfold BX
   rw [gdB (by show Sbn.sz n<_;omega),Nat.one_mul];rfl
  ·have hg:Nat.gcd n (2^k)=1:=odd_gcd n k hodd
   have h1:AN (limbs 1) (limbs 1)=some true:=by
    rw [show AN (limbs 1) (limbs 1)=_ from NI (Aq _) (Aq _) (by decide),decide_eq_true ⟨rfl,rfl⟩]
   rw [if_neg he]
   show ((some 1).bind fun r61=>(Be r61 (wi64 (0 - -(k:Int)))).bind fun r70=>(EX ⟨s,n⟩ r70).bind fun r79=>some r79)=_
   rw [sB,show wi64 (0 - -(k:Int))=(k:Int) from w64n (by omega) (by omega),rShl sm1 (by omega),sB,Nat.one_mul]
   unfold EX
   simp only
   rw [gcd n (2^k) (by omega) (by omega),sB,hg,show CN=some 1 from rfl,sB]
   show (((AN (limbs 1) (limbs 1)).bind _).bind _)=_
   rw [h1];rfl
end Go.Proofs.Pq
namespace Go.Proofs.Pq
set_option linter.unusedVariables false
set_option linter.unusedSimpArgs false
set_option maxRecDepth 4000
open Go.Proofs Go.Sb Go.Proofs.Sbn Go.Proofs.Lf
theorem lawChecks (x0:Au) (x1:AK) (x2:Int) (x3:Av) (h0:Dig x0.Man.Abs) (h1:Dig x1.Abs) (h2:Dig x3.Lo.Man.Abs) (h3:Dig x3.Hi.Man.Abs):DW x0 x1 x2 x3=some true:=by
 obtain ⟨w0,fe0,fk0⟩:=MS x0 h0
 obtain ⟨w3,fe3,fk3⟩:=lightSpan_ x3 h2 h3
 obtain ⟨v0,e0,f0,g0⟩:=LV x0 h0
 obtain ⟨v1,e1,f1,g1⟩:=Ma x1 h1
 unfold DW
 rw [fe0,fe3,sB,sanity]
 cases w0
 ·rfl
 by_cases hl:60<(List.length x1.Abs:Int)
 ·rw [decide_eq_true hl];rfl
 by_cases hx:x2 < -3000
 ·rw [decide_eq_false hl,decide_eq_true hx];rfl
 by_cases hy:3000<x2
 ·rw [decide_eq_false hl,decide_eq_false hx,decide_eq_true hy];rfl
 cases w3
 ·rw [decide_eq_false hl,decide_eq_false hx,decide_eq_false hy];rfl
 obtain ⟨vp,pe,pf,_⟩:=proper_ x3 h2 h3 (fun d hd hv=>((fk3 rfl).1 d hd hv).1) (fun d hd hv=>((fk3 rfl).2 d hd hv).1)
 rw [decide_eq_false hl,decide_eq_false hx,decide_eq_false hy]
 have hm:∀(A R:Option Bool),((if ¬(true=true) then some true else some false).bind fun m44=>(if m44=true then some true else some false).bind fun m65=>(if m65=true then some true else some false).bind fun m84=>(if m84=true then some true else (some true).bind fun r121=>some (decide (¬(r121=true)))).bind fun m108=>if m108=true then A else R)=R:=by
  intro A R;simp
 refine (hm _ _).trans ?_
 rw [e1,e0,f0,pe,pf]
 have rest:∀(r146:Ak × Int) (r170:Int) (m:Bool × Nat × Int),EC x1 x2=some r146→EK v1=some r170→
   (if r170=0 then (toN x1.Abs).bind fun m229=>(BZ ((⟨x1.Neg,m229⟩:Ai)) x2).bind fun r234=>some (r234.Man.Neg,r234.Man.Abs,r234.Exp) else some (false,0,0))=some m→
   BN r146.1 r146.2 r170 ⟨⟨m.1,m.2.1⟩,m.2.2⟩=some true→((EC x1 x2).bind fun r146=>
 (some v1).bind fun r165=>
 (EK r165).bind fun r170=>
 (if r170=0 then (toN x1.Abs).bind fun m229=>
 (BZ ((⟨x1.Neg,m229⟩:Ai)) x2).bind fun r234=>
 some (r234.Man.Neg,r234.Man.Abs,r234.Exp) else some (false,0,0)).bind fun m211=>
 (EV x0).bind fun r250=>
 (some v0).bind fun r276=>
 (some v0).bind fun r282=>
 if ¬r276=r282 then some false else (some vp).bind fun r295=>
 (some vp).bind fun r301=>
 if ¬r295=r301 then some false else (BN r146.1 r146.2 r170 ((⟨(⟨m211.1,m211.2.1⟩:Ai),m211.2.2⟩:Ak))).bind fun r316=>
 if ¬(r316=true) then some false else (some v0).bind fun r337=>
 if ¬(r337=true) then (some true).bind fun r473=>
 (if r473=true then some ((decide (r250.2=1))) else some (false)).bind fun m484=>
 (if m484=true then (Ch r250.1 ((⟨(⟨false,0⟩:Ai),0⟩:Cw))).bind fun r526=>
 some (r526) else some (false)).bind fun m510=>
 some m510 else (some true).bind fun r417=>
 (if r417=true then some ((decide (r250.2=0))) else some (false)).bind fun m429=>
 if m429=true then (toN x0.Man.Abs).bind fun m447=>
 (CU ((⟨(⟨x0.Man.Neg,m447⟩:Ai),x0.Exp⟩:Ak))).bind fun r452=>
 (Ch r250.1 r452).bind fun r466=>
 some r466 else some false)=some true:=by
  intro r146 r170 m q1 q2 q3 q4
  rw [q1,sB,sB,q2,sB,q3,sB]
  cases v0
  ·have hs:Ch ⟨⟨false,0⟩,0⟩ ⟨⟨false,0⟩,0⟩=some true:=sameRat ⟨⟨false,0⟩,0⟩ sm0 sm0
   rw [toRat_err x0 f0]
   simp only [sB,not_true_eq_false,if_false,if_true,q4,Bool.false_eq_true,not_false_eq_true,decide_true,hs]
  ·obtain ⟨d,rfl,hd⟩:=g0 rfl
   have ld:=fk0 rfl d rfl hd
   obtain ⟨r,t1,t2,t3,t4⟩:=toRat_ok d hd (Hv (by have:=ld.2;omega)) ld.1.l ld.1.u
   have t2':CU ⟨⟨(toL d).Man.Neg,d.Man.Abs⟩,(toL d).Exp⟩=some r:=t2
   rw [t1]
   simp only [sB,not_true_eq_false,if_false,if_true,q4,Bool.false_eq_true,decide_true,toNT,t2',sameRat r t3 t4]
 cases v1
 ·exact rest _ 1 (false,0,0) (make_err x1 x2 f1) rfl rfl (agT_err 1 _ (by decide))
 ·obtain ⟨m,rfl,hs,hz⟩:=g1 rfl
  have hs60:Sbn.sz m.Abs≤60:=by
   have h:(limbs m.Abs).length=Sbn.sz m.Abs:=rfl
   simp only [h] at hl
   omega
  obtain ⟨a1,a2,a3⟩:=make_ok m x2 f1 hs60 (by omega) (by omega)
  refine rest _ 0 ((nz m.Neg m.Abs x2).m.Neg,(nz m.Neg m.Abs x2).m.Abs,(nz m.Neg m.Abs x2).e) a1 rfl ?_ (agT_ok a3)
  simp only [if_true,Lc,sB]
  rw [a2];rfl
end Go.Proofs.Pq
