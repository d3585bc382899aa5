import Derived.Test.YtabiobmfelafoaaGreatDoorPB
import Derived.KernelRfl
namespace Go.Proofs.Pq
set_option linter.unusedVariables false
set_option linter.unusedSimpArgs false
set_option maxRecDepth 4000
open Go.Proofs Go.Sb Go.Proofs.Sbn Go.Proofs.Lf
theorem nValid {a:List Int} (ha:Dig a):GG a=some (decide (a.length≤1024∧limbs (val a)=a)):=by
 rw [←Mk ha];rfl
def toL (d:Aj):AG:=⟨⟨d.Man.Neg,limbs d.Man.Abs⟩,d.Exp⟩
def ofD (d:Aj):Ao:=⟨d.Man,d.Exp⟩
structure VT (d:Aj):Prop where
 s:Sbn.sz d.Man.Abs≤1024
 z:d.Man.Abs=0→d.Man.Neg=false∧d.Exp=0
 o:d.Man.Abs≠0→d.Man.Abs%2=1∧-1048576≤d.Exp∧d.Exp≤1048576
theorem validT {d:Aj} (h:VT d):AL (toL d)=some true∧Fc (toL d)=some true:=by
 obtain ⟨⟨s,n⟩,e⟩:=d
 obtain ⟨h1,h2,h3⟩:=h
 simp only at h1 h2 h3
 unfold AL Fc Ea Gq toL
 simp only
 rw [show BT (limbs n)=_ from Mk (Aw n),nValid (Aw n),sB,AA,decide_eq_true ⟨h1,rfl⟩]
 by_cases h0:n=0
 ·obtain ⟨rfl,rfl⟩:=h2 h0
  subst h0
  exact ⟨rfl,rfl⟩
 ·obtain ⟨a1,a2,a3⟩:=h3 h0
  have hb:=rBit (Aw n) 0 (by decide)
  have hl:((limbs n).length:Int)≠0:=by
   intro h;exact h0 (Iq (by have:Sbn.sz n=(limbs n).length:=rfl;omega))
  have hl2:(0:Int)<((limbs n).length:Int):=by omega
  rw [AA,Nat.pow_zero,Nat.div_one,a1] at hb
  have hnt:nth (limbs n) 0=some ((n%4294967296:Nat):Int):=by
   rw [Fu h0];unfold nth;rw [if_pos ⟨by omega,by simp only [List.length_cons];omega⟩];rfl
  have hb2:BZ (limbs n) 0=some 1:=hb
  have e1:(((n%4294967296:Nat):Int)%2)=1:=by omega
  rw [hb2,hnt]
  simp only [decide_eq_true hl2,sB,if_true,e1,decide_eq_true a2,decide_eq_true a3,if_neg hl]
  cases s<;>exact ⟨rfl,rfl⟩
theorem Lx (x:AG) (hx:Dig x.Man.Abs):∃v,AL x=some v∧Fc x=some v∧(v=true→∃d,x=toL d∧VT d):=by
 obtain ⟨⟨s,l⟩,e⟩:=x
 simp only at hx
 unfold AL Fc Ea Gq
 simp only
 rw [show BT l=_ from Mk hx,nValid hx,sB]
 by_cases hP:l.length≤1024∧limbs (val l)=l
 ·rw [decide_eq_true hP]
  obtain ⟨hl,hc⟩:=hP
  generalize val l=n at hc
  subst hc
  by_cases h0:n=0
  ·subst h0
   cases s
   ·exact ⟨decide (e=0),rfl,rfl,fun h=>⟨⟨⟨false,0⟩,e⟩,rfl,hl,fun _=>⟨rfl,of_decide_eq_true h⟩,fun h=>absurd rfl h⟩⟩
   ·exact ⟨false,rfl,rfl,fun h=>by cases h⟩
  ·have hb:=rBit (Aw n) 0 (by decide)
   have hz:Sbn.sz n=(limbs n).length:=rfl
   have hln:((limbs n).length:Int)≠0:=by
    intro h;exact h0 (Iq (by omega))
   have hl2:(0:Int)<((limbs n).length:Int):=by omega
   rw [AA,Nat.pow_zero,Nat.div_one] at hb
   have hnt:nth (limbs n) 0=some ((n%4294967296:Nat):Int):=by
    rw [Fu h0];unfold nth;rw [if_pos ⟨by omega,by simp only [List.length_cons];omega⟩];rfl
   have hb2:BZ (limbs n) 0=some ((n%2:Nat):Int):=hb
   rw [hb2,hnt]
   have c1:(((n%2:Nat):Int)=1)=(n%2=1):=by apply propext;omega
   refine ⟨decide (n%2=1∧-1048576≤e∧e≤1048576),?_,?_,fun h=>?_⟩
   ·simp only [decide_eq_true hl2,sB,if_true,if_neg hln,c1]
    by_cases a1:n%2=1<;>by_cases a2 : -1048576≤e<;>by_cases a3:e≤1048576<;>cases s<;>simp [a1,a2,a3,sB]
   ·simp only [decide_eq_true hl2,sB,if_true,if_neg hln]
    have e1:(((n%4294967296:Nat):Int)%2)=((n%2:Nat):Int):=by omega
    simp only [e1,c1]
    by_cases a1:n%2=1<;>by_cases a2 : -1048576≤e<;>by_cases a3:e≤1048576<;>cases s<;>simp [a1,a2,a3,sB]
   ·have h:=of_decide_eq_true h
    exact ⟨⟨⟨s,n⟩,e⟩,rfl,hl,fun h=>absurd h h0,fun _=>h⟩
 ·rw [decide_eq_false hP]
  exact ⟨false,rfl,rfl,fun h=>by cases h⟩
end Go.Proofs.Pq
namespace Go.Proofs.Pq
set_option linter.unusedVariables false
set_option linter.unusedSimpArgs false
set_option maxRecDepth 4000
open Go.Proofs Go.Sb Go.Proofs.Sbn Go.Proofs.Lf
theorem Mm (s:Bool) (M:Nat) (e:Int):nz (s && decide (M≠0)) M e=nz s M e:=by
 unfold nz
 by_cases h:M=0
 ·rw [if_pos h,if_pos h]
 ·rw [if_neg h,if_neg h,decide_eq_true h,Bool.and_true]
def addZ (s:Bool) (A:Nat) (t:Bool) (C:Nat):Bool × Nat:=if s=t then (s,A+C) else if C≤A then (s,A - C) else (t,C - A)
theorem addZ_Z (s:Bool) (A:Nat) (t:Bool) (C:Nat):Z (addZ s A t C).1 (addZ s A t C).2=Z s A+Z t C:=by
 unfold addZ Z
 by_cases h:C≤A<;>cases s<;>cases t<;>simp [h]<;>omega
theorem sm_add {a b:Nat} (ha:bl a≤400000) (hb:bl b≤400000):Sm (a+b):=by
 have:=MT ha hb
 unfold Sm;omega
theorem refSum (s t:Bool) (n m:Nat) (e f:Int) (hn:n≠0) (hm:m≠0) (hns:bl n≤40000) (hms:bl m≤40000) (hd:e - f≤300000) (hd':f - e≤300000)
  (he : -1000000≤e) (he':e≤1000000) (hf : -1000000≤f) (hf':f≤1000000) (A C:Nat) (hA:A=n*2^(e - min e f).toNat) (hC:C=m*2^(f - min e f).toNat) :
  DR ⟨⟨s,n⟩,e⟩ ⟨⟨t,m⟩,f⟩=some (toD (nz (addZ s A t C).1 (addZ s A t C).2 (min e f))):=by
 obtain ⟨a,ha⟩:∃a:Nat,e - min e f=(a:Int):=⟨(e - min e f).toNat,by omega⟩
 obtain ⟨c,hc⟩:∃c:Nat,f - min e f=(c:Int):=⟨(f - min e f).toNat,by omega⟩
 rw [ha] at hA;rw [hc] at hC
 rw [Int.toNat_natCast] at hA hC
 have hbA:bl A≤400000:=by rw [hA];have:=JM n a;omega
 have hbC:bl C≤400000:=by rw [hC];have:=JM m c;omega
 have hsA:Sm A:=by unfold Sm;omega
 have hsC:Sm C:=by unfold Sm;omega
 have hsg:∀a b:Nat,(0≤sgnc a b↔b≤a):=by intro a b;unfold sgnc;split<;>(try split)<;>omega
 unfold DR
 simp only [sz0]
 rw [if_neg hn,if_neg hm,w64 (x:=e - min e f) (by omega) (by omega),w64 (x:=f - min e f) (by omega) (by omega),ha,hc]
 unfold CJ
 simp only
 rw [rShl (by unfold Sm;omega) (by omega),sB,sB,rShl (by unfold Sm;omega) (by omega),sB,sB,←hA,←hC]
 unfold Fp addZ
 simp only
 by_cases hst:s=t
 ·have hs:=sm_add hbA hbC
  rw [if_pos hst,if_pos hst,rAdd hsA hsC,sB,signed,sB,sB,refOf _ _ _ hs (by omega) (by omega),sB,Mm]
 ·rw [if_neg hst,if_neg hst,rCmp hsA hsC,sB]
  by_cases h:C≤A
  ·rw [if_pos ((hsg _ _).2 h),if_pos h,rSub hsA h,sB,signed,sB,sB,refOf _ _ _ (Gf (Nat.sub_le _ _) hsA) (by omega) (by omega),sB,Mm]
  ·rw [if_neg (fun h2=>h ((hsg _ _).1 h2)),if_neg h,rSub hsC (by omega),sB,signed,sB,sB,refOf _ _ _ (Gf (Nat.sub_le _ _) hsC) (by omega) (by omega),sB,Mm]
theorem refMinus (s:Bool) (n:Nat) (e:Int):EJ ⟨⟨s,n⟩,e⟩=some ⟨⟨!s && decide (n≠0),n⟩,e⟩:=by
 unfold EJ DF
 simp only [signed,sB]
 cases s<;>rfl
theorem refSign (s:Bool) (n:Nat) (e:Int):Bp ⟨⟨s,n⟩,e⟩=some (sv s n):=by
 unfold Bp sv
 simp only [sz0]
 split
 ·rfl
 ·split<;>rfl
theorem refSign_nz (s:Bool) (n:Nat) (e:Int):Bp (toD (nz s n e))=some (sv s n):=by
 rw [←MP s n e,sign]
 exact refSign _ _ _
theorem KZ (s:Bool) (n:Nat):(sv s n<0↔Z s n<0)∧(0<sv s n↔0<Z s n):=by
 unfold sv Z
 by_cases h:n=0
 ·subst h;cases s<;>simp
 ·rw [if_neg h];cases s<;>simp<;>omega
theorem refCompare (s t:Bool) (n m:Nat) (e f:Int) (hns:bl n≤40000) (hms:bl m≤40000) (hd:e - f≤300000) (hd':f - e≤300000)
  (he : -1000000≤e) (he':e≤1000000) (hf : -1000000≤f) (hf':f≤1000000) :
  ∃k,Ei ⟨⟨s,n⟩,e⟩ ⟨⟨t,m⟩,f⟩=some k∧(k = -1∨k=0∨k=1)∧∀i j:Nat,e - f=(i:Int) - j→
   (k<0↔Z s n*(2^i:Nat)<Z t m*(2^j:Nat))∧(0<k↔Z t m*(2^j:Nat)<Z s n*(2^i:Nat)):=by
 have h01:∀s n,sv s n = -1∨sv s n=0∨sv s n=1:=by intro s n;unfold sv;split<;>(try split)<;>simp
 have hpos:∀i:Nat,(0:Int)<(2^i:Nat):=fun i=>by have:=Nat.two_pow_pos i;omega
 unfold Ei
 rw [refMinus,sB]
 by_cases hn:n=0
 ·unfold DR
  simp only [sz0]
  rw [if_pos hn,sB,refSign,sB]
  refine ⟨_,rfl,h01 _ _,fun i j hij=>?_⟩
  rw [(KZ _ _).1,(KZ _ _).2,hn]
  have h0:Z s 0=0:=by cases s<;>rfl
  rw [h0,Int.zero_mul]
  have hq:=hpos j
  have h1:Z (!t && decide (m≠0)) m = - Z t m:=by
   unfold Z;by_cases h:m=0
   ·subst h;cases t<;>rfl
   ·cases t<;>simp [h]
  rw [h1]
  constructor
  ·constructor
   ·intro h;exact Int.mul_pos (by omega) hq
   ·intro h;have:=Int.pos_of_mul_pos_left h hq;omega
  ·constructor
   ·intro h;exact Int.mul_neg_of_neg_of_pos (by omega) hq
   ·intro h
    rcases Int.lt_trichotomy (Z t m) 0 with h2 | h2 | h2
    ·omega
    ·rw [h2,Int.zero_mul] at h;omega
    ·have:=Int.mul_pos h2 hq;omega
 ·by_cases hm:m=0
  ·unfold DR
   simp only [sz0]
   rw [if_neg hn,if_pos hm,sB,refSign,sB]
   refine ⟨_,rfl,h01 _ _,fun i j hij=>?_⟩
   rw [(KZ _ _).1,(KZ _ _).2,hm]
   have h0:Z t 0=0:=by cases t<;>rfl
   rw [h0,Int.zero_mul]
   have hq:=hpos i
   constructor
   ·constructor
    ·intro h;exact Int.mul_neg_of_neg_of_pos h hq
    ·intro h
     rcases Int.lt_trichotomy (Z s n) 0 with h2 | h2 | h2
     ·exact h2
     ·rw [h2,Int.zero_mul] at h;omega
     ·have:=Int.mul_pos h2 hq;omega
   ·constructor
    ·intro h;exact Int.mul_pos h hq
    ·intro h
     rcases Int.lt_trichotomy (Z s n) 0 with h2 | h2 | h2
     ·have:=Int.mul_neg_of_neg_of_pos h2 hq;omega
     ·rw [h2,Int.zero_mul] at h;omega
     ·exact h2
  ·have hbm:(!t && decide (m≠0)) = !t:=by rw [decide_eq_true hm,Bool.and_true]
   rw [hbm,refSum s (!t) n m e f hn hm hns hms hd hd' he he' hf hf' _ _ rfl rfl,sB,refSign_nz,sB]
   refine ⟨_,rfl,h01 _ _,fun i j hij=>?_⟩
   rw [(KZ _ _).1,(KZ _ _).2,addZ_Z,Gj,Gj]
   have h1:Z (!t) m = - Z t m:=by unfold Z;cases t<;>simp
   rw [h1,Int.neg_mul]
   obtain ⟨a,ha⟩:∃a:Nat,(e - min e f).toNat=a:=⟨_,rfl⟩
   obtain ⟨c,hc⟩:∃c:Nat,(f - min e f).toNat=c:=⟨_,rfl⟩
   rw [ha,hc]
   have k1:=JJ (X:=Z s n) (Y:=Z t m) (a:=a) (c:=c) (i:=i) (j:=j) (by omega)
   have k2:=JJ (X:=Z t m) (Y:=Z s n) (a:=c) (c:=a) (i:=j) (j:=i) (by omega)
   generalize Z s n*(2^a:Nat)=X at *
   generalize Z t m*(2^c:Nat)=Y at *
   generalize Z s n*(2^i:Nat)=X' at *
   generalize Z t m*(2^j:Nat)=Y' at *
   omega
theorem VT.ok {d:Aj} (h:VT d) (hl : -5000≤d.Exp) (hu:d.Exp≤5000) (hs:Sbn.sz d.Man.Abs≤600):Ok d:=
 ⟨fun h0=>(h.z h0).1,by have:=Ln hs;omega,hl,hu⟩
theorem outOK {r:Ao} (h:Cb r):Eo r=some (.ok (toD r))∧VT (toD r):=by
 obtain ⟨h1,h2,h3,s,M,e,rfl⟩:=h
 have hS:Sm (nz s M e).m.Abs:=by unfold Sm;omega
 have hz:Sbn.sz (nz s M e).m.Abs≤1000:=Iw (by omega)
 have hv:VT (toD (nz s M e)):=by
  refine ⟨Nat.le_trans hz (by decide),fun h=>?_,fun h=>?_⟩
  ·have h0:M=0:=by
    by_cases h0:M=0
    ·exact h0
    ·exfalso
     unfold toD nz at h
     rw [if_neg h0] at h
     simp only at h
     obtain ⟨q,hq⟩:=KE M
     generalize tz M=z at *
     rw [hq,Nat.mul_div_cancel _ (Nat.two_pow_pos z)] at h
     rw [h,Nat.zero_mul] at hq;exact h0 hq
   unfold toD nz
   rw [if_pos h0]
   exact ⟨rfl,rfl⟩
  ·have h0:M≠0:=by
    intro h0;apply h;unfold toD nz;rw [if_pos h0]
   refine ⟨?_,by show _≤(nz s M e).e;omega,by show (nz s M e).e≤_;omega⟩
   unfold toD nz
   rw [if_neg h0]
   simp only
   obtain ⟨q,hq,_⟩:=GJ h0
   generalize tz M=z at *
   rw [hq,Nat.mul_div_cancel_left _ (Nat.two_pow_pos z)];omega
 refine ⟨?_,hv⟩
 have hneg:(if (nz s M e).m.Neg=true then some (decide (0<(Sbn.sz (nz s M e).m.Abs:Int))) else some false)=some (nz s M e).m.Neg:=by
  simp only [KF]
  by_cases h0:(nz s M e).m.Abs=0
  ·have:=(hv.z h0).1
   have h5:(nz s M e).m.Neg=false:=this
   rw [h5];rfl
  ·rw [decide_eq_true h0];cases (nz s M e).m.Neg<;>rfl
 unfold Eo DD
 generalize nz s M e=r at *
 rw [if_pos (by omega),sB,decide_eq_true (show r.e≤1048576 by omega),if_pos rfl,sB,decide_eq_true (show -1048576≤r.e by omega),if_neg (by simp)]
 show (CW r.m.Abs).bind _=_
 rw [wClone hS,sB]
 unfold Hk
 simp only
 rw [hneg,sB,sB]
 rfl
theorem sameInt (a:Ai) (h:Sm a.Abs):En a a=some true:=by
 unfold En
 rw [if_pos rfl,same _ _ h,decide_eq_true rfl];rfl
theorem sameD (a:Aj) (h:Sm a.Man.Abs):Cr a a=some true:=by
 unfold Cr
 rw [sameInt _ h,sB,if_pos rfl,decide_eq_true rfl];rfl
def zD:Aj:=⟨⟨false,0⟩,0⟩
def zS:Am:=⟨zD,zD⟩
theorem sm0:Sm 0:=by unfold Sm;decide
theorem VT.sm {d:Aj} (h:VT d):Sm d.Man.Abs:=by have:=Ln h.s;unfold Sm;omega
theorem Oi (a:Am) (h:Sm a.Lo.Man.Abs) (h':Sm a.Hi.Man.Abs):Br a a=some true:=by
 unfold Br
 rw [sameD _ h,sB,if_pos rfl,sameD _ h'];rfl
theorem KB (e:Int) (x:Am) (he:e≠0):Bs zS e e x=some true:=by
 unfold Bs
 rw [if_pos he,if_pos rfl]
 show ((Br zS zS).bind fun r=>some r).bind _=_
 rw [Oi zS sm0 sm0];rfl
theorem NU (lo hi:Aj) (h:VT lo) (h':VT hi):Bs ⟨lo,hi⟩ 0 0 ⟨lo,hi⟩=some true:=by
 unfold Bs ER
 rw [if_neg (by decide)]
 simp only
 rw [show AL ⟨⟨lo.Man.Neg,limbs lo.Man.Abs⟩,lo.Exp⟩=some true from (validT h).1,sB,if_neg (by simp),show AL ⟨⟨hi.Man.Neg,limbs hi.Man.Abs⟩,hi.Exp⟩=some true from (validT h').1,sB,sB,if_neg (by simp),sB,if_pos rfl]
 rw [Oi ⟨lo,hi⟩ h.sm h'.sm];rfl
end Go.Proofs.Pq
namespace Go.Proofs.Pq
set_option linter.unusedVariables false
set_option linter.unusedSimpArgs false
set_option maxRecDepth 4000
open Go.Proofs Go.Sb Go.Proofs.Sbn Go.Proofs.Lf
theorem few_ (x:Au) (h0:Dig x.Lo.Man.Abs) (h1:Dig x.Hi.Man.Abs):∃v,EE x=some v∧(v=true→(∀d,x.Lo=toL d→VT d→Ok d)∧∀d,x.Hi=toL d→VT d→Ok d):=by
 obtain ⟨a,b⟩:=x
 obtain ⟨v0,e0,_,_⟩:=Lx a h0
 obtain ⟨v1,e1,_,_⟩:=Lx b h1
 have step:∀(a:AG) (v:Bool),AL a=some v→∃q,(if 20<((List.length a.Man.Abs:Int)) then some (true) else (AL a).bind fun r144=>
   (if r144=true then (if a.Exp<((-800)) then some (true) else some ((decide (800<a.Exp)))).bind fun m209=>some (m209) else some (false)).bind fun m178=>some (m178))=some q∧(q=false→∀d,a=toL d→VT d→Ok d):=by
  intro a v hv
  by_cases hl:20<(List.length a.Man.Abs:Int)
  ·exact ⟨true,if_pos hl,fun h=>by cases h⟩
  ·rw [if_neg hl,hv,sB]
   have key:(-800≤a.Exp∧a.Exp≤800)→∀d,a=toL d→VT d→Ok d:=by
    rintro ⟨k1,k2⟩ d rfl hd
    have e1:(toL d).Exp=d.Exp:=rfl
    have e2:(toL d).Man.Abs.length=Sbn.sz d.Man.Abs:=rfl
    exact hd.ok (by omega) (by omega) (by omega)
   cases v
   ·refine ⟨false,rfl,fun _ d hd hv'=>?_⟩
    subst hd;rw [(validT hv').1] at hv;cases hv
   ·rw [if_pos rfl]
    by_cases k1:a.Exp < -800
    ·exact ⟨true,by rw [if_pos k1];rfl,fun h=>by cases h⟩
    ·rw [if_neg k1]
     exact ⟨decide (800<a.Exp),rfl,fun h=>key ⟨by omega,by have:=of_decide_eq_false h;omega⟩⟩
 obtain ⟨q0,s0,k0⟩:=step a v0 e0
 obtain ⟨q1,s1,k1⟩:=step b v1 e1
 unfold EE
 simp only
 rw [s0,sB]
 cases q0
 ·rw [if_neg (by decide),s1,sB]
  cases q1
  ·exact ⟨true,rfl,fun _=>⟨k0 rfl,k1 rfl⟩⟩
  ·exact ⟨false,rfl,fun h=>by cases h⟩
 ·exact ⟨false,rfl,fun h=>by cases h⟩
theorem MU (x:Au) (h0:Dig x.Lo.Man.Abs) (h1:Dig x.Hi.Man.Abs) (k0:∀d,x.Lo=toL d→VT d→Ok d) (k1:∀d,x.Hi=toL d→VT d→Ok d) :
  ∃v,DI x=some v∧Dn x=some v∧(v=true→∃lo hi,x=⟨toL lo,toL hi⟩∧VT lo∧VT hi∧Ok lo∧Ok hi∧LeV (ofD lo) (ofD hi)):=by
 obtain ⟨a,b⟩:=x
 obtain ⟨v0,e0,f0,g0⟩:=Lx a h0
 obtain ⟨v1,e1,f1,g1⟩:=Lx b h1
 unfold DI Dn
 simp only
 rw [e0,f0,sB,sB]
 cases v0
 ·exact ⟨false,rfl,rfl,fun h=>by cases h⟩
 ·rw [e1,f1]
  cases v1
  ·exact ⟨false,rfl,rfl,fun h=>by cases h⟩
  ·obtain ⟨lo,rfl,hlo⟩:=g0 rfl
   obtain ⟨hi,rfl,hhi⟩:=g1 rfl
   have o0:=k0 lo rfl hlo
   have o1:=k1 hi rfl hhi
   obtain ⟨⟨s,n⟩,e⟩:=lo
   obtain ⟨⟨t,m⟩,f⟩:=hi
   obtain ⟨k,hk,_,hk2⟩:=refCompare s t n m e f (Nat.le_trans o0.s (by decide)) (Nat.le_trans o1.s (by decide)) (by have:=o0.u;have:=o1.l;simp only at *;omega) (by have:=o1.u;have:=o0.l;simp only at *;omega) (by have:=o0.l;simp only at *;omega) (by have:=o0.u;simp only at *;omega) (by have:=o1.l;simp only at *;omega) (by have:=o1.u;simp only at *;omega)
   obtain ⟨c,hc,_,hc2⟩:=Od ⟨⟨s,n⟩,e⟩ ⟨⟨t,m⟩,f⟩ o0.s o1.s (by have:=o0.l;simp only at *;omega) (by have:=o0.u;simp only at *;omega) (by have:=o1.l;simp only at *;omega) (by have:=o1.u;simp only at *;omega)
   have hkc:k≤0↔LeV ⟨⟨s,n⟩,e⟩ ⟨⟨t,m⟩,f⟩:=by
    constructor
    ·intro h i j hij
     exact Int.not_lt.1 fun h5=>by have:=((hk2 i j hij).2).2 h5;omega
    ·intro h
     have h5:=h (e - f).toNat (-(e - f)).toNat (by simp only;omega)
     have h6:=(hk2 (e - f).toNat (-(e - f)).toNat (by omega)).2
     refine Int.not_lt.1 fun h7=>?_
     have:=h6.1 h7
     simp only at h5
     omega
   refine ⟨decide (k≤0),?_,?_,fun h=>⟨_,_,rfl,hlo,hhi,o0,o1,hkc.1 (of_decide_eq_true h)⟩⟩
   ·unfold toL
    simp only [if_true,sB,Gn]
    rw [hk,sB]
    rfl
   ·unfold toL
    simp only [if_true,sB,Gn,Hd,HJ]
    rw [hc,sB]
    congr 1
    apply decide_eq_decide.2
    rw [hkc,←hc2];omega
theorem fineP (b:Int):FV b=if 1≤b∧b≤4096 then some (.ok ()) else some (.error 1):=by
 unfold FV DD
 by_cases h1:1≤b<;>by_cases h2:b≤4096<;>simp [h1,h2,sB,mb]
theorem fineL (b:Int):ET b=some (decide (1≤b∧b≤4096)):=by
 unfold ET
 by_cases h1:1≤b<;>by_cases h2:b≤4096<;>simp [h1,h2,sB]
theorem over_err (x y:Au) (b:Int) (v0 v1:Bool) (p0:Dn x=some v0) (p1:Dn y=some v1) (h:¬(v0=true∧v1=true∧1≤b∧b≤4096)):Fw x y b=some (zS,1):=by
 unfold Fw CG Ds Du
 rw [p0,p1,fineP]
 cases v0
 ·rfl
 ·cases v1
  ·rfl
  ·rw [if_neg (fun h2=>h ⟨rfl,rfl,h2⟩)];rfl
theorem over_ok (x y:Am) (b:Int) (X Y:Au) (hX:X=⟨toL x.Lo,toL x.Hi⟩) (hY:Y=⟨toL y.Lo,toL y.Hi⟩) (p0:Dn X=some true) (p1:Dn Y=some true) (h:1≤b∧b≤4096) :
  Fw X Y b=((mb (FD ⟨ofD x.Lo,ofD x.Hi⟩ ⟨ofD y.Lo,ofD y.Hi⟩ b) fun r117=>(some (.ok (r117,0)):M (Am × Int))).bind fun q=>match q with | .ok r=>some r | .error n=>some (zS,n)):=by
 unfold Fw CG Ds Du
 rw [p0,p1,fineP,if_pos h]
 subst hX hY
 unfold toL
 simp only [Gn]
 show ((mb (FD ⟨ofD x.Lo,ofD x.Hi⟩ ⟨ofD y.Lo,ofD y.Hi⟩ b) _).bind _).bind _=_
 generalize FD ⟨ofD x.Lo,ofD x.Hi⟩ ⟨ofD y.Lo,ofD y.Hi⟩ b=m
 match m with
 | none=>rfl
 | some (.error n)=>rfl
 | some (.ok r)=>rfl
theorem root_err (x:Au) (b:Int) (v0:Bool) (p0:Dn x=some v0) (h:¬(v0=true∧1≤b∧b≤4096)):FB x b=some (zS,1):=by
 unfold FB CH Dt Du
 rw [p0,fineP]
 cases v0
 ·rfl
 ·rw [if_neg (fun h2=>h ⟨rfl,h2⟩)];rfl
theorem root_ok (x:Am) (b:Int) (X:Au) (hX:X=⟨toL x.Lo,toL x.Hi⟩) (p0:Dn X=some true) (h:1≤b∧b≤4096) :
  FB X b=((mb (FE ⟨ofD x.Lo,ofD x.Hi⟩ ⟨ofD x.Lo,ofD x.Hi⟩ b) fun r117=>(some (.ok (r117,0)):M (Am × Int))).bind fun q=>match q with | .ok r=>some r | .error n=>some (zS,n)):=by
 unfold FB CH Dt Du
 rw [p0,fineP,if_pos h]
 subst hX
 unfold toL
 simp only [Gn]
 show ((mb (FE ⟨ofD x.Lo,ofD x.Hi⟩ ⟨ofD x.Lo,ofD x.Hi⟩ b) _).bind _).bind _=_
 generalize FE ⟨ofD x.Lo,ofD x.Hi⟩ ⟨ofD x.Lo,ofD x.Hi⟩ b=m
 match m with
 | none=>rfl
 | some (.error n)=>rfl
 | some (.ok r)=>rfl
theorem signs {lo hi:Aj} (h:LeV (ofD lo) (ofD hi)):(0<sv lo.Man.Neg lo.Man.Abs→0<sv hi.Man.Neg hi.Man.Abs)∧(sv hi.Man.Neg hi.Man.Abs<0→sv lo.Man.Neg lo.Man.Abs<0):=by
 have h5:=h (lo.Exp - hi.Exp).toNat (-(lo.Exp - hi.Exp)).toNat (by show lo.Exp - hi.Exp=_;omega)
 have hp1:(0:Int)<(2^(lo.Exp - hi.Exp).toNat:Nat):=by have:=Nat.two_pow_pos (lo.Exp - hi.Exp).toNat;omega
 have hp2:(0:Int)<(2^(-(lo.Exp - hi.Exp)).toNat:Nat):=by have:=Nat.two_pow_pos (-(lo.Exp - hi.Exp)).toNat;omega
 have h5:Z lo.Man.Neg lo.Man.Abs*(2^(lo.Exp - hi.Exp).toNat:Nat)≤Z hi.Man.Neg hi.Man.Abs*(2^(-(lo.Exp - hi.Exp)).toNat:Nat):=h5
 generalize ((2^(lo.Exp - hi.Exp).toNat:Nat):Int)=P at *
 generalize ((2^(-(lo.Exp - hi.Exp)).toNat:Nat):Int)=Q at *
 rw [(KZ _ _).2,(KZ _ _).2,(KZ _ _).1,(KZ _ _).1]
 generalize Z lo.Man.Neg lo.Man.Abs=A at *
 generalize Z hi.Man.Neg hi.Man.Abs=C at *
 constructor
 ·intro hA
  have h6:=Int.mul_pos hA hp1
  exact Int.pos_of_mul_pos_left (show 0<C*Q by omega) hp2
 ·intro hC
  have h6:=Int.mul_neg_of_neg_of_pos hC hp2
  rcases Int.lt_trichotomy A 0 with h2 | h2 | h2
  ·exact h2
  ·rw [h2,Int.zero_mul] at h5;omega
  ·have:=Int.mul_pos h2 hp1;omega
theorem sv01 (s:Bool) (n:Nat):sv s n = -1∨sv s n=0∨sv s n=1:=by unfold sv;split<;>(try split)<;>simp
end Go.Proofs.Pq
namespace Go.Proofs.Pq
set_option linter.unusedVariables false
set_option linter.unusedSimpArgs false
set_option maxRecDepth 4000
open Go.Proofs Go.Sb Go.Proofs.Sbn Go.Proofs.Lf
theorem sanity:Ev=some true:=by kernel_rfl
theorem Mc {lo hi:Ao} (h:Cb lo) (h':Cb hi):DL ⟨lo,hi⟩=some (.ok ⟨toD lo,toD hi⟩):=by
 unfold DL
 rw [(outOK h).1]
 show mb (Eo hi) _=_
 rw [(outOK h').1]
 rfl
theorem refSide (lo hi:Aj):EV ⟨lo,hi⟩=some (if 0<sv lo.Man.Neg lo.Man.Abs then 1 else if sv hi.Man.Neg hi.Man.Abs<0 then -1 else 0):=by
 unfold EV
 rw [show Bp (Am.Lo ⟨lo,hi⟩)=some (sv lo.Man.Neg lo.Man.Abs) from refSign _ _ _,sB]
 split
 ·rfl
 ·rw [show Bp (Am.Hi ⟨lo,hi⟩)=some (sv hi.Man.Neg hi.Man.Abs) from refSign _ _ _,sB]
  split<;>rfl
theorem Oq {s:Bool} {n:Nat} (h:sv s n≠0):n≠0:=by intro h0;apply h;unfold sv;rw [if_pos h0]
theorem NX {d:Aj} (hv:VT d) (ho:Ok d) (b:Nat) (dir:Int) (hb:1≤b) (hb':b≤2000):∃r,Fe (ofD d) (b:Int) dir=some r∧Cf d (b:Int) dir=some (toD r)∧Cb r:=by
 obtain ⟨⟨s,n⟩,e⟩:=d
 by_cases h0:n=0
 ·obtain ⟨h1,h2⟩:=hv.z h0
  simp only at h1 h2
  subst h0 h1 h2
  exact ⟨⟨⟨false,0⟩,0⟩,rfl,rfl,by decide,by decide,by decide,false,0,0,rfl⟩
 ·obtain ⟨M,_,f,r,h1,h2,h3,h4,h5,h6⟩:=root_eq s n b e dir h0 ho.s hb hb' ho.l ho.u
  refine ⟨r,h5,h6,?_⟩
  have hM:bl M≤b+1:=by rw [Dp,Nat.pow_succ];have:=Nat.two_pow_pos b;omega
  have hb2:bl r.m.Abs≤b+1∧f≤r.e+1000000∧-1000000≤r.e∧r.e≤1000000:=by
   rw [h1];unfold nz
   by_cases hM0:M=0
   ·rw [if_pos hM0];simp only;rw [GU];omega
   ·rw [if_neg hM0];simp only
    have:=Jn M (2^tz M)
    obtain ⟨q,_,hq⟩:=GJ hM0
    omega
  exact ⟨by omega,by omega,by omega,false,M,f,h1⟩
theorem bb (o:Option Bool):((o.bind fun r=>some r).bind fun m=>some m)=o:=by cases o<;>rfl
theorem lawQuotients (x0 x1:Au) (x2:Int) (h0:Dig x0.Lo.Man.Abs) (h1:Dig x0.Hi.Man.Abs) (h2:Dig x1.Lo.Man.Abs) (h3:Dig x1.Hi.Man.Abs):DM x0 x1 x2=some true:=by
 obtain ⟨w0,fe0,fk0⟩:=few_ x0 h0 h1
 obtain ⟨w1,fe1,fk1⟩:=few_ x1 h2 h3
 unfold DM
 rw [fe0,fe1,sanity,sB]
 cases w0
 ·rfl
 cases w1
 ·rfl
 by_cases hb5:500<x2
 ·simp only [not_true_eq_false,if_false,sB,decide_false,Bool.false_eq_true,if_pos hb5,decide_eq_true hb5,if_true]
 obtain ⟨ka,kb⟩:=fk0 rfl
 obtain ⟨kc,kd⟩:=fk1 rfl
 obtain ⟨v0,pe0,pp0,pk0⟩:=MU x0 h0 h1 ka kb
 obtain ⟨v1,pe1,pp1,pk1⟩:=MU x1 h2 h3 kc kd
 simp only [not_true_eq_false,if_false,sB,decide_false,Bool.false_eq_true,decide_eq_false hb5]
 rw [fineL,sB,pe0,pe1]
 simp only [sB]
 have second:∀(m119:Bool),m119=(decide (1≤x2∧x2≤4096) && v0)→((Dd m119).bind fun r435=>
   (if r435=0 then (toN x0.Lo.Man.Abs).bind fun m478=>(Bp ((⟨(⟨x0.Lo.Man.Neg,m478⟩:Ai),x0.Lo.Exp⟩:Aj))).bind fun r484=>some ((decide (r484<0))) else some (false)).bind fun m462=>
   (if m462=true then some (3) else some (r435)).bind fun m496=>
   (if m496=0 then (toN x0.Lo.Man.Abs).bind fun m570=>(toN x0.Hi.Man.Abs).bind fun m576=>(ES ((⟨(⟨(⟨x0.Lo.Man.Neg,m570⟩:Ai),x0.Lo.Exp⟩:Aj),(⟨(⟨x0.Hi.Man.Neg,m576⟩:Ai),x0.Hi.Exp⟩:Aj)⟩:Am)) x2).bind fun r582=>
    some (r582.Lo.Man.Neg,r582.Lo.Man.Abs,r582.Lo.Exp,r582.Hi.Man.Neg,r582.Hi.Man.Abs,r582.Hi.Exp) else some (false,0,0,false,0,0)).bind fun m545=>
   (FB x0 x2).bind fun r608=>
   (Bs r608.1 r608.2 m496 ((⟨(⟨(⟨m545.1,m545.2.1⟩:Ai),m545.2.2.1⟩:Aj),(⟨(⟨m545.2.2.2.1,m545.2.2.2.2.1⟩:Ai),m545.2.2.2.2.2⟩:Aj)⟩:Am))))=some true:=by
  intro m119 hm
  by_cases hok:m119=true
  ·rw [hok] at hm
   have hf:1≤x2∧x2≤4096:=by
    have:=(Bool.and_eq_true _ _▸hm.symm:decide (1≤x2∧x2≤4096)=true∧v0=true).1
    exact of_decide_eq_true this
   have hv0:v0=true:=(Bool.and_eq_true _ _▸hm.symm:decide (1≤x2∧x2≤4096)=true∧v0=true).2
   obtain ⟨lo,hi,rfl,vl,vh,ol,oh,hle⟩:=pk0 hv0
   subst hv0
   rw [hok,root_ok ⟨lo,hi⟩ x2 _ rfl pp0 hf]
   obtain ⟨b,hb⟩:∃b:Nat,x2=(b:Int):=⟨x2.toNat,by omega⟩
   subst hb
   have ht0:toN (toL lo).Man.Abs=some lo.Man.Abs:=Gn _
   have ht1:toN (toL hi).Man.Abs=some hi.Man.Abs:=Gn _
   rw [show Dd true=some 0 from rfl,sB,if_pos rfl,ht0,ht1,sB,sB,sB]
   have hS:Bp ⟨⟨(toL lo).Man.Neg,lo.Man.Abs⟩,(toL lo).Exp⟩=some (sv lo.Man.Neg lo.Man.Abs):=refSign _ _ _
   rw [hS,sB]
   have hsg:Bl (ofD lo)=some (sv lo.Man.Neg lo.Man.Abs):=sign _ _ _
   unfold FE
   rw [hsg,sB]
   by_cases hneg:sv lo.Man.Neg lo.Man.Abs<0
   ·rw [decide_eq_true hneg,sB,if_pos rfl,sB,if_neg (by decide),sB,decide_eq_false (by omega)]
    exact KB 3 zS (by decide)
   ·rw [decide_eq_false hneg,sB,if_neg (by decide),sB,if_pos rfl,decide_eq_true (show 0≤sv lo.Man.Neg lo.Man.Abs by omega)]
    obtain ⟨r5,a1,a2,a3⟩:=NX vl ol b 5 (by omega) (by omega)
    obtain ⟨r4,b1,b2,b3⟩:=NX vh oh b 4 (by omega) (by omega)
    unfold ES
    show ((((Cf lo (b:Int) 5).bind fun r19=>(Cf hi (b:Int) 4).bind fun r40=>some (⟨r19,r40⟩:Am)).bind _).bind _)=_
    rw [a2,sB,b2,sB,sB,sB]
    show (((mb ((Fe (ofD lo) (b:Int) 5).bind fun r48=>(Fe (ofD hi) (b:Int) 4).bind fun r58=>mb (DL ⟨r48,r58⟩) fun r67=>some (.ok r67)) _).bind _).bind _)=_
    rw [a1,sB,b1,sB,Mc a3 b3]
    exact NU _ _ (outOK a3).2 (outOK b3).2
  ·have hm1:m119=false:=by simpa using hok
   rw [hm1]
   have he:¬(v0=true∧1≤x2∧x2≤4096):=by
    rintro ⟨k1,k2⟩
    rw [hm1,k1,decide_eq_true k2] at hm;cases hm
   rw [root_err x0 x2 v0 pp0 he]
   exact KB 1 zS (by decide)
 have hm119:(if decide (1≤x2∧x2≤4096)=true then some v0 else some false)=some (decide (1≤x2∧x2≤4096) && v0):=by
  cases decide (1≤x2∧x2≤4096)<;>rfl
 have hm154:(if (decide (1≤x2∧x2≤4096) && v0)=true then some v1 else some false)=some (decide (1≤x2∧x2≤4096) && v0 && v1):=by
  cases decide (1≤x2∧x2≤4096)<;>cases v0<;>rfl
 rw [hm119,sB,hm154,sB]
 have sec:=second _ rfl
 generalize hG:(decide (1≤x2∧x2≤4096) && v0)=G at *
 by_cases hok:(G && v1)=true
 ·obtain ⟨hGt,hv1⟩:=(Bool.and_eq_true _ _▸hok:G=true∧v1=true)
  rw [hGt] at hG
  have hG2:=(Bool.and_eq_true _ _▸hG:decide (1≤x2∧x2≤4096)=true∧v0=true)
  have hf:1≤x2∧x2≤4096:=of_decide_eq_true hG2.1
  have hv0:v0=true:=hG2.2
  obtain ⟨lo,hi,hx0,vl,vh,ol,oh,hle⟩:=pk0 hv0
  obtain ⟨lo',hi',hx1,vl',vh',ol',oh',hle'⟩:=pk1 hv1
  subst hv0 hv1
  rw [hok,over_ok ⟨lo,hi⟩ ⟨lo',hi'⟩ x2 x0 x1 hx0 hx1 pp0 pp1 hf]
  obtain ⟨b,hb⟩:∃b:Nat,x2=(b:Int):=⟨x2.toNat,by omega⟩
  subst hb
  have ht0:toN x0.Lo.Man.Abs=some lo.Man.Abs:=by rw [hx0];exact Gn _
  have ht1:toN x0.Hi.Man.Abs=some hi.Man.Abs:=by rw [hx0];exact Gn _
  have ht2:toN x1.Lo.Man.Abs=some lo'.Man.Abs:=by rw [hx1];exact Gn _
  have ht3:toN x1.Hi.Man.Abs=some hi'.Man.Abs:=by rw [hx1];exact Gn _
  have d0:(⟨⟨x0.Lo.Man.Neg,lo.Man.Abs⟩,x0.Lo.Exp⟩:Aj)=lo:=by rw [hx0];rfl
  have d1:(⟨⟨x0.Hi.Man.Neg,hi.Man.Abs⟩,x0.Hi.Exp⟩:Aj)=hi:=by rw [hx0];rfl
  have d2:(⟨⟨x1.Lo.Man.Neg,lo'.Man.Abs⟩,x1.Lo.Exp⟩:Aj)=lo':=by rw [hx1];rfl
  have d3:(⟨⟨x1.Hi.Man.Neg,hi'.Man.Abs⟩,x1.Hi.Exp⟩:Aj)=hi':=by rw [hx1];rfl
  rw [show Dd true=some 0 from rfl,sB,if_pos rfl]
  simp only [ht0,ht1,ht2,ht3,sB,d0,d1,d2,d3] at sec ⊢
  rw [refSide,sB]
  have hsg:=signs hle'
  have q1:=sv01 lo'.Man.Neg lo'.Man.Abs
  have q2:=sv01 hi'.Man.Neg hi'.Man.Abs
  have hs1:Bl (ofD lo')=some (sv lo'.Man.Neg lo'.Man.Abs):=sign _ _ _
  have hs2:Bl (ofD hi')=some (sv hi'.Man.Neg hi'.Man.Abs):=sign _ _ _
  have hn1:=@Oq lo'.Man.Neg lo'.Man.Abs
  have hn2:=@Oq hi'.Man.Neg hi'.Man.Abs
  unfold FD
  simp only [hs1,hs2,sB]
  generalize sv lo'.Man.Neg lo'.Man.Abs=S1 at *
  generalize sv hi'.Man.Neg hi'.Man.Abs=S2 at *
  have hw:wi64 (S1*S2)=S1*S2:=by
   rcases q1 with rfl | rfl | rfl<;>rcases q2 with rfl | rfl | rfl<;>decide
  rw [hw]
  by_cases hside:0<S1*S2
  ·have hne:¬(if 0<S1 then (1:Int) else if S2<0 then -1 else 0)=0:=by
    rcases q1 with rfl | rfl | rfl<;>rcases q2 with rfl | rfl | rfl<;>revert hside<;>decide
   have hz1:S1≠0:=by intro h;rw [h,Int.zero_mul] at hside;omega
   have hz2:S2≠0:=by intro h;rw [h,Int.mul_zero] at hside;omega
   rw [decide_eq_false hne,if_neg (by decide),sB,if_pos rfl,decide_eq_true hside]
   obtain ⟨r5,r4,a1,a2,a3,a4⟩:=over ⟨lo,hi⟩ ⟨lo',hi'⟩ b ⟨ofD lo,ofD hi⟩ ⟨ofD lo',ofD hi'⟩ (by omega) (by omega) ol oh ol' oh' (hn1 hz1) (hn2 hz2)
   rw [a2,sB,sB]
   have a1':((FL ⟨ofD lo,ofD hi⟩ ⟨ofD lo',ofD hi'⟩ (b:Int) (ofD lo) (ofD lo')).bind fun s84=>(BX ⟨ofD lo,ofD hi⟩ ⟨ofD lo',ofD hi'⟩ (b:Int) s84 (ofD lo) (ofD hi')).bind fun s85=>(BX ⟨ofD lo,ofD hi⟩ ⟨ofD lo',ofD hi'⟩ (b:Int) s85 (ofD hi) (ofD lo')).bind fun s86=>(BX ⟨ofD lo,ofD hi⟩ ⟨ofD lo',ofD hi'⟩ (b:Int) s86 (ofD hi) (ofD hi')))=some ⟨r5,r4⟩:=a1
   have a1'':((FL ⟨ofD lo,ofD hi⟩ ⟨ofD lo',ofD hi'⟩ (b:Int) (ofD lo) (ofD lo')).bind fun s84=>(BX ⟨ofD lo,ofD hi⟩ ⟨ofD lo',ofD hi'⟩ (b:Int) s84 (ofD lo) (ofD hi')).bind fun s85=>(BX ⟨ofD lo,ofD hi⟩ ⟨ofD lo',ofD hi'⟩ (b:Int) s85 (ofD hi) (ofD lo')).bind fun s86=>(BX ⟨ofD lo,ofD hi⟩ ⟨ofD lo',ofD hi'⟩ (b:Int) s86 (ofD hi) (ofD hi')).bind fun s87=>mb (DL s87) fun r796=>(some (.ok r796):M Am))=some (.ok ⟨toD r5,toD r4⟩):=by
    obtain ⟨t1,u1,u2⟩:=Option.bind_eq_some_iff.1 a1'
    obtain ⟨t2,u3,u4⟩:=Option.bind_eq_some_iff.1 u2
    obtain ⟨t3,u5,u6⟩:=Option.bind_eq_some_iff.1 u4
    rw [u1,sB,u3,sB,u5,sB,u6,sB,Mc a3 a4]
    rfl
   show (((mb (mb (some (.ok ())) _) _).bind _).bind _)=_
   have e1:∀ {α β:Type} (a:α) (f:α→M β),mb (some (.ok a)) f=f a:=fun _ _=>rfl
   rw [e1,a1'',e1,sB,sB]
   rw [NU _ _ (outOK a3).2 (outOK a4).2,sB]
   simp only [not_true_eq_false,if_false,bb,if_true]
   exact sec
  ·have hzz:(if 0<S1 then (1:Int) else if S2<0 then -1 else 0)=0:=by
    have:=hsg.1
    have:=hsg.2
    rcases q1 with rfl | rfl | rfl<;>rcases q2 with rfl | rfl | rfl<;>simp_all
   rw [decide_eq_true hzz,if_pos rfl,sB,if_neg (by decide),sB,decide_eq_false hside]
   have e8:∀ {α β γ:Type} (f:Unit→M α) (g:α→M β) (h:Except Int β→Option γ),Option.bind (mb (mb (DD false 8) f) g) h=h (.error 8):=fun _ _ _=>rfl
   rw [e8,sB]
   have a8:=KB 8 zS (by decide)
   unfold zS zD at a8 ⊢
   rw [a8,sB]
   simp only [not_true_eq_false,if_false,bb,if_true]
   exact sec
 ·have hf:(G && v1)=false:=by simpa using hok
  have he:¬(v0=true∧v1=true∧1≤x2∧x2≤4096):=by
   rintro ⟨k1,k2,k3⟩
   rw [k1,decide_eq_true k3] at hG
   rw [←hG,k2] at hf;cases hf
  rw [hf,show Dd false=some 1 from rfl,sB,if_neg (by decide),sB,if_neg (by decide),sB,if_neg (by decide),sB,over_err x0 x1 x2 v0 v1 pp0 pp1 he,sB]
  have a8:=KB 1 zS (by decide)
  unfold zS zD at a8 ⊢
  rw [a8,sB]
  simp only [not_true_eq_false,if_false,bb,if_true]
  exact sec
end Go.Proofs.Pq
