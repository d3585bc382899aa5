import Derived.Test.YtabiobmfelafoaaGreatDoorPB
import Derived.KernelRfl
namespace Go.Proofs.Pq
set_option linter.unusedVariables false
set_option linter.unusedSimpArgs false
set_option maxRecDepth 4000
open Go.Proofs Go.Sb Go.Proofs.Sbn Go.Proofs.Lf
theorem nValid {a:List Int} (ha:Dig a):Gs a=some (decide (a.length≤1024∧limbs (val a)=a)):=by
 rw [←Nh ha];rfl
def toL (d:Ak):Ap:=⟨⟨d.Man.Neg,limbs d.Man.Abs⟩,d.Exp⟩
def ofD (d:Ak):Am:=⟨d.Man,d.Exp⟩
structure VT (d:Ak):Prop where
 s:Sbn.sz d.Man.Abs≤1024
 z:d.Man.Abs=0→d.Man.Neg=false∧d.Exp=0
 o:d.Man.Abs≠0→d.Man.Abs%2=1∧-1048576≤d.Exp∧d.Exp≤1048576
theorem validT {d:Ak} (h:VT d):BT (toL d)=some true∧CF (toL d)=some true:=by
 obtain ⟨⟨s,n⟩,e⟩:=d
 obtain ⟨h1,h2,h3⟩:=h
 simp only at h1 h2 h3
 unfold BT CF Cd DC toL
 simp only
 rw [show Bk (limbs n)=_ from Nh (Ao n),nValid (Ao n),sB,Au,decide_eq_true ⟨h1,rfl⟩]
 by_cases h0:n=0
 ·obtain ⟨rfl,rfl⟩:=h2 h0
  subst h0
  exact ⟨rfl,rfl⟩
 ·obtain ⟨a1,a2,a3⟩:=h3 h0
  have hb:=rBit (Ao n) 0 (by decide)
  have hl:((limbs n).length:Int)≠0:=by
   intro h;exact h0 (Gk (by have:Sbn.sz n=(limbs n).length:=rfl;omega))
  have hl2:(0:Int)<((limbs n).length:Int):=by omega
  rw [Au,Nat.pow_zero,Nat.div_one,a1] at hb
  have hnt:nth (limbs n) 0=some ((n%4294967296:Nat):Int):=by
   rw [FN h0];unfold nth;rw [if_pos ⟨by omega,by simp only [List.length_cons];omega⟩];rfl
  have hb2:Ca (limbs n) 0=some 1:=hb
  have e1:(((n%4294967296:Nat):Int)%2)=1:=by omega
  rw [hb2,hnt]
  simp only [decide_eq_true hl2,sB,if_true,e1,decide_eq_true a2,decide_eq_true a3,if_neg hl]
  cases s<;>exact ⟨rfl,rfl⟩
theorem Pl (x:Ap) (hx:Dig x.Man.Abs):∃v,BT x=some v∧CF x=some v∧(v=true→∃d,x=toL d∧VT d):=by
 obtain ⟨⟨s,l⟩,e⟩:=x
 simp only at hx
 unfold BT CF Cd DC
 simp only
 rw [show Bk l=_ from Nh hx,nValid hx,sB]
 by_cases hP:l.length≤1024∧limbs (val l)=l
 ·rw [decide_eq_true hP]
  obtain ⟨hl,hc⟩:=hP
  generalize val l=n at hc
  subst hc
  by_cases h0:n=0
  ·subst h0
   cases s
   ·exact ⟨decide (e=0),rfl,rfl,fun h=>⟨⟨⟨false,0⟩,e⟩,rfl,hl,fun _=>⟨rfl,of_decide_eq_true h⟩,fun h=>absurd rfl h⟩⟩
   ·exact ⟨false,rfl,rfl,fun h=>by cases h⟩
  ·have hb:=rBit (Ao n) 0 (by decide)
   have hz:Sbn.sz n=(limbs n).length:=rfl
   have hln:((limbs n).length:Int)≠0:=by
    intro h;exact h0 (Gk (by omega))
   have hl2:(0:Int)<((limbs n).length:Int):=by omega
   rw [Au,Nat.pow_zero,Nat.div_one] at hb
   have hnt:nth (limbs n) 0=some ((n%4294967296:Nat):Int):=by
    rw [FN h0];unfold nth;rw [if_pos ⟨by omega,by simp only [List.length_cons];omega⟩];rfl
   have hb2:Ca (limbs n) 0=some ((n%2:Nat):Int):=hb
   rw [hb2,hnt]
   have c1:(((n%2:Nat):Int)=1)=(n%2=1):=by apply propext;omega
   refine ⟨decide (n%2=1∧-1048576≤e∧e≤1048576),?_,?_,fun h=>?_⟩
   ·simp only [decide_eq_true hl2,sB,if_true,if_neg hln,c1]
    by_cases a1:n%2=1<;>by_cases a2 : -1048576≤e<;>by_cases a3:e≤1048576<;>cases s<;>simp [a1,a2,a3,sB]
   ·simp only [decide_eq_true hl2,sB,if_true,if_neg hln]
    have e1:(((n%4294967296:Nat):Int)%2)=((n%2:Nat):Int):=by omega
    simp only [e1,c1]
    by_cases a1:n%2=1<;>by_cases a2 : -1048576≤e<;>by_cases a3:e≤1048576<;>cases s<;>simp [a1,a2,a3,sB]
   ·have h:=of_decide_eq_true h
    exact ⟨⟨⟨s,n⟩,e⟩,rfl,hl,fun h=>absurd h h0,fun _=>h⟩
 ·rw [decide_eq_false hP]
  exact ⟨false,rfl,rfl,fun h=>by cases h⟩
end Go.Proofs.Pq
namespace Go.Proofs.Pq
set_option linter.unusedVariables false
set_option linter.unusedSimpArgs false
set_option maxRecDepth 4000
open Go.Proofs Go.Sb Go.Proofs.Sbn Go.Proofs.Lf
theorem OF (s:Bool) (M:Nat) (e:Int):nz (s && decide (M≠0)) M e=nz s M e:=by
 unfold nz
 by_cases h:M=0
 ·rw [if_pos h,if_pos h]
 ·rw [if_neg h,if_neg h,decide_eq_true h,Bool.and_true]
def addZ (s:Bool) (A:Nat) (t:Bool) (C:Nat):Bool × Nat:=if s=t then (s,A+C) else if C≤A then (s,A - C) else (t,C - A)
theorem addZ_Z (s:Bool) (A:Nat) (t:Bool) (C:Nat):Z (addZ s A t C).1 (addZ s A t C).2=Z s A+Z t C:=by
 unfold addZ Z
 by_cases h:C≤A<;>cases s<;>cases t<;>simp [h]<;>omega
theorem sm_add {a b:Nat} (ha:bl a≤400000) (hb:bl b≤400000):Sm (a+b):=by
 have:=MN ha hb
 unfold Sm;omega
theorem refSum (s t:Bool) (n m:Nat) (e f:Int) (hn:n≠0) (hm:m≠0) (hns:bl n≤40000) (hms:bl m≤40000) (hd:e - f≤300000) (hd':f - e≤300000)
  (he : -1000000≤e) (he':e≤1000000) (hf : -1000000≤f) (hf':f≤1000000) (A C:Nat) (hA:A=n*2^(e - min e f).toNat) (hC:C=m*2^(f - min e f).toNat) :
  Ec ⟨⟨s,n⟩,e⟩ ⟨⟨t,m⟩,f⟩=some (toD (nz (addZ s A t C).1 (addZ s A t C).2 (min e f))):=by
 obtain ⟨a,ha⟩:∃a:Nat,e - min e f=(a:Int):=⟨(e - min e f).toNat,by omega⟩
 obtain ⟨c,hc⟩:∃c:Nat,f - min e f=(c:Int):=⟨(f - min e f).toNat,by omega⟩
 rw [ha] at hA;rw [hc] at hC
 rw [Int.toNat_natCast] at hA hC
 have hbA:bl A≤400000:=by rw [hA];have:=Pd n a;omega
 have hbC:bl C≤400000:=by rw [hC];have:=Pd m c;omega
 have hsA:Sm A:=by unfold Sm;omega
 have hsC:Sm C:=by unfold Sm;omega
 have hsg:∀a b:Nat,(0≤sgnc a b↔b≤a):=by intro a b;unfold sgnc;split<;>(try split)<;>omega
 unfold Ec
 simp only [sz0]
 rw [if_neg hn,if_neg hm,w64 (x:=e - min e f) (by omega) (by omega),w64 (x:=f - min e f) (by omega) (by omega),ha,hc]
 unfold Ex
 simp only
 rw [rShl (by unfold Sm;omega) (by omega),sB,sB,rShl (by unfold Sm;omega) (by omega),sB,sB,←hA,←hC]
 unfold Gb addZ
 simp only
 by_cases hst:s=t
 ·have hs:=sm_add hbA hbC
  rw [if_pos hst,if_pos hst,rAdd hsA hsC,sB,signed,sB,sB,refOf _ _ _ hs (by omega) (by omega),sB,OF]
 ·rw [if_neg hst,if_neg hst,rCmp hsA hsC,sB]
  by_cases h:C≤A
  ·rw [if_pos ((hsg _ _).2 h),if_pos h,rSub hsA h,sB,signed,sB,sB,refOf _ _ _ (Ka (Nat.sub_le _ _) hsA) (by omega) (by omega),sB,OF]
  ·rw [if_neg (fun h2=>h ((hsg _ _).1 h2)),if_neg h,rSub hsC (by omega),sB,signed,sB,sB,refOf _ _ _ (Ka (Nat.sub_le _ _) hsC) (by omega) (by omega),sB,OF]
theorem refMinus (s:Bool) (n:Nat) (e:Int):Fg ⟨⟨s,n⟩,e⟩=some ⟨⟨!s && decide (n≠0),n⟩,e⟩:=by
 unfold Fg FY
 simp only [signed,sB]
 cases s<;>rfl
theorem refSign (s:Bool) (n:Nat) (e:Int):CG ⟨⟨s,n⟩,e⟩=some (sv s n):=by
 unfold CG sv
 simp only [sz0]
 split
 ·rfl
 ·split<;>rfl
theorem refSign_nz (s:Bool) (n:Nat) (e:Int):CG (toD (nz s n e))=some (sv s n):=by
 rw [←Pw s n e,sign]
 exact refSign _ _ _
theorem PO (s:Bool) (n:Nat):(sv s n<0↔Z s n<0)∧(0<sv s n↔0<Z s n):=by
 unfold sv Z
 by_cases h:n=0
 ·subst h;cases s<;>simp
 ·rw [if_neg h];cases s<;>simp<;>omega
theorem refCompare (s t:Bool) (n m:Nat) (e f:Int) (hns:bl n≤40000) (hms:bl m≤40000) (hd:e - f≤300000) (hd':f - e≤300000)
  (he : -1000000≤e) (he':e≤1000000) (hf : -1000000≤f) (hf':f≤1000000) :
  ∃k,Co ⟨⟨s,n⟩,e⟩ ⟨⟨t,m⟩,f⟩=some k∧(k = -1∨k=0∨k=1)∧∀i j:Nat,e - f=(i:Int) - j→
   (k<0↔Z s n*(2^i:Nat)<Z t m*(2^j:Nat))∧(0<k↔Z t m*(2^j:Nat)<Z s n*(2^i:Nat)):=by
 have h01:∀s n,sv s n = -1∨sv s n=0∨sv s n=1:=by intro s n;unfold sv;split<;>(try split)<;>simp
 have hpos:∀i:Nat,(0:Int)<(2^i:Nat):=fun i=>by have:=Nat.two_pow_pos i;omega
 unfold Co
 rw [refMinus,sB]
 by_cases hn:n=0
 ·unfold Ec
  simp only [sz0]
  rw [if_pos hn,sB,refSign,sB]
  refine ⟨_,rfl,h01 _ _,fun i j hij=>?_⟩
  rw [(PO _ _).1,(PO _ _).2,hn]
  have h0:Z s 0=0:=by cases s<;>rfl
  rw [h0,Int.zero_mul]
  have hq:=hpos j
  have h1:Z (!t && decide (m≠0)) m = - Z t m:=by
   unfold Z;by_cases h:m=0
   ·subst h;cases t<;>rfl
   ·cases t<;>simp [h]
  rw [h1]
  constructor
  ·constructor
   ·intro h;exact Int.mul_pos (by omega) hq
   ·intro h;have:=Int.pos_of_mul_pos_left h hq;omega
  ·constructor
   ·intro h;exact Int.mul_neg_of_neg_of_pos (by omega) hq
   ·intro h
    rcases Int.lt_trichotomy (Z t m) 0 with h2 | h2 | h2
    ·omega
    ·rw [h2,Int.zero_mul] at h;omega
    ·have:=Int.mul_pos h2 hq;omega
 ·by_cases hm:m=0
  ·unfold Ec
   simp only [sz0]
   rw [if_neg hn,if_pos hm,sB,refSign,sB]
   refine ⟨_,rfl,h01 _ _,fun i j hij=>?_⟩
   rw [(PO _ _).1,(PO _ _).2,hm]
   have h0:Z t 0=0:=by cases t<;>rfl
   rw [h0,Int.zero_mul]
   have hq:=hpos i
   constructor
   ·constructor
    ·intro h;exact Int.mul_neg_of_neg_of_pos h hq
    ·intro h
     rcases Int.lt_trichotomy (Z s n) 0 with h2 | h2 | h2
     ·exact h2
     ·rw [h2,Int.zero_mul] at h;omega
     ·have:=Int.mul_pos h2 hq;omega
   ·constructor
    ·intro h;exact Int.mul_pos h hq
    ·intro h
     rcases Int.lt_trichotomy (Z s n) 0 with h2 | h2 | h2
     ·have:=Int.mul_neg_of_neg_of_pos h2 hq;omega
     ·rw [h2,Int.zero_mul] at h;omega
     ·exact h2
  ·have hbm:(!t && decide (m≠0)) = !t:=by rw [decide_eq_true hm,Bool.and_true]
   rw [hbm,refSum s (!t) n m e f hn hm hns hms hd hd' he he' hf hf' _ _ rfl rfl,sB,refSign_nz,sB]
   refine ⟨_,rfl,h01 _ _,fun i j hij=>?_⟩
   rw [(PO _ _).1,(PO _ _).2,addZ_Z,Qg,Qg]
   have h1:Z (!t) m = - Z t m:=by unfold Z;cases t<;>simp
   rw [h1,Int.neg_mul]
   obtain ⟨a,ha⟩:∃a:Nat,(e - min e f).toNat=a:=⟨_,rfl⟩
   obtain ⟨c,hc⟩:∃c:Nat,(f - min e f).toNat=c:=⟨_,rfl⟩
   rw [ha,hc]
   have k1:=JD (X:=Z s n) (Y:=Z t m) (a:=a) (c:=c) (i:=i) (j:=j) (by omega)
   have k2:=JD (X:=Z t m) (Y:=Z s n) (a:=c) (c:=a) (i:=j) (j:=i) (by omega)
   generalize Z s n*(2^a:Nat)=X at *
   generalize Z t m*(2^c:Nat)=Y at *
   generalize Z s n*(2^i:Nat)=X' at *
   generalize Z t m*(2^j:Nat)=Y' at *
   omega
theorem VT.ok {d:Ak} (h:VT d) (hl : -5000≤d.Exp) (hu:d.Exp≤5000) (hs:Sbn.sz d.Man.Abs≤600):Ok d:=
 ⟨fun h0=>(h.z h0).1,by have:=Il hs;omega,hl,hu⟩
theorem outOK {r:Am} (h:Cb r):Fp r=some (.ok (toD r))∧VT (toD r):=by
 obtain ⟨h1,h2,h3,s,M,e,rfl⟩:=h
 have hS:Sm (nz s M e).m.Abs:=by unfold Sm;omega
 have hz:Sbn.sz (nz s M e).m.Abs≤1000:=FC (by omega)
 have hv:VT (toD (nz s M e)):=by
  refine ⟨Nat.le_trans hz (by decide),fun h=>?_,fun h=>?_⟩
  ·have h0:M=0:=by
    by_cases h0:M=0
    ·exact h0
    ·exfalso
     unfold toD nz at h
     rw [if_neg h0] at h
     simp only at h
     obtain ⟨q,hq⟩:=Pn M
     generalize tz M=z at *
     rw [hq,Nat.mul_div_cancel _ (Nat.two_pow_pos z)] at h
     rw [h,Nat.zero_mul] at hq;exact h0 hq
   unfold toD nz
   rw [if_pos h0]
   exact ⟨rfl,rfl⟩
  ·have h0:M≠0:=by
    intro h0;apply h;unfold toD nz;rw [if_pos h0]
   refine ⟨?_,by show _≤(nz s M e).e;omega,by show (nz s M e).e≤_;omega⟩
   unfold toD nz
   rw [if_neg h0]
   simp only
   obtain ⟨q,hq,_⟩:=IT h0
   generalize tz M=z at *
   rw [hq,Nat.mul_div_cancel_left _ (Nat.two_pow_pos z)];omega
 refine ⟨?_,hv⟩
 have hneg:(if (nz s M e).m.Neg=true then some (decide (0<(Sbn.sz (nz s M e).m.Abs:Int))) else some false)=some (nz s M e).m.Neg:=by
  simp only [Ns]
  by_cases h0:(nz s M e).m.Abs=0
  ·have:=(hv.z h0).1
   have h5:(nz s M e).m.Neg=false:=this
   rw [h5];rfl
  ·rw [decide_eq_true h0];cases (nz s M e).m.Neg<;>rfl
 unfold Fp BR
 generalize nz s M e=r at *
 rw [if_pos (by omega),sB,decide_eq_true (show r.e≤1048576 by omega),if_pos rfl,sB,decide_eq_true (show -1048576≤r.e by omega),if_neg (by simp)]
 show (Dk r.m.Abs).bind _=_
 rw [wClone hS,sB]
 unfold IC
 simp only
 rw [hneg,sB,sB]
 rfl
theorem sameInt (a:Ah) (h:Sm a.Abs):CW a a=some true:=by
 unfold CW
 rw [if_pos rfl,same _ _ h,decide_eq_true rfl];rfl
def zD:Ak:=⟨⟨false,0⟩,0⟩
theorem VT.sm {d:Ak} (h:VT d):Sm d.Man.Abs:=by have:=Il h.s;unfold Sm;omega
end Go.Proofs.Pq
namespace Go.Proofs.Pq
set_option linter.unusedVariables false
set_option linter.unusedSimpArgs false
set_option maxRecDepth 4000
open Go.Proofs Go.Sb Go.Proofs.Sbn Go.Proofs.Lf
theorem IL (n:Nat):toN (limbs n)=some n:=NC n
theorem sv01 (s:Bool) (n:Nat):sv s n = -1∨sv s n=0∨sv s n=1:=by unfold sv;split<;>(try split)<;>simp
end Go.Proofs.Pq
namespace Go.Proofs.Pq
set_option linter.unusedVariables false
set_option linter.unusedSimpArgs false
set_option maxRecDepth 4000
open Go.Proofs Go.Sb Go.Proofs.Sbn Go.Proofs.Lf
theorem sanity:Dg=some true:=by kernel_rfl
theorem bb (o:Option Bool):((o.bind fun r=>some r).bind fun m=>some m)=o:=by cases o<;>rfl
end Go.Proofs.Pq
namespace Go.Proofs.Pq
set_option linter.unusedVariables false
set_option linter.unusedSimpArgs false
set_option maxRecDepth 4000
open Go.Proofs Go.Sb Go.Proofs.Sbn Go.Proofs.Lf
theorem nz_odd {s:Bool} {q:Nat} {e:Int} (h:q%2=1):nz s q e=⟨⟨s,q⟩,e⟩:=by
 have h0:q≠0:=by omega
 have hz:tz q=0:=PR (m:=q/2) (by rw [Nat.pow_zero,Nat.one_mul];omega)
 unfold nz
 rw [if_neg h0,hz,Nat.pow_zero,Nat.div_one]
 congr 1
 simp
theorem canonV {d:Ak} (h:VT d):ofD d=nz d.Man.Neg d.Man.Abs d.Exp:=by
 obtain ⟨⟨s,n⟩,e⟩:=d
 by_cases h0:n=0
 ·obtain ⟨h1,h2⟩:=h.z h0
  simp only at h1 h2
  subst h0 h1 h2;rfl
 ·exact (nz_odd (h.o h0).1).symm
end Go.Proofs.Pq
namespace Go.Proofs.Pq
set_option linter.unusedVariables false
set_option linter.unusedSimpArgs false
set_option maxRecDepth 4000
open Go.Proofs Go.Sb Go.Proofs.Sbn Go.Proofs.Lf
structure Same (y:Am) (z:Ak):Prop where
 a:y.m.Abs=z.Man.Abs
 e:y.e=z.Exp
 s:z.Man.Abs≠0→y.m.Neg=z.Man.Neg
 c:toD (nz y.m.Neg y.m.Abs y.e)=z
theorem Same.of {d:Ak} (h:VT d):Same (ofD d) d:=⟨rfl,rfl,fun _=>rfl,by
 have h2:nz d.Man.Neg d.Man.Abs d.Exp=ofD d:=(canonV h).symm
 show toD (nz d.Man.Neg d.Man.Abs d.Exp)=d
 rw [h2];rfl⟩
def Pb (r:Am):Prop:=∃s M e,r=nz s M e∧bl M≤18000∧-10000≤e∧e≤10000
theorem Pb.bd {r:Am} (h:Pb r):bl r.m.Abs≤18000∧-10000≤r.e∧r.e≤30000:=by
 obtain ⟨s,M,e,rfl,h1,h2,h3⟩:=h
 unfold nz
 by_cases h0:M=0
 ·rw [if_pos h0];simp only;rw [MO];omega
 ·rw [if_neg h0];simp only
  have:=Lu M (2^tz M)
  obtain ⟨_,_,hq⟩:=IT h0
  omega
end Go.Proofs.Pq
namespace Go.Proofs.Pq
set_option linter.unusedVariables false
set_option linter.unusedSimpArgs false
set_option maxRecDepth 4000
open Go.Proofs Go.Sb Go.Proofs.Sbn Go.Proofs.Lf
def Lt (d:Ak):Prop:=Ok d∧bl d.Man.Abs≤9000
theorem PX (x:Ap) (h:Dig x.Man.Abs):∃v,CT x=some v∧(v=true→∀d,x=toL d→VT d→Lt d):=by
 obtain ⟨w,hv,_,_⟩:=Pl x h
 unfold CT
 by_cases hl:(List.length x.Man.Abs:Int)≤60
 ·have key:(-3000≤x.Exp∧x.Exp≤3000)→∀d,x=toL d→VT d→Lt d:=by
   rintro ⟨k1,k2⟩ d rfl hd
   have e1:(toL d).Exp=d.Exp:=rfl
   have e2:(toL d).Man.Abs.length=Sbn.sz d.Man.Abs:=rfl
   have h60:Sbn.sz d.Man.Abs≤60:=by omega
   exact ⟨hd.ok (by omega) (by omega) (by omega),by have:=Il h60;omega⟩
  have nov:w=false→∀d,x=toL d→VT d→Lt d:=by
   intro hw d hd hvt
   subst hd;rw [(validT hvt).1,hw] at hv;cases hv
  rw [if_pos hl,hv]
  by_cases k1 : -3000≤x.Exp
  ·rw [if_pos k1,sB]
   by_cases k2:x.Exp≤3000
   ·exact ⟨true,by rw [decide_eq_true k2];rfl,fun _=>key ⟨k1,k2⟩⟩
   ·refine ⟨!w,by rw [decide_eq_false k2];cases w<;>rfl,fun hw=>nov (by cases w<;>simp_all)⟩
  ·rw [if_neg k1,sB]
   refine ⟨!w,by cases w<;>rfl,fun hw=>nov (by cases w<;>simp_all)⟩
 ·rw [if_neg hl]
  exact ⟨false,rfl,fun h=>by cases h⟩
end Go.Proofs.Pq
namespace Go.Proofs.Pq
set_option linter.unusedVariables false
set_option linter.unusedSimpArgs false
set_option maxRecDepth 4000
open Go.Proofs Go.Sb Go.Proofs.Sbn Go.Proofs.Lf
theorem Cb.of {σ:Bool} {M:Nat} {E:Int} (h1:bl M≤20000) (h2 : -100000≤E) (h3:E≤100000):Cb (nz σ M E):=by
 refine ⟨?_,?_,?_,σ,M,E,rfl⟩
 all_goals
  unfold nz
  by_cases h0:M=0
  ·rw [if_pos h0];simp only;first | (rw [MO];omega) | omega
  ·rw [if_neg h0];simp only
   have:=Lu M (2^tz M)
   obtain ⟨_,_,hq⟩:=IT h0
   omega
theorem mbo {α β:Type} (a:α) (f:α→M β):mb (some (.ok a)) f=f a:=rfl
theorem valid2 {x y:Ak} (hx:VT x) (hy:VT y):Gh (toL x) (toL y)=some (.ok ()):=by
 unfold Gh
 rw [(validT hx).2,(validT hy).2];rfl
theorem OY {x:Ak} (hx:VT x):CY (toL x)=some (.ok ()):=by
 unfold CY
 rw [(validT hx).2];rfl
theorem inT (x:Ak):Gg ⟨⟨(toL x).Man.Neg,x.Man.Abs⟩,(toL x).Exp⟩=some (ofD x):=rfl
theorem toNT (x:Ak):toN (toL x).Man.Abs=some x.Man.Abs:=NC _
theorem wantT (e:Int):BR true e=some (.ok ()):=rfl
end Go.Proofs.Pq
namespace Go.Proofs.Pq
set_option linter.unusedVariables false
set_option linter.unusedSimpArgs false
set_option maxRecDepth 4000
open Go.Proofs Go.Sb Go.Proofs.Sbn Go.Proofs.Lf
theorem OA (x:AW) (hx:Dig x.Abs):∃v,Cd x=some v∧DC x=some v∧(v=true→∃m:Ah,x=⟨m.Neg,limbs m.Abs⟩∧Sbn.sz m.Abs≤1024∧(m.Abs=0→m.Neg=false)):=by
 obtain ⟨s,l⟩:=x
 simp only at hx
 unfold Cd DC
 simp only
 rw [show Bk l=_ from Nh hx,nValid hx,sB]
 by_cases hP:l.length≤1024∧limbs (val l)=l
 ·rw [decide_eq_true hP]
  obtain ⟨hl,hc⟩:=hP
  generalize val l=n at hc
  subst hc
  by_cases h0:n=0
  ·subst h0
   cases s
   ·exact ⟨true,rfl,rfl,fun _=>⟨⟨false,0⟩,rfl,hl,fun _=>rfl⟩⟩
   ·exact ⟨false,rfl,rfl,fun h=>by cases h⟩
  ·have hl2:(0:Int)<((limbs n).length:Int):=by
    have hz:Sbn.sz n=(limbs n).length:=rfl
    have:Sbn.sz n≠0:=fun h=>h0 (Gk h)
    omega
   have hv:∀(o:Option Bool),o=some true→(if true=true then o.bind fun m68=>some m68 else some false).bind (fun m42=>some m42)=some true:=by rintro _ rfl;rfl
   have ho:(if ¬(s=true) then some true else some (decide (0<((limbs n).length:Int))))=some true:=by
    cases s
    ·rfl
    ·rw [decide_eq_true hl2];rfl
   exact ⟨true,hv _ ho,hv _ ho,fun _=>⟨⟨s,n⟩,rfl,hl,fun h=>absurd h h0⟩⟩
 ·rw [decide_eq_false hP]
  exact ⟨false,rfl,rfl,fun h=>by cases h⟩
theorem OC (n:Nat) (hn:Sbn.sz n≤1024):GI n=some (.ok ()):=by
 unfold GI BU Cr GA
 rw [nValid (Ao n),Au,decide_eq_true ⟨hn,rfl⟩];rfl
theorem natGiven (n:Nat) (hn:Sbn.sz n≤1024):Gn n=some (.ok n):=by
 have h:((Sbn.sz n:Int))≤1024:=by omega
 unfold Gn
 rw [decide_eq_true h,show EC true 2=some (.ok ()) from rfl,mbo]
 unfold Fb
 rw [gdB (by omega)];rfl
theorem natShl (n k:Nat) (hn:Sbn.sz n≤1024) (hk:k≤32768) (hf:Sbn.sz (n*2^k)≤1024):Kp n (k:Int)=some (n*2^k,0):=by
 unfold Kp LP
 rw [OC n hn,mbo,decide_eq_true (by omega:0≤(k:Int)),show EC true 1=some (.ok ()) from rfl,mbo]
 by_cases h0:n=0
 ·subst h0
  rw [Nat.zero_mul];rfl
 ·have h1:¬((Sbn.sz n:Int)=0):=fun h=>h0 (Gk (by exact_mod_cast h))
  rw [if_neg h1,decide_eq_true (by omega:(k:Int)≤32768),show EC true 2=some (.ok ()) from rfl,mbo]
  unfold CX
  rw [gdB ⟨by omega,by omega,by omega⟩,sB,Int.toNat_natCast,natGiven _ hf]
  rfl
theorem NE (s:Bool) (n:Nat) (hn:Sbn.sz n≤1024) (hz:n=0→s=false):Hf ⟨s,n⟩=some (.ok ()):=by
 have hv:DC ⟨s,limbs n⟩=some true:=by
  obtain ⟨v,_,h2,_⟩:=OA ⟨s,limbs n⟩ (Ao n)
  rw [h2]
  unfold DC at h2
  simp only at h2
  rw [nValid (Ao n),Au,decide_eq_true ⟨hn,rfl⟩,sB] at h2
  by_cases h0:n=0
  ·rw [hz h0] at h2;exact h2.symm
  ·have hl2:(0:Int)<((limbs n).length:Int):=by
    have hz:Sbn.sz n=(limbs n).length:=rfl
    have:Sbn.sz n≠0:=fun h=>h0 (Gk h)
    omega
   rw [decide_eq_true hl2] at h2
   cases s<;>exact h2.symm
 unfold Hf BQ Ch Ip
 simp only
 rw [hv];rfl
theorem wholeShift (s:Bool) (n k:Nat) (hn:Sbn.sz n≤1024) (hz:n=0→s=false) (hk:k≤32768) (hf:Sbn.sz (n*2^k)≤1024):Fa ⟨s,n⟩ (k:Int)=some (⟨s,n*2^k⟩,0):=by
 have hsg:Ez s (n*2^k)=some ⟨s,n*2^k⟩:=by
  unfold Ez
  cases s
  ·rfl
  ·have h0:n≠0:=fun h=>by have:=hz h;cases this
   have h1:n*2^k≠0:=Nat.mul_ne_zero h0 (Nat.pos_iff_ne_zero.1 (Nat.two_pow_pos k))
   have h2:(0:Int)<(Sbn.sz (n*2^k):Int):=by
    have:Sbn.sz (n*2^k)≠0:=fun h=>h1 (Gk h)
    omega
   rw [decide_eq_true h2];rfl
 have hown:Gp ⟨s,n*2^k⟩=some ⟨s,n*2^k⟩:=by
  unfold Gp Cu
  simp only
  rw [gdB (by omega)];rfl
 unfold Fa Cg CV DS
 rw [NE s n hn hz,mbo,if_pos (by omega)]
 simp only
 rw [natShl n k hn hk hf,sB]
 simp only
 rw [show FE (n*2^k) 0=some (.ok (n*2^k)) from rfl,mbo,hsg,sB,hown]
 rfl
theorem odd_gcd (n k:Nat) (h:n%2=1):Nat.gcd n (2^k)=1:=by
 apply Nat.Coprime.pow_right
 rw [Nat.coprime_comm]
 show Nat.gcd 2 n=1
 rw [Nat.gcd_rec,h];rfl
theorem KJ (k:Nat):bl (2^k)≤k+1:=Gc.2 (Nat.pow_lt_pow_right (by decide) (by omega))
end Go.Proofs.Pq
namespace Go.Proofs.Pq
set_option linter.unusedVariables false
set_option linter.unusedSimpArgs false
set_option maxRecDepth 4000
open Go.Proofs Go.Sb Go.Proofs.Sbn Go.Proofs.Lf
theorem nLongN {a b:Nat} (ha:Sm a) (hb:Sm b) (h:b≠0):Cm a b=some (a/b,a%b):=by
 unfold Cm
 rw [gdB ⟨ha.sz,hb.sz,h⟩]
theorem Qi (x y:Nat):∀(f a b:Nat),b≤a→bl a+bl b<f→Sm a→Fc x y f a b=some (Nat.gcd a b):=by
 intro f
 induction f with
 | zero=>intro a b _ h;omega
 | succ f ih=>
  intro a b hab hf hs
  show (if 0<(Sbn.sz b:Int) then (Cm a b).bind fun r=>Fc x y f b r.2 else some a)=_
  simp only [Ns]
  by_cases hb:b=0
  ·subst hb;rw [if_neg (by simp),Nat.gcd_zero_right]
  ·have hbs:Sm b:=Ka hab hs
   have hm:=Nat.mod_lt a (Nat.pos_of_ne_zero hb)
   rw [if_pos hb,nLongN hs hbs hb,sB,ih b (a%b) (by omega) ?_ hbs]
   ·rw [Nat.gcd_comm b,←Nat.gcd_rec,Nat.gcd_comm]
   ·have h2:2*(a%b)<a:=by
     have h3:=Nat.div_add_mod a b
     have h4:b*1≤b*(a/b):=Nat.mul_le_mul_left _ (Nat.div_pos hab (by omega))
     omega
    obtain ⟨h5,h6,h7⟩:=JA (n:=a) (by omega)
    have:bl (a%b)≤bl a - 1:=by
     rw [Gc]
     have:2^bl a=2^(bl a - 1)*2:=by rw [←Nat.pow_succ];congr 1;omega
     omega
    omega
theorem ngcd (a b:Nat) (ha:bl a≤100000) (hb:bl b≤100000):IY a b=some (Nat.gcd a b):=by
 have key:Fc a b 18446744073709551616 a b=some (Nat.gcd a b):=by
  by_cases h:b≤a
  ·exact Qi a b _ a b h (by omega) (by unfold Sm;omega)
  ·obtain ⟨f,hf⟩:∃f,18446744073709551616=f+1:=⟨_,rfl⟩
   rw [hf]
   show (if 0<(Sbn.sz b:Int) then (Cm a b).bind fun r=>Fc a b f b r.2 else some a)=_
   simp only [Ns]
   rw [if_pos (by omega),nLongN (by unfold Sm;omega) (by unfold Sm;omega) (by omega),sB,Nat.mod_eq_of_lt (by omega)]
   show Fc a b f b a=_
   rw [Qi a b f b a (by omega) (by omega) (by unfold Sm;omega),Nat.gcd_comm]
 unfold IY
 rw [key];rfl
theorem Mr (n d:Nat) (hn:Sbn.sz n≤1024) (hd:Sbn.sz d≤1024):FP n d=some (.ok ()):=by
 unfold FP BV Cx GA
 rw [nValid (Ao n),nValid (Ao d),Au,Au,decide_eq_true ⟨hn,rfl⟩,decide_eq_true ⟨hd,rfl⟩];rfl
theorem natGcd (n d:Nat) (hn:Sbn.sz n≤1024) (hd:Sbn.sz d≤1024) (hd0:d≠0):Ku n d=some (Nat.gcd n d,0):=by
 have hb:=Il hn
 have hc:=Il hd
 have hg:Sbn.sz (Nat.gcd n d)≤1024:=FC (by
  have h1:Nat.gcd n d≤d:=Nat.gcd_le_right _ (by omega)
  have h2:bl (Nat.gcd n d)≤bl d:=Gc.2 (Nat.lt_of_le_of_lt h1 (Gc.1 (Nat.le_refl _)))
  omega)
 unfold Ku Dh Ev
 rw [Mr n d hn hd,mbo,ngcd n d (by omega) (by omega),sB,natGiven _ hg]
 rfl
theorem progOne (g:Nat):((if (0:Int)=0 then some (decide ((Sbn.sz g:Int)=1)) else some false).bind fun m111=>(if m111=true then (nth (limbs g) 0).bind fun u155=>some (decide (u155=1)) else some false).bind fun m141=>some m141)=some (decide (g=1)):=by
 rw [if_pos rfl,sB]
 by_cases h0:g=0
 ·subst h0;rfl
 ·have hl:Sbn.sz g=(limbs (g/4294967296)).length+1:=by
   show (limbs g).length=_
   rw [FN h0];rfl
  by_cases h1:g/4294967296=0
  ·have e:limbs g=[((g%4294967296:Nat):Int)]:=by rw [FN h0,h1,BC]
   have hs:(Sbn.sz g:Int)=1:=by rw [hl,h1,BC];rfl
   rw [decide_eq_true hs,if_pos rfl,e,nth0,sB,sB]
   congr 1
   apply decide_eq_decide.2
   omega
  ·have hn:(limbs (g/4294967296)).length≠0:=fun h=>h1 (Gk h)
   rw [decide_eq_false (by omega),if_neg (by decide),sB,decide_eq_false (by omega)]
theorem validRat (x:FV) (h1:Dig x.Num.Abs) (h2:Dig x.Den):∃v,Ek x=some v∧Gy x=some v∧(v=true→∃(s:Bool) (n d:Nat),x=⟨⟨s,limbs n⟩,limbs d⟩∧(n=0→s=false)∧d≠0):=by
 obtain ⟨v,e,f,g⟩:=OA x.Num h1
 unfold Ek Gy
 rw [e,f,sB,sB]
 cases v
 ·exact ⟨false,rfl,rfl,fun h=>by cases h⟩
 obtain ⟨m,hm,hs,hz⟩:=g rfl
 rw [show Bk x.Den=_ from Nh h2,nValid h2]
 by_cases hP:x.Den.length≤1024∧limbs (val x.Den)=x.Den
 ·rw [decide_eq_true hP]
  obtain ⟨hl,hc⟩:=hP
  obtain ⟨N,D⟩:=x
  simp only at hm hl hc
  generalize val D=d at hc
  subst hc hm
  by_cases h0:d=0
  ·subst h0
   exact ⟨false,rfl,rfl,fun h=>by cases h⟩
  ·have hln:((limbs d).length:Int)≠0:=by
    intro h;exact h0 (Gk (by have:Sbn.sz d=(limbs d).length:=rfl;omega))
   have hg:=natGcd m.Abs d hs hl h0
   have hb:=Il hs
   have hc:=Il (n:=d) (k:=1024) hl
   have hr:=gcd m.Abs d (by omega) (by omega)
   have hgs:Sm (Nat.gcd m.Abs d):=Ka (Nat.gcd_le_right _ (by omega)) (by unfold Sm;omega)
   refine ⟨decide (Nat.gcd m.Abs d=1),?_,?_,fun _=>⟨m.Neg,m.Abs,d,rfl,hz,h0⟩⟩
   ·simp only [not_true_eq_false,if_false,sB,decide_false,Bool.false_eq_true,decide_eq_false hln,IL,hr,BM,same _ _ hgs]
   ·simp only [not_true_eq_false,if_false,sB,decide_false,Bool.false_eq_true,decide_eq_false hln,IL,hg]
    exact progOne _
 ·rw [decide_eq_false hP]
  exact ⟨false,rfl,rfl,fun h=>by cases h⟩
end Go.Proofs.Pq
namespace Go.Proofs.Pq
set_option linter.unusedVariables false
set_option linter.unusedSimpArgs false
set_option maxRecDepth 4000
open Go.Proofs Go.Sb Go.Proofs.Sbn Go.Proofs.Lf
end Go.Proofs.Pq
