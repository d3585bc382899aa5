import Derived.Test.YtabiobmfelafoaaGreatDoorPB
import Derived.KernelRfl
namespace Go.Proofs.Pq
set_option linter.unusedVariables false
set_option linter.unusedSimpArgs false
set_option maxRecDepth 4000
open Go.Proofs Go.Sb Go.Proofs.Sbn Go.Proofs.Lf
theorem nValid {a:List Int} (ha:Dig a):Fu a=some (decide (a.length≤1024∧limbs (val a)=a)):=by
 rw [←KC ha];rfl
def toL (d:Af):Ak:=⟨⟨d.Man.Neg,limbs d.Man.Abs⟩,d.Exp⟩
def ofD (d:Af):Ao:=⟨d.Man,d.Exp⟩
structure VT (d:Af):Prop where
 s:Sbn.sz d.Man.Abs≤1024
 z:d.Man.Abs=0→d.Man.Neg=false∧d.Exp=0
 o:d.Man.Abs≠0→d.Man.Abs%2=1∧-1048576≤d.Exp∧d.Exp≤1048576
theorem validT {d:Af} (h:VT d):Be (toL d)=some true∧Ch (toL d)=some true:=by
 obtain ⟨⟨s,n⟩,e⟩:=d
 obtain ⟨h1,h2,h3⟩:=h
 simp only at h1 h2 h3
 unfold Be Ch Dx Fe toL
 simp only
 rw [show BD (limbs n)=_ from KC (AL n),nValid (AL n),sB,AM,decide_eq_true ⟨h1,rfl⟩]
 by_cases h0:n=0
 ·obtain ⟨rfl,rfl⟩:=h2 h0
  subst h0
  exact ⟨rfl,rfl⟩
 ·obtain ⟨a1,a2,a3⟩:=h3 h0
  have hb:=rBit (AL n) 0 (by decide)
  have hl:((limbs n).length:Int)≠0:=by
   intro h;exact h0 (Hm (by have:Sbn.sz n=(limbs n).length:=rfl;omega))
  have hl2:(0:Int)<((limbs n).length:Int):=by omega
  rw [AM,Nat.pow_zero,Nat.div_one,a1] at hb
  have hnt:nth (limbs n) 0=some ((n%4294967296:Nat):Int):=by
   rw [EL h0];unfold nth;rw [if_pos ⟨by omega,by simp only [List.length_cons];omega⟩];rfl
  have hb2:BI (limbs n) 0=some 1:=hb
  have e1:(((n%4294967296:Nat):Int)%2)=1:=by omega
  rw [hb2,hnt]
  simp only [decide_eq_true hl2,sB,if_true,e1,decide_eq_true a2,decide_eq_true a3,if_neg hl]
  cases s<;>exact ⟨rfl,rfl⟩
theorem Kj (x:Ak) (hx:Dig x.Man.Abs):∃v,Be x=some v∧Ch x=some v∧(v=true→∃d,x=toL d∧VT d):=by
 obtain ⟨⟨s,l⟩,e⟩:=x
 simp only at hx
 unfold Be Ch Dx Fe
 simp only
 rw [show BD l=_ from KC hx,nValid hx,sB]
 by_cases hP:l.length≤1024∧limbs (val l)=l
 ·rw [decide_eq_true hP]
  obtain ⟨hl,hc⟩:=hP
  generalize val l=n at hc
  subst hc
  by_cases h0:n=0
  ·subst h0
   cases s
   ·exact ⟨decide (e=0),rfl,rfl,fun h=>⟨⟨⟨false,0⟩,e⟩,rfl,hl,fun _=>⟨rfl,of_decide_eq_true h⟩,fun h=>absurd rfl h⟩⟩
   ·exact ⟨false,rfl,rfl,fun h=>by cases h⟩
  ·have hb:=rBit (AL n) 0 (by decide)
   have hz:Sbn.sz n=(limbs n).length:=rfl
   have hln:((limbs n).length:Int)≠0:=by
    intro h;exact h0 (Hm (by omega))
   have hl2:(0:Int)<((limbs n).length:Int):=by omega
   rw [AM,Nat.pow_zero,Nat.div_one] at hb
   have hnt:nth (limbs n) 0=some ((n%4294967296:Nat):Int):=by
    rw [EL h0];unfold nth;rw [if_pos ⟨by omega,by simp only [List.length_cons];omega⟩];rfl
   have hb2:BI (limbs n) 0=some ((n%2:Nat):Int):=hb
   rw [hb2,hnt]
   have c1:(((n%2:Nat):Int)=1)=(n%2=1):=by apply propext;omega
   refine ⟨decide (n%2=1∧-1048576≤e∧e≤1048576),?_,?_,fun h=>?_⟩
   ·simp only [decide_eq_true hl2,sB,if_true,if_neg hln,c1]
    by_cases a1:n%2=1<;>by_cases a2 : -1048576≤e<;>by_cases a3:e≤1048576<;>cases s<;>simp [a1,a2,a3,sB]
   ·simp only [decide_eq_true hl2,sB,if_true,if_neg hln]
    have e1:(((n%4294967296:Nat):Int)%2)=((n%2:Nat):Int):=by omega
    simp only [e1,c1]
    by_cases a1:n%2=1<;>by_cases a2 : -1048576≤e<;>by_cases a3:e≤1048576<;>cases s<;>simp [a1,a2,a3,sB]
   ·have h:=of_decide_eq_true h
    exact ⟨⟨⟨s,n⟩,e⟩,rfl,hl,fun h=>absurd h h0,fun _=>h⟩
 ·rw [decide_eq_false hP]
  exact ⟨false,rfl,rfl,fun h=>by cases h⟩
end Go.Proofs.Pq
namespace Go.Proofs.Pq
set_option linter.unusedVariables false
set_option linter.unusedSimpArgs false
set_option maxRecDepth 4000
open Go.Proofs Go.Sb Go.Proofs.Sbn Go.Proofs.Lf
theorem Kb (s:Bool) (M:Nat) (e:Int):nz (s && decide (M≠0)) M e=nz s M e:=by
 unfold nz
 by_cases h:M=0
 ·rw [if_pos h,if_pos h]
 ·rw [if_neg h,if_neg h,decide_eq_true h,Bool.and_true]
def addZ (s:Bool) (A:Nat) (t:Bool) (C:Nat):Bool × Nat:=if s=t then (s,A+C) else if C≤A then (s,A - C) else (t,C - A)
theorem Mq {a b:Nat} (ha:bl a≤400000) (hb:bl b≤400000):Sm (a+b):=by
 have:=Li ha hb
 unfold Sm;omega
theorem refSum (s t:Bool) (n m:Nat) (e f:Int) (hn:n≠0) (hm:m≠0) (hns:bl n≤40000) (hms:bl m≤40000) (hd:e - f≤300000) (hd':f - e≤300000)
  (he : -1000000≤e) (he':e≤1000000) (hf : -1000000≤f) (hf':f≤1000000) (A C:Nat) (hA:A=n*2^(e - min e f).toNat) (hC:C=m*2^(f - min e f).toNat) :
  BJ ⟨⟨s,n⟩,e⟩ ⟨⟨t,m⟩,f⟩=some (toD (nz (addZ s A t C).1 (addZ s A t C).2 (min e f))):=by
 obtain ⟨a,ha⟩:∃a:Nat,e - min e f=(a:Int):=⟨(e - min e f).toNat,by omega⟩
 obtain ⟨c,hc⟩:∃c:Nat,f - min e f=(c:Int):=⟨(f - min e f).toNat,by omega⟩
 rw [ha] at hA;rw [hc] at hC
 rw [Int.toNat_natCast] at hA hC
 have hbA:bl A≤400000:=by rw [hA];have:=Jf n a;omega
 have hbC:bl C≤400000:=by rw [hC];have:=Jf m c;omega
 have hsA:Sm A:=by unfold Sm;omega
 have hsC:Sm C:=by unfold Sm;omega
 have hsg:∀a b:Nat,(0≤sgnc a b↔b≤a):=by intro a b;unfold sgnc;split<;>(try split)<;>omega
 unfold BJ
 simp only [sz0]
 rw [if_neg hn,if_neg hm,w64 (x:=e - min e f) (by omega) (by omega),w64 (x:=f - min e f) (by omega) (by omega),ha,hc]
 unfold DI
 simp only
 rw [rShl (by unfold Sm;omega) (by omega),sB,sB,rShl (by unfold Sm;omega) (by omega),sB,sB,←hA,←hC]
 unfold Eu addZ
 simp only
 by_cases hst:s=t
 ·have hs:=Mq hbA hbC
  rw [if_pos hst,if_pos hst,rAdd hsA hsC,sB,signed,sB,sB,refOf _ _ _ hs (by omega) (by omega),sB,Kb]
 ·rw [if_neg hst,if_neg hst,rCmp hsA hsC,sB]
  by_cases h:C≤A
  ·rw [if_pos ((hsg _ _).2 h),if_pos h,rSub hsA h,sB,signed,sB,sB,refOf _ _ _ (Ib (Nat.sub_le _ _) hsA) (by omega) (by omega),sB,Kb]
  ·rw [if_neg (fun h2=>h ((hsg _ _).1 h2)),if_neg h,rSub hsC (by omega),sB,signed,sB,sB,refOf _ _ _ (Ib (Nat.sub_le _ _) hsC) (by omega) (by omega),sB,Kb]
theorem refMinus (s:Bool) (n:Nat) (e:Int):EC ⟨⟨s,n⟩,e⟩=some ⟨⟨!s && decide (n≠0),n⟩,e⟩:=by
 unfold EC Gx
 simp only [signed,sB]
 cases s<;>rfl
theorem VT.ok {d:Af} (h:VT d) (hl : -5000≤d.Exp) (hu:d.Exp≤5000) (hs:Sbn.sz d.Man.Abs≤600):Ok d:=
 ⟨fun h0=>(h.z h0).1,by have:=JT hs;omega,hl,hu⟩
theorem outOK {r:Ao} (h:Cb r):BM r=some (.ok (toD r))∧VT (toD r):=by
 obtain ⟨h1,h2,h3,s,M,e,rfl⟩:=h
 have hS:Sm (nz s M e).m.Abs:=by unfold Sm;omega
 have hz:Sbn.sz (nz s M e).m.Abs≤1000:=IF (by omega)
 have hv:VT (toD (nz s M e)):=by
  refine ⟨Nat.le_trans hz (by decide),fun h=>?_,fun h=>?_⟩
  ·have h0:M=0:=by
    by_cases h0:M=0
    ·exact h0
    ·exfalso
     unfold toD nz at h
     rw [if_neg h0] at h
     simp only at h
     obtain ⟨q,hq⟩:=tz_dvd M
     generalize tz M=z at *
     rw [hq,Nat.mul_div_cancel _ (Nat.two_pow_pos z)] at h
     rw [h,Nat.zero_mul] at hq;exact h0 hq
   unfold toD nz
   rw [if_pos h0]
   exact ⟨rfl,rfl⟩
  ·have h0:M≠0:=by
    intro h0;apply h;unfold toD nz;rw [if_pos h0]
   refine ⟨?_,by show _≤(nz s M e).e;omega,by show (nz s M e).e≤_;omega⟩
   unfold toD nz
   rw [if_neg h0]
   simp only
   obtain ⟨q,hq,_⟩:=Ir h0
   generalize tz M=z at *
   rw [hq,Nat.mul_div_cancel_left _ (Nat.two_pow_pos z)];omega
 refine ⟨?_,hv⟩
 have hneg:(if (nz s M e).m.Neg=true then some (decide (0<(Sbn.sz (nz s M e).m.Abs:Int))) else some false)=some (nz s M e).m.Neg:=by
  simp only [Kf]
  by_cases h0:(nz s M e).m.Abs=0
  ·have:=(hv.z h0).1
   have h5:(nz s M e).m.Neg=false:=this
   rw [h5];rfl
  ·rw [decide_eq_true h0];cases (nz s M e).m.Neg<;>rfl
 unfold BM BZ
 generalize nz s M e=r at *
 rw [if_pos (by omega),sB,decide_eq_true (show r.e≤1048576 by omega),if_pos rfl,sB,decide_eq_true (show -1048576≤r.e by omega),if_neg (by simp)]
 show (CL r.m.Abs).bind _=_
 rw [wClone hS,sB]
 unfold Fz
 simp only
 rw [hneg,sB,sB]
 rfl
theorem sameInt (a:Ag) (h:Sm a.Abs):DK a a=some true:=by
 unfold DK
 rw [if_pos rfl,same _ _ h,decide_eq_true rfl];rfl
theorem Kv (a:Af) (h:Sm a.Man.Abs):AG a a=some true:=by
 unfold AG
 rw [sameInt _ h,sB,if_pos rfl,decide_eq_true rfl];rfl
def zD:Af:=⟨⟨false,0⟩,0⟩
theorem sm0:Sm 0:=by unfold Sm;decide
theorem VT.sm {d:Af} (h:VT d):Sm d.Man.Abs:=by have:=JT h.s;unfold Sm;omega
end Go.Proofs.Pq
namespace Go.Proofs.Pq
set_option linter.unusedVariables false
set_option linter.unusedSimpArgs false
set_option maxRecDepth 4000
open Go.Proofs Go.Sb Go.Proofs.Sbn Go.Proofs.Lf
end Go.Proofs.Pq
namespace Go.Proofs.Pq
set_option linter.unusedVariables false
set_option linter.unusedSimpArgs false
set_option maxRecDepth 4000
open Go.Proofs Go.Sb Go.Proofs.Sbn Go.Proofs.Lf
theorem sanity:Cg=some true:=by kernel_rfl
theorem bb (o:Option Bool):((o.bind fun r=>some r).bind fun m=>some m)=o:=by cases o<;>rfl
end Go.Proofs.Pq
namespace Go.Proofs.Pq
set_option linter.unusedVariables false
set_option linter.unusedSimpArgs false
set_option maxRecDepth 4000
open Go.Proofs Go.Sb Go.Proofs.Sbn Go.Proofs.Lf
theorem KA {s:Bool} {q:Nat} {e:Int} (h:q%2=1):nz s q e=⟨⟨s,q⟩,e⟩:=by
 have h0:q≠0:=by omega
 have hz:tz q=0:=Ms (m:=q/2) (by rw [Nat.pow_zero,Nat.one_mul];omega)
 unfold nz
 rw [if_neg h0,hz,Nat.pow_zero,Nat.div_one]
 congr 1
 simp
theorem canonV {d:Af} (h:VT d):ofD d=nz d.Man.Neg d.Man.Abs d.Exp:=by
 obtain ⟨⟨s,n⟩,e⟩:=d
 by_cases h0:n=0
 ·obtain ⟨h1,h2⟩:=h.z h0
  simp only at h1 h2
  subst h0 h1 h2;rfl
 ·exact (KA (h.o h0).1).symm
theorem plusP (s t:Bool) (n m:Nat) (e f:Int) (hn:n≠0) (hm:m≠0) (hns:bl n≤40000) (hms:bl m≤40000) (hd:e - f≤300000) (hd':f - e≤300000)
  (he : -1000000≤e) (he':e≤1000000) (hf : -1000000≤f) (hf':f≤1000000) (A C:Nat) (hA:A=n*2^(e - min e f).toNat) (hC:C=m*2^(f - min e f).toNat) :
  Ck ⟨⟨s,n⟩,e⟩ ⟨⟨t,m⟩,f⟩=some (nz (addZ s A t C).1 (addZ s A t C).2 (min e f)):=by
 obtain ⟨a,ha⟩:∃a:Nat,e - min e f=(a:Int):=⟨(e - min e f).toNat,by omega⟩
 obtain ⟨c,hc⟩:∃c:Nat,f - min e f=(c:Int):=⟨(f - min e f).toNat,by omega⟩
 rw [ha] at hA;rw [hc] at hC
 rw [Int.toNat_natCast] at hA hC
 have hbA:bl A≤400000:=by rw [hA];have:=Jf n a;omega
 have hbC:bl C≤400000:=by rw [hC];have:=Jf m c;omega
 have hsA:Sm A:=by unfold Sm;omega
 have hsC:Sm C:=by unfold Sm;omega
 have hcp:=@HN A C
 unfold Ck BA
 simp only [sz0,Kf]
 rw [if_neg hn,sB,if_neg hm,sB,if_pos hn,if_pos hm]
 rw [w64 (x:=e - min e f) (by omega) (by omega),w64 (x:=f - min e f) (by omega) (by omega),ha,hc]
 unfold Eb
 simp only
 rw [wShl (by unfold Sm;omega) (by omega),sB,sB,sB,wShl (by unfold Sm;omega) (by omega),sB,sB,sB,←hA,←hC]
 unfold DD Er addZ
 simp only
 by_cases hst:s=t
 ·rw [if_pos hst,if_pos hst,wAdd hsA hsC,sB,sB,normal _ _ _ (Mq hbA hbC) (by omega) (by omega)];rfl
 ·rw [if_neg hst,if_neg hst,wCmp hsA hsC,sB]
  by_cases h:C≤A
  ·have:¬cmpw A C<0:=fun h2=>by have:=hcp.1 h2;omega
   rw [if_pos (by omega),wSub hsA h,sB,sB,normal _ _ _ (Ib (Nat.sub_le _ _) hsA) (by omega) (by omega),if_pos h];rfl
  ·have:cmpw A C<0:=hcp.2 (by omega)
   rw [if_neg (by omega),wSub hsC (by omega),sB,sB,normal _ _ _ (Ib (Nat.sub_le _ _) hsC) (by omega) (by omega),if_neg h];rfl
theorem plus0l (s t:Bool) (m:Nat) (e f:Int) (hms:bl m≤40000) (hf : -1000000≤f) (hf':f≤1000000) (he : -1000000≤e) (he':e≤1000000):Ck ⟨⟨s,0⟩,e⟩ ⟨⟨t,m⟩,f⟩=some (nz t m f):=by
 have hmS:Sm m:=by unfold Sm;omega
 have hc:=@HN 0 m
 unfold Ck BA
 simp only [sz0,Kf]
 rw [if_pos trivial,sB]
 by_cases hm:m=0
 ·subst hm
  rw [if_pos rfl,sB]
  unfold DD Er DB
  simp only [ne_eq,not_true_eq_false,if_false,sB,sz0]
  cases s<;>cases t<;>rfl
 ·rw [if_neg hm,sB,if_pos hm,w64 (x:=f - f) (by omega) (by omega),show f - f=((0:Nat):Int) by omega]
  unfold Eb
  simp only [ne_eq,not_true_eq_false,if_false,sB]
  rw [wShl hmS (by decide),Nat.pow_zero,Nat.mul_one,sB]
  unfold DD Er
  simp only [sB]
  by_cases hst:s=t
  ·rw [if_pos hst,wAdd sm0 hmS,sB,sB,Nat.zero_add,normal _ _ _ hmS (by omega) (by omega),hst];rfl
  ·have:cmpw 0 m<0:=hc.2 (by omega)
   rw [if_neg hst,wCmp sm0 hmS,sB,if_neg (by omega),wSub hmS (by omega),sB,sB,Nat.sub_zero,normal _ _ _ hmS (by omega) (by omega)];rfl
theorem plus0r (s t:Bool) (n:Nat) (e f:Int) (hn:n≠0) (hns:bl n≤40000) (he : -1000000≤e) (he':e≤1000000):Ck ⟨⟨s,n⟩,e⟩ ⟨⟨t,0⟩,f⟩=some (nz s n e):=by
 have hnS:Sm n:=by unfold Sm;omega
 have hc:=@HN n 0
 unfold Ck BA
 simp only [sz0,Kf]
 rw [if_neg hn,sB,if_pos trivial,sB,if_pos hn,w64 (x:=e - e) (by omega) (by omega),show e - e=((0:Nat):Int) by omega]
 unfold Eb
 simp only [ne_eq,not_true_eq_false,if_false,sB]
 rw [wShl hnS (by decide),Nat.pow_zero,Nat.mul_one,sB]
 unfold DD Er
 simp only [sB]
 by_cases hst:s=t
 ·rw [if_pos hst,wAdd hnS sm0,sB,sB,Nat.add_zero,normal _ _ _ hnS (by omega) (by omega)];rfl
 ·have:¬cmpw n 0<0:=fun h2=>by have:=hc.1 h2;omega
  rw [if_neg hst,wCmp hnS sm0,sB,if_pos (by omega),wSub hnS (by omega),sB,sB,Nat.sub_zero,normal _ _ _ hnS (by omega) (by omega)];rfl
end Go.Proofs.Pq
namespace Go.Proofs.Pq
set_option linter.unusedVariables false
set_option linter.unusedSimpArgs false
set_option maxRecDepth 4000
open Go.Proofs Go.Sb Go.Proofs.Sbn Go.Proofs.Lf
structure Lv (y:Ao) (z:Af):Prop where
 a:y.m.Abs=z.Man.Abs
 e:y.e=z.Exp
 s:z.Man.Abs≠0→y.m.Neg=z.Man.Neg
 c:toD (nz y.m.Neg y.m.Abs y.e)=z
theorem Lv.of {d:Af} (h:VT d):Lv (ofD d) d:=⟨rfl,rfl,fun _=>rfl,by
 have h2:nz d.Man.Neg d.Man.Abs d.Exp=ofD d:=(canonV h).symm
 show toD (nz d.Man.Neg d.Man.Abs d.Exp)=d
 rw [h2];rfl⟩
theorem sumC (x:Af) (y:Ao) (z:Af) (hx:VT x) (h:Lv y z) (hxs:bl x.Man.Abs≤9000) (hys:bl z.Man.Abs≤9000) (h1 : -5000≤x.Exp) (h2:x.Exp≤5000) (h3 : -5000≤z.Exp) (h4:z.Exp≤5000) :
  ∃σ M E,Ck (ofD x) y=some (nz σ M E)∧BJ x z=some (toD (nz σ M E))∧bl M≤20000∧-5000≤E∧E≤5000:=by
 obtain ⟨⟨s,n⟩,e⟩:=x
 obtain ⟨⟨t,m⟩,f⟩:=y
 obtain ⟨⟨t',m'⟩,f'⟩:=z
 obtain ⟨ha,hee,hs,hc⟩:=h
 simp only at ha hee hs hc hxs hys h1 h2 h3 h4
 subst ha hee
 by_cases hn:n=0
 ·subst hn
  refine ⟨t,m,f,plus0l s t m e f (by omega) (by omega) (by omega) (by omega) (by omega),?_,by omega,h3,h4⟩
  unfold BJ
  simp only [sz0]
  rw [if_pos trivial,hc]
 ·by_cases hm:m=0
  ·subst hm
   refine ⟨s,n,e,plus0r s t n e f hn (by omega) (by omega) (by omega),?_,by omega,h1,h2⟩
   unfold BJ
   simp only [sz0]
   rw [if_neg hn,if_pos trivial]
   have:=(Lv.of hx).c
   exact congrArg some this.symm
  ·have hst:=hs hm
   subst hst
   refine ⟨_,_,_,plusP s t n m e f hn hm (by omega) (by omega) (by omega) (by omega) (by omega) (by omega) (by omega) (by omega) _ _ rfl rfl,refSum s t n m e f hn hm (by omega) (by omega) (by omega) (by omega) (by omega) (by omega) (by omega) (by omega) _ _ rfl rfl,?_,by omega,by omega⟩
   obtain ⟨a,ha⟩:∃a:Nat,(e - min e f).toNat=a:=⟨_,rfl⟩
   obtain ⟨c,hc⟩:∃c:Nat,(f - min e f).toNat=c:=⟨_,rfl⟩
   rw [ha,hc]
   have e1:bl (n*2^a)≤19000:=by have:=Jf n a;omega
   have e2:bl (m*2^c)≤19000:=by have:=Jf m c;omega
   generalize n*2^a=A at *
   generalize m*2^c=C at *
   have l0:=Li e1 e2
   have hsum:∀X:Nat,X≤A+C→bl X≤20000:=fun X hX=>by have:=Le hX;omega
   apply hsum
   unfold addZ
   split
   ·exact Nat.le_refl _
   ·split<;>simp only<;>omega
theorem nearT (x y:Ao) (hxs:bl x.m.Abs≤9000) (hys:bl y.m.Abs≤9000) (h1 : -5000≤x.e) (h2:x.e≤5000) (h3 : -5000≤y.e) (h4:y.e≤5000):Gd x y=some true:=by
 obtain ⟨⟨s,n⟩,e⟩:=x
 obtain ⟨⟨t,m⟩,f⟩:=y
 simp only at hxs hys h1 h2 h3 h4
 unfold Gd
 rw [sign,sB]
 by_cases hn:n=0
 ·rw [if_pos (by rw [if_pos hn])];rfl
 ·rw [if_neg (by rw [if_neg hn];split<;>decide),sign,sB,sB]
  by_cases hm:m=0
  ·rw [if_pos hm];rfl
  ·rw [decide_eq_false (by rw [if_neg hm];split<;>decide),if_neg (by decide)]
   unfold Es
   simp only
   rw [wBits (show Sm n by unfold Sm;omega),sB,sB,wBits (show Sm m by unfold Sm;omega),sB,sB]
   rw [w64 (x:=(bl n:Int) - 1) (by omega) (by omega),w64 (x:=(bl n:Int) - 1+e) (by omega) (by omega),w64 (x:=(bl m:Int) - 1) (by omega) (by omega),w64 (x:=(bl m:Int) - 1+f) (by omega) (by omega)]
   rw [w64 (x:=max ((bl n:Int) - 1+e) ((bl m:Int) - 1+f) - min e f) (by omega) (by omega),decide_eq_true (by omega)]
theorem JZ {d:Af} (h:VT d):∃z,DP (ofD d)=some ⟨⟨!d.Man.Neg,d.Man.Abs⟩,d.Exp⟩∧EC d=some z∧Lv ⟨⟨!d.Man.Neg,d.Man.Abs⟩,d.Exp⟩ z∧z.Man.Abs=d.Man.Abs∧z.Exp=d.Exp:=by
 obtain ⟨⟨s,n⟩,e⟩:=d
 refine ⟨_,?_,refMinus s n e,⟨rfl,rfl,fun h0=>?_,?_⟩,rfl,rfl⟩
 ·unfold DP FC ofD;cases s<;>rfl
 ·show (!s)=(!s && decide (n≠0));rw [decide_eq_true h0,Bool.and_true]
 ·show toD (nz (!s) n e)=_
  by_cases h0:n=0
  ·obtain ⟨h1,h2⟩:=h.z h0
   simp only at h1 h2
   subst h0 h1 h2;rfl
  ·rw [KA (h.o h0).1];unfold toD;rw [decide_eq_true h0,Bool.and_true]
theorem prodEq (x y:Af) (hxs:bl x.Man.Abs≤9000) (hys:bl y.Man.Abs≤9000) (h1 : -5000≤x.Exp) (h2:x.Exp≤5000) (h3 : -5000≤y.Exp) (h4:y.Exp≤5000) :
  ∃σ M E,DU (ofD x) (ofD y)=some (nz σ M E)∧CW x y=some (toD (nz σ M E))∧bl M≤18000∧-10000≤E∧E≤10000:=by
 obtain ⟨⟨s,n⟩,e⟩:=x
 obtain ⟨⟨t,m⟩,f⟩:=y
 simp only at hxs hys h1 h2 h3 h4
 have hM:bl (n*m)≤18000:=by have:=bl_mul2 n m;omega
 refine ⟨decide (¬s=t),n*m,e+f,?_,?_,hM,by omega,by omega⟩
 ·unfold DU Gs ofD
  simp only
  rw [wMul (by unfold Sm;omega) (by unfold Sm;omega),sB,sB,w64 (x:=e+f) (by omega) (by omega),normal _ _ _ (by unfold Sm;omega) (by omega) (by omega)];rfl
 ·unfold CW Et
  simp only
  rw [rMul (by unfold Sm;omega) (by unfold Sm;omega),sB,signed,sB,sB,w64 (x:=e+f) (by omega) (by omega),refOf _ _ _ (by unfold Sm;omega) (by omega) (by omega),sB,Kb]
end Go.Proofs.Pq
namespace Go.Proofs.Pq
set_option linter.unusedVariables false
set_option linter.unusedSimpArgs false
set_option maxRecDepth 4000
open Go.Proofs Go.Sb Go.Proofs.Sbn Go.Proofs.Lf
def Lt (d:Af):Prop:=Ok d∧bl d.Man.Abs≤9000
theorem LL (x:Ak) (h:Dig x.Man.Abs):∃v,Dp x=some v∧(v=true→∀d,x=toL d→VT d→Lt d):=by
 obtain ⟨w,hv,_,_⟩:=Kj x h
 unfold Dp
 by_cases hl:(List.length x.Man.Abs:Int)≤60
 ·have key:(-3000≤x.Exp∧x.Exp≤3000)→∀d,x=toL d→VT d→Lt d:=by
   rintro ⟨k1,k2⟩ d rfl hd
   have e1:(toL d).Exp=d.Exp:=rfl
   have e2:(toL d).Man.Abs.length=Sbn.sz d.Man.Abs:=rfl
   have h60:Sbn.sz d.Man.Abs≤60:=by omega
   exact ⟨hd.ok (by omega) (by omega) (by omega),by have:=JT h60;omega⟩
  have nov:w=false→∀d,x=toL d→VT d→Lt d:=by
   intro hw d hd hvt
   subst hd;rw [(validT hvt).1,hw] at hv;cases hv
  rw [if_pos hl,hv]
  by_cases k1 : -3000≤x.Exp
  ·rw [if_pos k1,sB]
   by_cases k2:x.Exp≤3000
   ·exact ⟨true,by rw [decide_eq_true k2];rfl,fun _=>key ⟨k1,k2⟩⟩
   ·refine ⟨!w,by rw [decide_eq_false k2];cases w<;>rfl,fun hw=>nov (by cases w<;>simp_all)⟩
  ·rw [if_neg k1,sB]
   refine ⟨!w,by cases w<;>rfl,fun hw=>nov (by cases w<;>simp_all)⟩
 ·rw [if_neg hl]
  exact ⟨false,rfl,fun h=>by cases h⟩
end Go.Proofs.Pq
namespace Go.Proofs.Pq
set_option linter.unusedVariables false
set_option linter.unusedSimpArgs false
set_option maxRecDepth 4000
open Go.Proofs Go.Sb Go.Proofs.Sbn Go.Proofs.Lf
theorem Lk (e:Int) (x:Ak) (he:e≠0):Ap (toL zD) e e x=some true:=by
 unfold Ap
 rw [if_pos he,if_pos rfl,show toN (toL zD).Man.Abs=some 0 from Hy 0,sB]
 show (((AG zD zD).bind fun r=>some r).bind fun m=>some m)=some true
 rw [Kv zD sm0];rfl
theorem Jb {w:Af} (h:VT w):Ap (toL w) 0 0 (toL w)=some true:=by
 unfold Ap Ei
 rw [if_neg (by decide),show toN (toL w).Man.Abs=some w.Man.Abs from Hy _,sB]
 simp only
 rw [show Be ⟨⟨(toL w).Man.Neg,limbs w.Man.Abs⟩,(toL w).Exp⟩=some true from (validT h).1,sB,if_neg (by simp),sB,if_pos rfl,sB]
 show (((AG w w).bind fun r=>some r).bind fun m=>some m)=some true
 rw [Kv w h.sm];rfl
theorem Cb.of {σ:Bool} {M:Nat} {E:Int} (h1:bl M≤20000) (h2 : -100000≤E) (h3:E≤100000):Cb (nz σ M E):=by
 refine ⟨?_,?_,?_,σ,M,E,rfl⟩
 all_goals
  unfold nz
  by_cases h0:M=0
  ·rw [if_pos h0];simp only;first | (rw [Lg];omega) | omega
  ·rw [if_neg h0];simp only
   have:=bl_div M (2^tz M)
   obtain ⟨_,_,hq⟩:=Ir h0
   omega
theorem Mh {d:Af} : ∃z,EC d=some z∧Bc (toL d)=some (toL z):=by
 obtain ⟨⟨s,n⟩,e⟩:=d
 refine ⟨_,refMinus s n e,?_⟩
 unfold Bc Dw Dq toL
 simp only
 have hz:(0<((limbs n).length:Int))=(n≠0):=Kf n
 simp only [hz]
 cases s
 ·rfl
 ·rfl
theorem add_err (x y:Ak) (v0 v1:Bool) (p0:Ch x=some v0) (p1:Ch y=some v1) (h:(v0 && v1)=false):FO x y=some (zD,1)∧FW x y=some (zD,1)∧FX x y=some (zD,1):=by
 unfold FO Bp BT FW BE Cj FX Bg BG DM
 rw [p0,p1]
 cases v0
 ·exact ⟨rfl,rfl,rfl⟩
 ·cases v1
  ·exact ⟨rfl,rfl,rfl⟩
  ·cases h
theorem mbo {α β:Type} (a:α) (f:α→M β):mb (some (.ok a)) f=f a:=rfl
theorem KT {x y:Af} (hx:VT x) (hy:VT y):DM (toL x) (toL y)=some (.ok ()):=by
 unfold DM
 rw [(validT hx).2,(validT hy).2];rfl
theorem Km {x:Af} (hx:VT x):Di (toL x)=some (.ok ()):=by
 unfold Di
 rw [(validT hx).2];rfl
theorem inT (x:Af):DV ⟨⟨(toL x).Man.Neg,x.Man.Abs⟩,(toL x).Exp⟩=some (ofD x):=rfl
theorem toNT (x:Af):toN (toL x).Man.Abs=some x.Man.Abs:=Hy _
theorem wantT (e:Int):BZ true e=some (.ok ()):=rfl
theorem add_ok (x y:Af) (hx:VT x) (hy:VT y) (lx:Lt x) (ly:Lt y):∃r,FO (toL x) (toL y)=some (toD r,0)∧BJ x y=some (toD r)∧Cb r:=by
 obtain ⟨σ,M,E,p1,p2,p3,p4,p5⟩:=sumC x (ofD y) y hx (Lv.of hy) lx.2 ly.2 lx.1.l lx.1.u ly.1.l ly.1.u
 have hc:Cb (nz σ M E):=Cb.of p3 (by omega) (by omega)
 refine ⟨_,?_,p2,hc⟩
 unfold FO Bp BT
 rw [KT hx hy,mbo,toNT,sB,inT,sB,toNT,sB,inT,sB,nearT (ofD x) (ofD y) lx.2 ly.2 lx.1.l lx.1.u ly.1.l ly.1.u,sB,wantT,mbo,p1,sB,(outOK hc).1,mbo]
 rfl
theorem sub_ok (x y:Af) (hx:VT x) (hy:VT y) (lx:Lt x) (ly:Lt y):∃r z,FW (toL x) (toL y)=some (toD r,0)∧Bc (toL y)=some (toL z)∧BJ x z=some (toD r)∧Cb r:=by
 obtain ⟨z,m1,m2,m3,m4,m5⟩:=JZ hy
 obtain ⟨z',n1,n2⟩:=Mh (d:=y)
 obtain rfl:z'=z:=Option.some.inj (n1.symm.trans m2)
 obtain ⟨σ,M,E,p1,p2,p3,p4,p5⟩:=sumC x _ z' hx m3 lx.2 (by rw [m4];exact ly.2) lx.1.l lx.1.u (by rw [m5];exact ly.1.l) (by rw [m5];exact ly.1.u)
 have hc:Cb (nz σ M E):=Cb.of p3 (by omega) (by omega)
 refine ⟨_,z',?_,n2,p2,hc⟩
 unfold FW BE Cj
 rw [KT hx hy,mbo,toNT,sB,inT,sB,toNT,sB,inT,sB,nearT (ofD x) (ofD y) lx.2 ly.2 lx.1.l lx.1.u ly.1.l ly.1.u,sB,wantT,mbo]
 unfold GV
 rw [m1,sB,p1,sB,sB,(outOK hc).1,mbo]
 rfl
theorem mul_ok (x y:Af) (hx:VT x) (hy:VT y) (lx:Lt x) (ly:Lt y):∃r,FX (toL x) (toL y)=some (toD r,0)∧CW x y=some (toD r)∧Cb r:=by
 obtain ⟨σ,M,E,p1,p2,p3,p4,p5⟩:=prodEq x y lx.2 ly.2 lx.1.l lx.1.u ly.1.l ly.1.u
 have hc:Cb (nz σ M E):=Cb.of (by omega) (by omega) (by omega)
 refine ⟨_,?_,p2,hc⟩
 unfold FX Bg BG
 rw [KT hx hy,mbo,toNT,sB,inT,sB,toNT,sB,inT,sB]
 unfold GR
 rw [sB,wantT,mbo,p1,sB,(outOK hc).1,mbo]
 rfl
theorem neg_err (x:Ak) (p0:Ch x=some false):Fv x=some (zD,1):=by
 unfold Fv Hp Di
 rw [p0];rfl
theorem neg_ok (x:Af) (hx:VT x) (lx:Lt x):∃z,Fv (toL x)=some (z,0)∧Bc (toL x)=some (toL z)∧VT z:=by
 obtain ⟨z,m1,m2,m3,m4,m5⟩:=JZ hx
 obtain ⟨z',n1,n2⟩:=Mh (d:=x)
 obtain rfl:z'=z:=Option.some.inj (n1.symm.trans m2)
 refine ⟨z',?_,n2,?_⟩
 ·unfold Fv Hp
  rw [Km hx,mbo,toNT,sB,inT,sB,m1,sB]
  obtain ⟨⟨s,n⟩,e⟩:=x
  rw [refMinus] at n1
  obtain rfl:=Option.some.inj n1
  by_cases h0:n=0
  ·obtain ⟨h1,h2⟩:=hx.z h0
   simp only at h1 h2
   subst h0 h1 h2
   rfl
  ·have hc:Cb (⟨⟨!s,n⟩,e⟩:Ao):=by
    have:=Cb.of (σ:=!s) (M:=n) (E:=e) (by have:=lx.2;simp only at this;omega) (by have:=lx.1.l;simp only at this;omega) (by have:=lx.1.u;simp only at this;omega)
    rwa [KA (hx.o h0).1] at this
   rw [(outOK hc).1,mbo,decide_eq_true h0,Bool.and_true]
   rfl
 ·obtain ⟨⟨s,n⟩,e⟩:=x
  rw [refMinus] at n1
  obtain rfl:=Option.some.inj n1
  refine ⟨hx.s,fun h=>⟨?_,(hx.z h).2⟩,hx.o⟩
  show (!s && decide (n≠0))=false
  rw [decide_eq_false (fun h2=>h2 h),Bool.and_false]
theorem shift_err (x:Ak) (n:Int) (p0:Ch x=some false):CJ x n=some (zD,1):=by
 unfold CJ Fd Di
 rw [p0];rfl
theorem shift_zero (n:Int):CJ (toL zD) n=some (zD,0):=by
 have hv:VT zD:=⟨by decide,fun _=>⟨rfl,rfl⟩,fun h=>absurd rfl h⟩
 unfold CJ Fd
 rw [Km hv,mbo]
 rfl
theorem JP (x:Af) (n:Int) (hx:VT x) (h0:x.Man.Abs≠0) (h:¬(-4194304≤n∧n≤4194304)):CJ (toL x) n=some (zD,2):=by
 have hl:¬((List.length (toL x).Man.Abs:Int))=0:=by
  intro h2
  have h3:(toL x).Man.Abs.length=0:=by omega
  exact h0 (Hm h3)
 unfold CJ Fd
 rw [Km hx,mbo,if_neg hl]
 have e1:(if n≤4194304 then some (decide (-4194304≤n)) else some false)=some false:=by
  by_cases h1:n≤4194304
  ·rw [if_pos h1,decide_eq_false (by omega)]
  ·rw [if_neg h1]
 rw [e1,sB]
 rfl
theorem Kt (x:Af) (n:Int) (hx:VT x) (lx:Lt x) (h0:x.Man.Abs≠0) (h : -4194304≤n∧n≤4194304) :
  CJ (toL x) n=if -1048576≤x.Exp+n∧x.Exp+n≤1048576 then some (⟨x.Man,x.Exp+n⟩,0) else some (zD,2):=by
 have hl:¬((List.length (toL x).Man.Abs:Int))=0:=by
  intro h2
  have h3:(toL x).Man.Abs.length=0:=by omega
  exact h0 (Hm h3)
 obtain ⟨⟨s,m⟩,e⟩:=x
 have l1:=lx.1.l
 have l2:=lx.1.u
 have l3:=lx.2
 simp only at l1 l2 l3 h0
 have hmS:Sm m:=by unfold Sm;omega
 unfold CJ Fd
 rw [Km hx,mbo,if_neg hl]
 have e1:(if n≤4194304 then some (decide (-4194304≤n)) else some false)=some true:=by
  rw [if_pos h.2,decide_eq_true h.1]
 rw [e1,sB,wantT,mbo,toNT,sB]
 have e2:Gc ⟨(toL ⟨⟨s,m⟩,e⟩).Man.Neg,m⟩=some ⟨s,m⟩:=rfl
 rw [e2,sB,show wi64 ((toL ⟨⟨s,m⟩,e⟩).Exp+n)=e+n from w64 (by show _≤e+n;omega) (by show e+n<_;omega)]
 have hz:Sbn.sz m≤1024:=hx.s
 have hneg:(if s=true then some (decide (0<(Sbn.sz m:Int))) else some false)=some s:=by
  simp only [Kf]
  rw [decide_eq_true h0];cases s<;>rfl
 have out:BM ⟨⟨s,m⟩,e+n⟩=if -1048576≤e+n∧e+n≤1048576 then some (.ok ⟨⟨s,m⟩,e+n⟩) else some (.error 2):=by
  unfold BM
  simp only
  rw [if_pos (by omega),sB]
  by_cases h1:e+n≤1048576
  ·by_cases h2 : -1048576≤e+n
   ·rw [decide_eq_true h1,if_pos rfl,sB,decide_eq_true h2,wantT,mbo,wClone hmS,sB]
    unfold Fz
    simp only
    rw [hneg,sB,sB,if_pos ⟨h2,h1⟩]
   ·rw [decide_eq_true h1,if_pos rfl,sB,decide_eq_false h2,if_neg (fun h3 : -1048576≤e+n∧e+n≤1048576=>h2 h3.1)];rfl
  ·rw [decide_eq_false h1,if_neg (by decide),sB,if_neg (fun h3 : -1048576≤e+n∧e+n≤1048576=>h1 h3.2)];rfl
 rw [out]
 by_cases h1 : -1048576≤e+n∧e+n≤1048576
 ·rw [if_pos h1,if_pos h1,mbo];rfl
 ·rw [if_neg h1,if_neg h1];rfl
theorem agR_limit (m:Ag) (e:Int) (hm:m.Abs≠0) (hs:Sbn.sz m.Abs≤1024) (h:¬(-1048576≤e∧e≤1048576)):Ap (toL zD) 2 0 ⟨⟨m.Neg,limbs m.Abs⟩,e⟩=some true:=by
 have hd:Dig (limbs m.Abs):=AL _
 obtain ⟨v,hv,_,hvt⟩:=Kj ⟨⟨m.Neg,limbs m.Abs⟩,e⟩ hd
 have hvf:v=false:=by
  cases v
  ·rfl
  ·obtain ⟨d,hd,hv⟩:=hvt rfl
   exfalso
   have e1:limbs m.Abs=limbs d.Man.Abs:=congrArg (fun x:Ak=>x.Man.Abs) hd
   have e2:e=d.Exp:=congrArg (fun x:Ak=>x.Exp) hd
   have:=hv.o (by rw [←limbs_inj e1];exact hm)
   omega
 subst hvf
 unfold Ap Ei
 rw [if_neg (by decide)]
 simp only [Hy,sB]
 rw [hv,sB,if_pos (by simp),sB,if_pos rfl,show toN (toL zD).Man.Abs=some 0 from Hy 0,sB]
 show (((AG zD zD).bind fun r=>some r).bind fun m=>some m)=some true
 rw [Kv zD sm0];rfl
end Go.Proofs.Pq
namespace Go.Proofs.Pq
set_option linter.unusedVariables false
set_option linter.unusedSimpArgs false
set_option maxRecDepth 4000
open Go.Proofs Go.Sb Go.Proofs.Sbn Go.Proofs.Lf
theorem sumsRest (x0:Ak) (x2:Int) (h0:Dig x0.Man.Abs) (v0:Bool) (f0:Ch x0=some v0) (g0:v0=true→∃d,x0=toL d∧VT d) (k0:∀d,x0=toL d→VT d→Lt d) :
  ((Cz v0).bind fun r518=>
 (Fv x0).bind fun r524=>
 (Bc x0).bind fun r542=>
 (Ap ((⟨(⟨r524.1.Man.Neg,(limbs r524.1.Man.Abs)⟩:Av),r524.1.Exp⟩:Ak)) r524.2 r518 r542).bind fun r552=>
 if ¬(r552=true) then some false else (CJ x0 x2).bind fun r572=>
 (if 1073741824<x2 then some (true) else some ((decide (x2<((-1073741824)))))).bind fun m593=>
 (if r518=0 then some (m593) else some (false)).bind fun m614=>
 if m614=true then (Cg).bind fun r1125=>
 (if r1125=true then (Ba x0).bind fun r1263=>
 (if r1263=0 then some ((decide (r572.2=0))) else some (false)).bind fun m1275=>
 (if m1275=true then some (true) else (Ba x0).bind fun r1335=>
 (if ¬r1335=0 then some ((decide (r572.2=2))) else some (false)).bind fun m1347=>
 some (m1347)).bind fun m1318=>
 some (m1318) else some (false)).bind fun m1235=>
 (if m1235=true then (AG r572.1 ((⟨(⟨false,0⟩:Ag),0⟩:Af))).bind fun r1389=>
 some (r1389) else some (false)).bind fun m1374=>
 some m1374 else (Ba x0).bind fun r919=>
 (if ¬r919=0 then some ((wi64 (x0.Exp+x2))) else some (x0.Exp)).bind fun m933=>
 (Cg).bind fun r954=>
 (if r954=true then (if r518=0 then some (true) else some ((decide (r572.2=r518)))).bind fun m1009=>
 some (m1009) else some (false)).bind fun m985=>
 (if m985=true then (if ¬r518=0 then some (true) else (Ap ((⟨(⟨r572.1.Man.Neg,(limbs r572.1.Man.Abs)⟩:Av),r572.1.Exp⟩:Ak)) r572.2 r518 ((⟨x0.Man,m933⟩:Ak))).bind fun r1117=>
 some (r1117)).bind fun m1099=>
 some (m1099) else some (false)).bind fun m1066=>
 some m1066)=some true:=by
 rw [sanity]
 cases v0
 ·obtain ⟨z,hz⟩:∃z,Bc x0=some z:=by
   unfold Bc Dw Dq
   cases x0.Man.Neg<;>exact ⟨_,rfl⟩
  obtain ⟨u,hu⟩:∃u,Ba x0=some u:=by
   unfold Ba
   split
   ·exact ⟨_,rfl⟩
   ·split<;>exact ⟨_,rfl⟩
  have a1:=Lk 1 z (by decide)
  have ag:Ap ⟨⟨zD.Man.Neg,limbs zD.Man.Abs⟩,zD.Exp⟩ 1 1 z=some true:=a1
  rw [show Cz false=some 1 from rfl,sB,neg_err x0 f0,sB,hz,sB,ag,sB]
  simp only [not_true_eq_false,if_false]
  rw [shift_err x0 x2 f0,sB,hu]
  have e1:(if 1073741824<x2 then some true else some (decide (x2 < -1073741824)))=some (if 1073741824<x2 then true else decide (x2 < -1073741824)):=by split<;>rfl
  rw [e1,sB,if_neg (by decide),sB]
  simp only [Bool.false_eq_true,if_false,if_true,sB,not_true_eq_false]
  split<;>rfl
 ·obtain ⟨d,rfl,hd⟩:=g0 rfl
  have ld:=k0 d rfl hd
  obtain ⟨z,n1,n2,n3⟩:=neg_ok d hd ld
  have ag:Ap ⟨⟨z.Man.Neg,limbs z.Man.Abs⟩,z.Exp⟩ 0 0 (toL z)=some true:=Jb n3
  rw [show Cz true=some 0 from rfl,sB,n1,sB,n2,sB,ag,sB]
  simp only [not_true_eq_false,if_false,if_true,sB]
  have hsg:Ba (toL d)=some (sv d.Man.Neg d.Man.Abs):=by
   have hz:(((limbs d.Man.Abs).length:Int)=0)=(d.Man.Abs=0):=sz0 d.Man.Abs
   unfold Ba toL sv
   simp only [hz]
   split
   ·rfl
   ·split<;>rfl
  rw [hsg]
  have e1:(if 1073741824<x2 then some true else some (decide (x2 < -1073741824)))=some (decide (¬(-1073741824≤x2∧x2≤1073741824))):=by
   by_cases q1:1073741824<x2
   ·rw [if_pos q1,decide_eq_true (by omega)]
   ·rw [if_neg q1];congr 1;apply decide_eq_decide.2;omega
  rw [e1]
  simp only [sB,bb]
  by_cases hz:d.Man.Abs=0
  ·obtain ⟨q1,q2⟩:=hd.z hz
   have hdz:d=zD:=by
    obtain ⟨⟨s,n⟩,e⟩:=d
    simp only at hz q1 q2
    subst hz q1 q2;rfl
   subst hdz
   rw [shift_zero,sB]
   have hvz:VT zD:=hd
   have ag0:Ap ⟨⟨zD.Man.Neg,limbs zD.Man.Abs⟩,zD.Exp⟩ 0 0 (toL zD)=some true:=Jb hvz
   have ss:AG zD zD=some true:=Kv zD sm0
   have s0:sv zD.Man.Neg zD.Man.Abs=0:=rfl
   rw [s0]
   by_cases far : -1073741824≤x2∧x2≤1073741824
   ·rw [decide_eq_false (fun h=>h far),if_neg (by decide),if_neg (by decide),sB]
    show ((Ap ⟨⟨zD.Man.Neg,limbs zD.Man.Abs⟩,zD.Exp⟩ 0 0 (toL zD)).bind _)=_
    rw [ag0];rfl
   ·rw [decide_eq_true far,if_pos rfl,if_pos rfl,sB]
    show (((AG zD zD).bind _).bind _)=_
    rw [ss];rfl
  ·have s0:sv d.Man.Neg d.Man.Abs≠0:=by
    unfold sv;rw [if_neg hz];split<;>decide
   have ss:AG zD zD=some true:=Kv zD sm0
   by_cases far : -1073741824≤x2∧x2≤1073741824
   ·have hw:wi64 ((toL d).Exp+x2)=d.Exp+x2:=w64 (by have:=ld.1.l;show _≤d.Exp+x2;omega) (by have:=ld.1.u;show d.Exp+x2<_;omega)
    by_cases hin : -1048576≤d.Exp+x2∧d.Exp+x2≤1048576
    ·have hs:=Kt d x2 hd ld hz ⟨by have:=ld.1.u;omega,by have:=ld.1.l;omega⟩
     rw [if_pos hin] at hs
     have hv:VT ⟨d.Man,d.Exp+x2⟩:=⟨hd.s,fun h=>absurd h hz,fun h=>⟨(hd.o h).1,hin⟩⟩
     have ag1:Ap ⟨⟨d.Man.Neg,limbs d.Man.Abs⟩,d.Exp+x2⟩ 0 0 ⟨(toL d).Man,d.Exp+x2⟩=some true:=Jb hv
     rw [hs,sB,decide_eq_false (fun h=>h far),if_neg (by decide),if_pos s0,sB,hw]
     simp only
     rw [ag1];rfl
    ·have hs:CJ (toL d) x2=some (zD,2):=by
      by_cases h4 : -4194304≤x2∧x2≤4194304
      ·rw [Kt d x2 hd ld hz h4,if_neg hin]
      ·exact JP d x2 hd hz h4
     have ag1:Ap ⟨⟨zD.Man.Neg,limbs zD.Man.Abs⟩,zD.Exp⟩ 2 0 ⟨(toL d).Man,d.Exp+x2⟩=some true:=agR_limit d.Man (d.Exp+x2) hz hd.s hin
     rw [hs,sB,decide_eq_false (fun h=>h far),if_neg (by decide),if_pos s0,sB,hw]
     simp only
     rw [ag1];rfl
   ·have hs:CJ (toL d) x2=some (zD,2):=JP d x2 hd hz (fun h=>far ⟨by omega,by omega⟩)
    rw [hs,sB,decide_eq_true far,if_pos rfl,if_neg s0,sB]
    simp only [Bool.false_eq_true,if_false]
    rw [if_pos s0]
    show (((AG zD zD).bind _).bind _)=_
    rw [ss];rfl
theorem lawSums (x0 x1:Ak) (x2:Int) (h0:Dig x0.Man.Abs) (h1:Dig x1.Man.Abs):Eg x0 x1 x2=some true:=by
 obtain ⟨w0,fe0,fk0⟩:=LL x0 h0
 obtain ⟨w1,fe1,fk1⟩:=LL x1 h1
 obtain ⟨v0,e0,f0,g0⟩:=Kj x0 h0
 obtain ⟨v1,e1,f1,g1⟩:=Kj x1 h1
 unfold Eg
 rw [fe0,fe1,sB]
 cases w0
 ·rw [sanity];rfl
 cases w1
 ·rw [sanity];rfl
 have rest:=sumsRest x0 x2 h0 v0 f0 g0 (fk0 rfl)
 simp only [not_true_eq_false,if_false,sB,decide_false,Bool.false_eq_true]
 rw [e0,e1,sB]
 have hm91:(if v0=true then (some v1:Option Bool).bind fun r104=>some r104 else some false)=some (v0 && v1):=by cases v0<;>rfl
 rw [hm91,sB]
 by_cases hok:(v0 && v1)=true
 ·obtain ⟨q0,q1⟩:=(Bool.and_eq_true _ _▸hok:v0=true∧v1=true)
  obtain ⟨x,hx,vx⟩:=g0 q0
  obtain ⟨y,hy,vy⟩:=g1 q1
  have lx:Lt x:=fk0 rfl x hx vx
  have ly:Lt y:=fk1 rfl y hy vy
  subst hx hy
  obtain ⟨r,a1,a2,a3⟩:=add_ok x y vx vy lx ly
  obtain ⟨u,z,b1,b2,b3,b4⟩:=sub_ok x y vx vy lx ly
  obtain ⟨p,c1,c2,c3⟩:=mul_ok x y vx vy lx ly
  have d0:(⟨⟨(toL x).Man.Neg,x.Man.Abs⟩,(toL x).Exp⟩:Af)=x:=rfl
  have d1:(⟨⟨(toL y).Man.Neg,y.Man.Abs⟩,(toL y).Exp⟩:Af)=y:=rfl
  have d2:(⟨⟨(toL z).Man.Neg,z.Man.Abs⟩,(toL z).Exp⟩:Af)=z:=rfl
  have ga:Ap ⟨⟨(toD r).Man.Neg,limbs (toD r).Man.Abs⟩,(toD r).Exp⟩ 0 0 ⟨⟨(toD r).Man.Neg,limbs (toD r).Man.Abs⟩,(toD r).Exp⟩=some true:=Jb (outOK a3).2
  have gb:Ap ⟨⟨(toD u).Man.Neg,limbs (toD u).Man.Abs⟩,(toD u).Exp⟩ 0 0 ⟨⟨(toD u).Man.Neg,limbs (toD u).Man.Abs⟩,(toD u).Exp⟩=some true:=Jb (outOK b4).2
  have gc:Ap ⟨⟨(toD p).Man.Neg,limbs (toD p).Man.Abs⟩,(toD p).Exp⟩ 0 0 ⟨⟨(toD p).Man.Neg,limbs (toD p).Man.Abs⟩,(toD p).Exp⟩=some true:=Jb (outOK c3).2
  rw [hok,show Cz true=some 0 from rfl,sB,if_pos rfl,a1,b1,c1]
  rw [toNT,sB,toNT,sB,d0,d1,a2,sB,b2,sB,toNT,sB,d2,b3,sB,c2,sB,sB,sB,sB,sB]
  rw [ga,sB,if_neg (by simp)]
  rw [gb,sB,sB,if_neg (by simp)]
  rw [gc,sB,sB,if_neg (by simp)]
  exact rest
 ·have hf:(v0 && v1)=false:=by simpa using hok
  obtain ⟨a1,b1,c1⟩:=add_err x0 x1 v0 v1 f0 f1 hf
  have a8:=Lk 1 (toL zD) (by decide)
  rw [hf,show Cz false=some 1 from rfl,sB,if_neg (by decide),sB,a1,b1,c1,sB,sB,sB]
  have ga:Ap ⟨⟨zD.Man.Neg,limbs zD.Man.Abs⟩,zD.Exp⟩ 1 1 ⟨⟨false,limbs 0⟩,0⟩=some true:=a8
  rw [ga,sB,if_neg (by simp),sB,sB,if_neg (by simp),sB,sB,if_neg (by simp)]
  exact rest
end Go.Proofs.Pq
