import Derived.Test.YtabiobmfelafoaaDoorPB
import Derived.KernelRfl
namespace Go.Proofs.Pq
set_option linter.unusedVariables false
set_option linter.unusedSimpArgs false
set_option maxRecDepth 4000
open Go.Proofs Go.Sb Go.Proofs.Sbn Go.Proofs.Lf
theorem nValid {a:List Int} (ha:Dig a):EM a=some (decide (a.length≤1024∧limbs (val a)=a)):=by
 rw [←JO ha];rfl
def toL (d:Af):Al:=⟨⟨d.Man.Neg,limbs d.Man.Abs⟩,d.Exp⟩
def ofD (d:Af):An:=⟨d.Man,d.Exp⟩
structure VT (d:Af):Prop where
 s:Sbn.sz d.Man.Abs≤1024
 z:d.Man.Abs=0→d.Man.Neg=false∧d.Exp=0
 o:d.Man.Abs≠0→d.Man.Abs%2=1∧-1048576≤d.Exp∧d.Exp≤1048576
theorem validT {d:Af} (h:VT d):Cp (toL d)=some true∧Cg (toL d)=some true:=by
 obtain ⟨⟨s,n⟩,e⟩:=d
 obtain ⟨h1,h2,h3⟩:=h
 simp only at h1 h2 h3
 unfold Cp Cg CH EB toL
 simp only
 rw [show Bp (limbs n)=_ from JO (AP n),nValid (AP n),sB,AZ,decide_eq_true ⟨h1,rfl⟩]
 by_cases h0:n=0
 ·obtain ⟨rfl,rfl⟩:=h2 h0
  subst h0
  exact ⟨rfl,rfl⟩
 ·obtain ⟨a1,a2,a3⟩:=h3 h0
  have hb:=rBit (AP n) 0 (by decide)
  have hl:((limbs n).length:Int)≠0:=by
   intro h;exact h0 (GK (by have:Sbn.sz n=(limbs n).length:=rfl;omega))
  have hl2:(0:Int)<((limbs n).length:Int):=by omega
  rw [AZ,Nat.pow_zero,Nat.div_one,a1] at hb
  have hnt:nth (limbs n) 0=some ((n%4294967296:Nat):Int):=by
   rw [Ez h0];unfold nth;rw [if_pos ⟨by omega,by simp only [List.length_cons];omega⟩];rfl
  have hb2:Bt (limbs n) 0=some 1:=hb
  have e1:(((n%4294967296:Nat):Int)%2)=1:=by omega
  rw [hb2,hnt]
  simp only [decide_eq_true hl2,sB,if_true,e1,decide_eq_true a2,decide_eq_true a3,if_neg hl]
  cases s<;>exact ⟨rfl,rfl⟩
theorem Jo (x:Al) (hx:Dig x.Man.Abs):∃v,Cp x=some v∧Cg x=some v∧(v=true→∃d,x=toL d∧VT d):=by
 obtain ⟨⟨s,l⟩,e⟩:=x
 simp only at hx
 unfold Cp Cg CH EB
 simp only
 rw [show Bp l=_ from JO hx,nValid hx,sB]
 by_cases hP:l.length≤1024∧limbs (val l)=l
 ·rw [decide_eq_true hP]
  obtain ⟨hl,hc⟩:=hP
  generalize val l=n at hc
  subst hc
  by_cases h0:n=0
  ·subst h0
   cases s
   ·exact ⟨decide (e=0),rfl,rfl,fun h=>⟨⟨⟨false,0⟩,e⟩,rfl,hl,fun _=>⟨rfl,of_decide_eq_true h⟩,fun h=>absurd rfl h⟩⟩
   ·exact ⟨false,rfl,rfl,fun h=>by cases h⟩
  ·have hb:=rBit (AP n) 0 (by decide)
   have hz:Sbn.sz n=(limbs n).length:=rfl
   have hln:((limbs n).length:Int)≠0:=by
    intro h;exact h0 (GK (by omega))
   have hl2:(0:Int)<((limbs n).length:Int):=by omega
   rw [AZ,Nat.pow_zero,Nat.div_one] at hb
   have hnt:nth (limbs n) 0=some ((n%4294967296:Nat):Int):=by
    rw [Ez h0];unfold nth;rw [if_pos ⟨by omega,by simp only [List.length_cons];omega⟩];rfl
   have hb2:Bt (limbs n) 0=some ((n%2:Nat):Int):=hb
   rw [hb2,hnt]
   have c1:(((n%2:Nat):Int)=1)=(n%2=1):=by apply propext;omega
   refine ⟨decide (n%2=1∧-1048576≤e∧e≤1048576),?_,?_,fun h=>?_⟩
   ·simp only [decide_eq_true hl2,sB,if_true,if_neg hln,c1]
    by_cases a1:n%2=1<;>by_cases a2 : -1048576≤e<;>by_cases a3:e≤1048576<;>cases s<;>simp [a1,a2,a3,sB]
   ·simp only [decide_eq_true hl2,sB,if_true,if_neg hln]
    have e1:(((n%4294967296:Nat):Int)%2)=((n%2:Nat):Int):=by omega
    simp only [e1,c1]
    by_cases a1:n%2=1<;>by_cases a2 : -1048576≤e<;>by_cases a3:e≤1048576<;>cases s<;>simp [a1,a2,a3,sB]
   ·have h:=of_decide_eq_true h
    exact ⟨⟨⟨s,n⟩,e⟩,rfl,hl,fun h=>absurd h h0,fun _=>h⟩
 ·rw [decide_eq_false hP]
  exact ⟨false,rfl,rfl,fun h=>by cases h⟩
end Go.Proofs.Pq
namespace Go.Proofs.Pq
set_option linter.unusedVariables false
set_option linter.unusedSimpArgs false
set_option maxRecDepth 4000
open Go.Proofs Go.Sb Go.Proofs.Sbn Go.Proofs.Lf
def addZ (s:Bool) (A:Nat) (t:Bool) (C:Nat):Bool × Nat:=if s=t then (s,A+C) else if C≤A then (s,A - C) else (t,C - A)
theorem addZ_Z (s:Bool) (A:Nat) (t:Bool) (C:Nat):Z (addZ s A t C).1 (addZ s A t C).2=Z s A+Z t C:=by
 unfold addZ Z
 by_cases h:C≤A<;>cases s<;>cases t<;>simp [h]<;>omega
theorem sm_add {a b:Nat} (ha:bl a≤400000) (hb:bl b≤400000):Sm (a+b):=by
 have:=Jf ha hb
 unfold Sm;omega
theorem VT.ok {d:Af} (h:VT d) (hl : -5000≤d.Exp) (hu:d.Exp≤5000) (hs:Sbn.sz d.Man.Abs≤600):Ok d:=
 ⟨fun h0=>(h.z h0).1,by have:=IJ hs;omega,hl,hu⟩
theorem outOK {r:An} (h:Cb r):Bv r=some (.ok (toD r))∧VT (toD r):=by
 obtain ⟨h1,h2,h3,s,M,e,rfl⟩:=h
 have hS:Sm (nz s M e).m.Abs:=by unfold Sm;omega
 have hz:Sbn.sz (nz s M e).m.Abs≤1000:=HG (by omega)
 have hv:VT (toD (nz s M e)):=by
  refine ⟨Nat.le_trans hz (by decide),fun h=>?_,fun h=>?_⟩
  ·have h0:M=0:=by
    by_cases h0:M=0
    ·exact h0
    ·exfalso
     unfold toD nz at h
     rw [if_neg h0] at h
     simp only at h
     obtain ⟨q,hq⟩:=Kk M
     generalize tz M=z at *
     rw [hq,Nat.mul_div_cancel _ (Nat.two_pow_pos z)] at h
     rw [h,Nat.zero_mul] at hq;exact h0 hq
   unfold toD nz
   rw [if_pos h0]
   exact ⟨rfl,rfl⟩
  ·have h0:M≠0:=by
    intro h0;apply h;unfold toD nz;rw [if_pos h0]
   refine ⟨?_,by show _≤(nz s M e).e;omega,by show (nz s M e).e≤_;omega⟩
   unfold toD nz
   rw [if_neg h0]
   simp only
   obtain ⟨q,hq,_⟩:=EV h0
   generalize tz M=z at *
   rw [hq,Nat.mul_div_cancel_left _ (Nat.two_pow_pos z)];omega
 refine ⟨?_,hv⟩
 have hneg:(if (nz s M e).m.Neg=true then some (decide (0<(Sbn.sz (nz s M e).m.Abs:Int))) else some false)=some (nz s M e).m.Neg:=by
  simp only [KD]
  by_cases h0:(nz s M e).m.Abs=0
  ·have:=(hv.z h0).1
   have h5:(nz s M e).m.Neg=false:=this
   rw [h5];rfl
  ·rw [decide_eq_true h0];cases (nz s M e).m.Neg<;>rfl
 unfold Bv BG
 generalize nz s M e=r at *
 rw [if_pos (by omega),sB,decide_eq_true (show r.e≤1048576 by omega),if_pos rfl,sB,decide_eq_true (show -1048576≤r.e by omega),if_neg (by simp)]
 show (Ch r.m.Abs).bind _=_
 rw [wClone hS,sB]
 unfold EJ
 simp only
 rw [hneg,sB,sB]
 rfl
theorem sameInt (a:Ag) (h:Sm a.Abs):CW a a=some true:=by
 unfold CW
 rw [if_pos rfl,same _ _ h,decide_eq_true rfl];rfl
theorem sameD (a:Af) (h:Sm a.Man.Abs):AK a a=some true:=by
 unfold AK
 rw [sameInt _ h,sB,if_pos rfl,decide_eq_true rfl];rfl
def zD:Af:=⟨⟨false,0⟩,0⟩
theorem sm0:Sm 0:=by unfold Sm;decide
theorem VT.sm {d:Af} (h:VT d):Sm d.Man.Abs:=by have:=IJ h.s;unfold Sm;omega
end Go.Proofs.Pq
namespace Go.Proofs.Pq
set_option linter.unusedVariables false
set_option linter.unusedSimpArgs false
set_option maxRecDepth 4000
open Go.Proofs Go.Sb Go.Proofs.Sbn Go.Proofs.Lf
end Go.Proofs.Pq
namespace Go.Proofs.Pq
set_option linter.unusedVariables false
set_option linter.unusedSimpArgs false
set_option maxRecDepth 4000
open Go.Proofs Go.Sb Go.Proofs.Sbn Go.Proofs.Lf
theorem sanity:Dc=some true:=by kernel_rfl
theorem bb (o:Option Bool):((o.bind fun r=>some r).bind fun m=>some m)=o:=by cases o<;>rfl
end Go.Proofs.Pq
namespace Go.Proofs.Pq
set_option linter.unusedVariables false
set_option linter.unusedSimpArgs false
set_option maxRecDepth 4000
open Go.Proofs Go.Sb Go.Proofs.Sbn Go.Proofs.Lf
theorem Je {s:Bool} {q:Nat} {e:Int} (h:q%2=1):nz s q e=⟨⟨s,q⟩,e⟩:=by
 have h0:q≠0:=by omega
 have hz:tz q=0:=JE (m:=q/2) (by rw [Nat.pow_zero,Nat.one_mul];omega)
 unfold nz
 rw [if_neg h0,hz,Nat.pow_zero,Nat.div_one]
 congr 1
 simp
theorem canonV {d:Af} (h:VT d):ofD d=nz d.Man.Neg d.Man.Abs d.Exp:=by
 obtain ⟨⟨s,n⟩,e⟩:=d
 by_cases h0:n=0
 ·obtain ⟨h1,h2⟩:=h.z h0
  simp only at h1 h2
  subst h0 h1 h2;rfl
 ·exact (Je (h.o h0).1).symm
theorem plusP (s t:Bool) (n m:Nat) (e f:Int) (hn:n≠0) (hm:m≠0) (hns:bl n≤40000) (hms:bl m≤40000) (hd:e - f≤300000) (hd':f - e≤300000)
  (he : -1000000≤e) (he':e≤1000000) (hf : -1000000≤f) (hf':f≤1000000) (A C:Nat) (hA:A=n*2^(e - min e f).toNat) (hC:C=m*2^(f - min e f).toNat) :
  AQ ⟨⟨s,n⟩,e⟩ ⟨⟨t,m⟩,f⟩=some (nz (addZ s A t C).1 (addZ s A t C).2 (min e f)):=by
 obtain ⟨a,ha⟩:∃a:Nat,e - min e f=(a:Int):=⟨(e - min e f).toNat,by omega⟩
 obtain ⟨c,hc⟩:∃c:Nat,f - min e f=(c:Int):=⟨(f - min e f).toNat,by omega⟩
 rw [ha] at hA;rw [hc] at hC
 rw [Int.toNat_natCast] at hA hC
 have hbA:bl A≤400000:=by rw [hA];have:=HX n a;omega
 have hbC:bl C≤400000:=by rw [hC];have:=HX m c;omega
 have hsA:Sm A:=by unfold Sm;omega
 have hsC:Sm C:=by unfold Sm;omega
 have hcp:=@Hp A C
 unfold AQ Bm
 simp only [sz0,KD]
 rw [if_neg hn,sB,if_neg hm,sB,if_pos hn,if_pos hm]
 rw [w64 (x:=e - min e f) (by omega) (by omega),w64 (x:=f - min e f) (by omega) (by omega),ha,hc]
 unfold Ds
 simp only
 rw [wShl (by unfold Sm;omega) (by omega),sB,sB,sB,wShl (by unfold Sm;omega) (by omega),sB,sB,sB,←hA,←hC]
 unfold CT DM addZ
 simp only
 by_cases hst:s=t
 ·rw [if_pos hst,if_pos hst,wAdd hsA hsC,sB,sB,normal _ _ _ (sm_add hbA hbC) (by omega) (by omega)];rfl
 ·rw [if_neg hst,if_neg hst,wCmp hsA hsC,sB]
  by_cases h:C≤A
  ·have:¬cmpw A C<0:=fun h2=>by have:=hcp.1 h2;omega
   rw [if_pos (by omega),wSub hsA h,sB,sB,normal _ _ _ (KB (Nat.sub_le _ _) hsA) (by omega) (by omega),if_pos h];rfl
  ·have:cmpw A C<0:=hcp.2 (by omega)
   rw [if_neg (by omega),wSub hsC (by omega),sB,sB,normal _ _ _ (KB (Nat.sub_le _ _) hsC) (by omega) (by omega),if_neg h];rfl
theorem plus0l (s t:Bool) (m:Nat) (e f:Int) (hms:bl m≤40000) (hf : -1000000≤f) (hf':f≤1000000) (he : -1000000≤e) (he':e≤1000000):AQ ⟨⟨s,0⟩,e⟩ ⟨⟨t,m⟩,f⟩=some (nz t m f):=by
 have hmS:Sm m:=by unfold Sm;omega
 have hc:=@Hp 0 m
 unfold AQ Bm
 simp only [sz0,KD]
 rw [if_pos trivial,sB]
 by_cases hm:m=0
 ·subst hm
  rw [if_pos rfl,sB]
  unfold CT DM CS
  simp only [ne_eq,not_true_eq_false,if_false,sB,sz0]
  cases s<;>cases t<;>rfl
 ·rw [if_neg hm,sB,if_pos hm,w64 (x:=f - f) (by omega) (by omega),show f - f=((0:Nat):Int) by omega]
  unfold Ds
  simp only [ne_eq,not_true_eq_false,if_false,sB]
  rw [wShl hmS (by decide),Nat.pow_zero,Nat.mul_one,sB]
  unfold CT DM
  simp only [sB]
  by_cases hst:s=t
  ·rw [if_pos hst,wAdd sm0 hmS,sB,sB,Nat.zero_add,normal _ _ _ hmS (by omega) (by omega),hst];rfl
  ·have:cmpw 0 m<0:=hc.2 (by omega)
   rw [if_neg hst,wCmp sm0 hmS,sB,if_neg (by omega),wSub hmS (by omega),sB,sB,Nat.sub_zero,normal _ _ _ hmS (by omega) (by omega)];rfl
theorem plus0r (s t:Bool) (n:Nat) (e f:Int) (hn:n≠0) (hns:bl n≤40000) (he : -1000000≤e) (he':e≤1000000):AQ ⟨⟨s,n⟩,e⟩ ⟨⟨t,0⟩,f⟩=some (nz s n e):=by
 have hnS:Sm n:=by unfold Sm;omega
 have hc:=@Hp n 0
 unfold AQ Bm
 simp only [sz0,KD]
 rw [if_neg hn,sB,if_pos trivial,sB,if_pos hn,w64 (x:=e - e) (by omega) (by omega),show e - e=((0:Nat):Int) by omega]
 unfold Ds
 simp only [ne_eq,not_true_eq_false,if_false,sB]
 rw [wShl hnS (by decide),Nat.pow_zero,Nat.mul_one,sB]
 unfold CT DM
 simp only [sB]
 by_cases hst:s=t
 ·rw [if_pos hst,wAdd hnS sm0,sB,sB,Nat.add_zero,normal _ _ _ hnS (by omega) (by omega)];rfl
 ·have:¬cmpw n 0<0:=fun h2=>by have:=hc.1 h2;omega
  rw [if_neg hst,wCmp hnS sm0,sB,if_pos (by omega),wSub hnS (by omega),sB,sB,Nat.sub_zero,normal _ _ _ hnS (by omega) (by omega)];rfl
end Go.Proofs.Pq
namespace Go.Proofs.Pq
set_option linter.unusedVariables false
set_option linter.unusedSimpArgs false
set_option maxRecDepth 4000
open Go.Proofs Go.Sb Go.Proofs.Sbn Go.Proofs.Lf
structure Same (y:An) (z:Af):Prop where
 a:y.m.Abs=z.Man.Abs
 e:y.e=z.Exp
 s:z.Man.Abs≠0→y.m.Neg=z.Man.Neg
 c:toD (nz y.m.Neg y.m.Abs y.e)=z
theorem Same.of {d:Af} (h:VT d):Same (ofD d) d:=⟨rfl,rfl,fun _=>rfl,by
 have h2:nz d.Man.Neg d.Man.Abs d.Exp=ofD d:=(canonV h).symm
 show toD (nz d.Man.Neg d.Man.Abs d.Exp)=d
 rw [h2];rfl⟩
theorem nearT (x y:An) (hxs:bl x.m.Abs≤9000) (hys:bl y.m.Abs≤9000) (h1 : -5000≤x.e) (h2:x.e≤5000) (h3 : -5000≤y.e) (h4:y.e≤5000):En x y=some true:=by
 obtain ⟨⟨s,n⟩,e⟩:=x
 obtain ⟨⟨t,m⟩,f⟩:=y
 simp only at hxs hys h1 h2 h3 h4
 unfold En
 rw [sign,sB]
 by_cases hn:n=0
 ·rw [if_pos (by rw [if_pos hn])];rfl
 ·rw [if_neg (by rw [if_neg hn];split<;>decide),sign,sB,sB]
  by_cases hm:m=0
  ·rw [if_pos hm];rfl
  ·rw [decide_eq_false (by rw [if_neg hm];split<;>decide),if_neg (by decide)]
   unfold Dr
   simp only
   rw [wBits (show Sm n by unfold Sm;omega),sB,sB,wBits (show Sm m by unfold Sm;omega),sB,sB]
   rw [w64 (x:=(bl n:Int) - 1) (by omega) (by omega),w64 (x:=(bl n:Int) - 1+e) (by omega) (by omega),w64 (x:=(bl m:Int) - 1) (by omega) (by omega),w64 (x:=(bl m:Int) - 1+f) (by omega) (by omega)]
   rw [w64 (x:=max ((bl n:Int) - 1+e) ((bl m:Int) - 1+f) - min e f) (by omega) (by omega),decide_eq_true (by omega)]
def Pb (r:An):Prop:=∃s M e,r=nz s M e∧bl M≤18000∧-10000≤e∧e≤10000
theorem Pb.bd {r:An} (h:Pb r):bl r.m.Abs≤18000∧-10000≤r.e∧r.e≤30000:=by
 obtain ⟨s,M,e,rfl,h1,h2,h3⟩:=h
 unfold nz
 by_cases h0:M=0
 ·rw [if_pos h0];simp only;rw [GL];omega
 ·rw [if_neg h0];simp only
  have:=Jm M (2^tz M)
  obtain ⟨_,_,hq⟩:=EV h0
  omega
end Go.Proofs.Pq
namespace Go.Proofs.Pq
set_option linter.unusedVariables false
set_option linter.unusedSimpArgs false
set_option maxRecDepth 4000
open Go.Proofs Go.Sb Go.Proofs.Sbn Go.Proofs.Lf
def Lt (d:Af):Prop:=Ok d∧bl d.Man.Abs≤9000
end Go.Proofs.Pq
namespace Go.Proofs.Pq
set_option linter.unusedVariables false
set_option linter.unusedSimpArgs false
set_option maxRecDepth 4000
open Go.Proofs Go.Sb Go.Proofs.Sbn Go.Proofs.Lf
theorem Cb.of {σ:Bool} {M:Nat} {E:Int} (h1:bl M≤20000) (h2 : -100000≤E) (h3:E≤100000):Cb (nz σ M E):=by
 refine ⟨?_,?_,?_,σ,M,E,rfl⟩
 all_goals
  unfold nz
  by_cases h0:M=0
  ·rw [if_pos h0];simp only;first | (rw [GL];omega) | omega
  ·rw [if_neg h0];simp only
   have:=Jm M (2^tz M)
   obtain ⟨_,_,hq⟩:=EV h0
   omega
theorem mbo {α β:Type} (a:α) (f:α→M β):mb (some (.ok a)) f=f a:=rfl
theorem Jk {x y:Af} (hx:VT x) (hy:VT y):Dz (toL x) (toL y)=some (.ok ()):=by
 unfold Dz
 rw [(validT hx).2,(validT hy).2];rfl
theorem JT {x:Af} (hx:VT x):DA (toL x)=some (.ok ()):=by
 unfold DA
 rw [(validT hx).2];rfl
theorem inT (x:Af):Dj ⟨⟨(toL x).Man.Neg,x.Man.Abs⟩,(toL x).Exp⟩=some (ofD x):=rfl
theorem toNT (x:Af):toN (toL x).Man.Abs=some x.Man.Abs:=toN_limbs _
theorem wantT (e:Int):BG true e=some (.ok ()):=rfl
theorem shift_zero (n:Int):DE (toL zD) n=some (zD,0):=by
 have hv:VT zD:=⟨by decide,fun _=>⟨rfl,rfl⟩,fun h=>absurd rfl h⟩
 unfold DE FP
 rw [JT hv,mbo]
 rfl
theorem shift_in (x:Af) (n:Int) (hx:VT x) (lx:Lt x) (h0:x.Man.Abs≠0) (h : -4194304≤n∧n≤4194304) :
  DE (toL x) n=if -1048576≤x.Exp+n∧x.Exp+n≤1048576 then some (⟨x.Man,x.Exp+n⟩,0) else some (zD,2):=by
 have hl:¬((List.length (toL x).Man.Abs:Int))=0:=by
  intro h2
  have h3:(toL x).Man.Abs.length=0:=by omega
  exact h0 (GK h3)
 obtain ⟨⟨s,m⟩,e⟩:=x
 have l1:=lx.1.l
 have l2:=lx.1.u
 have l3:=lx.2
 simp only at l1 l2 l3 h0
 have hmS:Sm m:=by unfold Sm;omega
 unfold DE FP
 rw [JT hx,mbo,if_neg hl]
 have e1:(if n≤4194304 then some (decide (-4194304≤n)) else some false)=some true:=by
  rw [if_pos h.2,decide_eq_true h.1]
 rw [e1,sB,wantT,mbo,toNT,sB]
 have e2:Fm ⟨(toL ⟨⟨s,m⟩,e⟩).Man.Neg,m⟩=some ⟨s,m⟩:=rfl
 rw [e2,sB,show wi64 ((toL ⟨⟨s,m⟩,e⟩).Exp+n)=e+n from w64 (by show _≤e+n;omega) (by show e+n<_;omega)]
 have hz:Sbn.sz m≤1024:=hx.s
 have hneg:(if s=true then some (decide (0<(Sbn.sz m:Int))) else some false)=some s:=by
  simp only [KD]
  rw [decide_eq_true h0];cases s<;>rfl
 have out:Bv ⟨⟨s,m⟩,e+n⟩=if -1048576≤e+n∧e+n≤1048576 then some (.ok ⟨⟨s,m⟩,e+n⟩) else some (.error 2):=by
  unfold Bv
  simp only
  rw [if_pos (by omega),sB]
  by_cases h1:e+n≤1048576
  ·by_cases h2 : -1048576≤e+n
   ·rw [decide_eq_true h1,if_pos rfl,sB,decide_eq_true h2,wantT,mbo,wClone hmS,sB]
    unfold EJ
    simp only
    rw [hneg,sB,sB,if_pos ⟨h2,h1⟩]
   ·rw [decide_eq_true h1,if_pos rfl,sB,decide_eq_false h2,if_neg (fun h3 : -1048576≤e+n∧e+n≤1048576=>h2 h3.1)];rfl
  ·rw [decide_eq_false h1,if_neg (by decide),sB,if_neg (fun h3 : -1048576≤e+n∧e+n≤1048576=>h1 h3.2)];rfl
 rw [out]
 by_cases h1 : -1048576≤e+n∧e+n≤1048576
 ·rw [if_pos h1,if_pos h1,mbo];rfl
 ·rw [if_neg h1,if_neg h1];rfl
end Go.Proofs.Pq
