import Derived.Test.YtabiobmfelafoaaGreatDoorPB
import Derived.KernelRfl
namespace Go.Proofs.Pq
set_option linter.unusedVariables false
set_option linter.unusedSimpArgs false
set_option maxRecDepth 4000
open Go.Proofs Go.Sb Go.Proofs.Sbn Go.Proofs.Lf
theorem nValid {a:List Int} (ha:Dig a):GI a=some (decide (a.length≤1024∧limbs (val a)=a)):=by
 rw [←OZ ha];rfl
def toL (d:Al):Aq:=⟨⟨d.Man.Neg,limbs d.Man.Abs⟩,d.Exp⟩
def ofD (d:Al):Aj:=⟨d.Man,d.Exp⟩
structure VT (d:Al):Prop where
 s:Sbn.sz d.Man.Abs≤1024
 z:d.Man.Abs=0→d.Man.Neg=false∧d.Exp=0
 o:d.Man.Abs≠0→d.Man.Abs%2=1∧-1048576≤d.Exp∧d.Exp≤1048576
theorem validT {d:Al} (h:VT d):BM (toL d)=some true∧FV (toL d)=some true:=by
 obtain ⟨⟨s,n⟩,e⟩:=d
 obtain ⟨h1,h2,h3⟩:=h
 simp only at h1 h2 h3
 unfold BM FV Cr CT toL
 simp only
 rw [show Bw (limbs n)=_ from OZ (As n),nValid (As n),sB,Ax,decide_eq_true ⟨h1,rfl⟩]
 by_cases h0:n=0
 ·obtain ⟨rfl,rfl⟩:=h2 h0
  subst h0
  exact ⟨rfl,rfl⟩
 ·obtain ⟨a1,a2,a3⟩:=h3 h0
  have hb:=rBit (As n) 0 (by decide)
  have hl:((limbs n).length:Int)≠0:=by
   intro h;exact h0 (GS (by have:Sbn.sz n=(limbs n).length:=rfl;omega))
  have hl2:(0:Int)<((limbs n).length:Int):=by omega
  rw [Ax,Nat.pow_zero,Nat.div_one,a1] at hb
  have hnt:nth (limbs n) 0=some ((n%4294967296:Nat):Int):=by
   rw [FK h0];unfold nth;rw [if_pos ⟨by omega,by simp only [List.length_cons];omega⟩];rfl
  have hb2:BV (limbs n) 0=some 1:=hb
  have e1:(((n%4294967296:Nat):Int)%2)=1:=by omega
  rw [hb2,hnt]
  simp only [decide_eq_true hl2,sB,if_true,e1,decide_eq_true a2,decide_eq_true a3,if_neg hl]
  cases s<;>exact ⟨rfl,rfl⟩
theorem Ph (x:Aq) (hx:Dig x.Man.Abs):∃v,BM x=some v∧FV x=some v∧(v=true→∃d,x=toL d∧VT d):=by
 obtain ⟨⟨s,l⟩,e⟩:=x
 simp only at hx
 unfold BM FV Cr CT
 simp only
 rw [show Bw l=_ from OZ hx,nValid hx,sB]
 by_cases hP:l.length≤1024∧limbs (val l)=l
 ·rw [decide_eq_true hP]
  obtain ⟨hl,hc⟩:=hP
  generalize val l=n at hc
  subst hc
  by_cases h0:n=0
  ·subst h0
   cases s
   ·exact ⟨decide (e=0),rfl,rfl,fun h=>⟨⟨⟨false,0⟩,e⟩,rfl,hl,fun _=>⟨rfl,of_decide_eq_true h⟩,fun h=>absurd rfl h⟩⟩
   ·exact ⟨false,rfl,rfl,fun h=>by cases h⟩
  ·have hb:=rBit (As n) 0 (by decide)
   have hz:Sbn.sz n=(limbs n).length:=rfl
   have hln:((limbs n).length:Int)≠0:=by
    intro h;exact h0 (GS (by omega))
   have hl2:(0:Int)<((limbs n).length:Int):=by omega
   rw [Ax,Nat.pow_zero,Nat.div_one] at hb
   have hnt:nth (limbs n) 0=some ((n%4294967296:Nat):Int):=by
    rw [FK h0];unfold nth;rw [if_pos ⟨by omega,by simp only [List.length_cons];omega⟩];rfl
   have hb2:BV (limbs n) 0=some ((n%2:Nat):Int):=hb
   rw [hb2,hnt]
   have c1:(((n%2:Nat):Int)=1)=(n%2=1):=by apply propext;omega
   refine ⟨decide (n%2=1∧-1048576≤e∧e≤1048576),?_,?_,fun h=>?_⟩
   ·simp only [decide_eq_true hl2,sB,if_true,if_neg hln,c1]
    by_cases a1:n%2=1<;>by_cases a2 : -1048576≤e<;>by_cases a3:e≤1048576<;>cases s<;>simp [a1,a2,a3,sB]
   ·simp only [decide_eq_true hl2,sB,if_true,if_neg hln]
    have e1:(((n%4294967296:Nat):Int)%2)=((n%2:Nat):Int):=by omega
    simp only [e1,c1]
    by_cases a1:n%2=1<;>by_cases a2 : -1048576≤e<;>by_cases a3:e≤1048576<;>cases s<;>simp [a1,a2,a3,sB]
   ·have h:=of_decide_eq_true h
    exact ⟨⟨⟨s,n⟩,e⟩,rfl,hl,fun h=>absurd h h0,fun _=>h⟩
 ·rw [decide_eq_false hP]
  exact ⟨false,rfl,rfl,fun h=>by cases h⟩
def addZ (s:Bool) (A:Nat) (t:Bool) (C:Nat):Bool × Nat:=if s=t then (s,A+C) else if C≤A then (s,A - C) else (t,C - A)
theorem RX (s:Bool) (A:Nat) (t:Bool) (C:Nat):Z (addZ s A t C).1 (addZ s A t C).2=Z s A+Z t C:=by
 unfold addZ Z
 by_cases h:C≤A<;>cases s<;>cases t<;>simp [h]<;>omega
theorem sm_add {a b:Nat} (ha:bl a≤400000) (hb:bl b≤400000):Sm (a+b):=by
 have:=NL ha hb
 unfold Sm;omega
theorem VT.ok {d:Al} (h:VT d) (hl : -5000≤d.Exp) (hu:d.Exp≤5000) (hs:Sbn.sz d.Man.Abs≤600):Ok d:=
 ⟨fun h0=>(h.z h0).1,by have:=Fi hs;omega,hl,hu⟩
theorem outOK {r:Aj} (h:Cb r):ED r=some (.ok (toD r))∧VT (toD r):=by
 obtain ⟨h1,h2,h3,s,M,e,rfl⟩:=h
 have hS:Sm (nz s M e).m.Abs:=by unfold Sm;omega
 have hz:Sbn.sz (nz s M e).m.Abs≤1000:=EF (by omega)
 have hv:VT (toD (nz s M e)):=by
  refine ⟨Nat.le_trans hz (by decide),fun h=>?_,fun h=>?_⟩
  ·have h0:M=0:=by
    by_cases h0:M=0
    ·exact h0
    ·exfalso
     unfold toD nz at h
     rw [if_neg h0] at h
     simp only at h
     obtain ⟨q,hq⟩:=LU M
     generalize tz M=z at *
     rw [hq,Nat.mul_div_cancel _ (Nat.two_pow_pos z)] at h
     rw [h,Nat.zero_mul] at hq;exact h0 hq
   unfold toD nz
   rw [if_pos h0]
   exact ⟨rfl,rfl⟩
  ·have h0:M≠0:=by
    intro h0;apply h;unfold toD nz;rw [if_pos h0]
   refine ⟨?_,by show _≤(nz s M e).e;omega,by show (nz s M e).e≤_;omega⟩
   unfold toD nz
   rw [if_neg h0]
   simp only
   obtain ⟨q,hq,_⟩:=Hn h0
   generalize tz M=z at *
   rw [hq,Nat.mul_div_cancel_left _ (Nat.two_pow_pos z)];omega
 refine ⟨?_,hv⟩
 have hneg:(if (nz s M e).m.Neg=true then some (decide (0<(Sbn.sz (nz s M e).m.Abs:Int))) else some false)=some (nz s M e).m.Neg:=by
  simp only [Mt]
  by_cases h0:(nz s M e).m.Abs=0
  ·have:=(hv.z h0).1
   have h5:(nz s M e).m.Neg=false:=this
   rw [h5];rfl
  ·rw [decide_eq_true h0];cases (nz s M e).m.Neg<;>rfl
 unfold ED Cg
 generalize nz s M e=r at *
 rw [if_pos (by omega),sB,decide_eq_true (show r.e≤1048576 by omega),if_pos rfl,sB,decide_eq_true (show -1048576≤r.e by omega),if_neg (by simp)]
 show (Dh r.m.Abs).bind _=_
 rw [wClone hS,sB]
 unfold Jh
 simp only
 rw [hneg,sB,sB]
 rfl
def zD:Al:=⟨⟨false,0⟩,0⟩
def zS:Ao:=⟨zD,zD⟩
theorem sm0:Sm 0:=by unfold Sm;decide
theorem IG (n:Nat):toN (limbs n)=some n:=IM n
theorem fineP (b:Int):Ex b=if 1≤b∧b≤4096 then some (.ok ()) else some (.error 1):=by
 unfold Ex Cg
 by_cases h1:1≤b<;>by_cases h2:b≤4096<;>simp [h1,h2,sB,mb]
theorem QP (x y:Ao) (b:Int) (X Y:Am) (hX:X=⟨toL x.Lo,toL x.Hi⟩) (hY:Y=⟨toL y.Lo,toL y.Hi⟩) (p0:Be X=some true) (p1:Be Y=some true) (h:1≤b∧b≤4096) :
  EP X Y b=((mb (Fj ⟨ofD x.Lo,ofD x.Hi⟩ ⟨ofD y.Lo,ofD y.Hi⟩ b) fun r117=>(some (.ok (r117,0)):M (Ao × Int))).bind fun q=>match q with | .ok r=>some r | .error n=>some (zS,n)):=by
 unfold EP FA Hk Ba
 rw [p0,p1,fineP,if_pos h]
 subst hX hY
 unfold toL
 simp only [IM]
 show ((mb (Fj ⟨ofD x.Lo,ofD x.Hi⟩ ⟨ofD y.Lo,ofD y.Hi⟩ b) _).bind _).bind _=_
 generalize Fj ⟨ofD x.Lo,ofD x.Hi⟩ ⟨ofD y.Lo,ofD y.Hi⟩ b=m
 match m with
 | none=>rfl
 | some (.error n)=>rfl
 | some (.ok r)=>rfl
theorem root_ok (x:Ao) (b:Int) (X:Am) (hX:X=⟨toL x.Lo,toL x.Hi⟩) (p0:Be X=some true) (h:1≤b∧b≤4096) :
  GC X b=((mb (Ga ⟨ofD x.Lo,ofD x.Hi⟩ ⟨ofD x.Lo,ofD x.Hi⟩ b) fun r117=>(some (.ok (r117,0)):M (Ao × Int))).bind fun q=>match q with | .ok r=>some r | .error n=>some (zS,n)):=by
 unfold GC Fv Ha Ba
 rw [p0,fineP,if_pos h]
 subst hX
 unfold toL
 simp only [IM]
 show ((mb (Ga ⟨ofD x.Lo,ofD x.Hi⟩ ⟨ofD x.Lo,ofD x.Hi⟩ b) _).bind _).bind _=_
 generalize Ga ⟨ofD x.Lo,ofD x.Hi⟩ ⟨ofD x.Lo,ofD x.Hi⟩ b=m
 match m with
 | none=>rfl
 | some (.error n)=>rfl
 | some (.ok r)=>rfl
theorem sv01 (s:Bool) (n:Nat):sv s n = -1∨sv s n=0∨sv s n=1:=by unfold sv;split<;>(try split)<;>simp
theorem sanity:EV=some true:=by kernel_rfl
theorem bb (o:Option Bool):((o.bind fun r=>some r).bind fun m=>some m)=o:=by cases o<;>rfl
theorem round1 (s:Bool) (n b:Nat) (e dir:Int) (hn:bl n≤400000) (hb:1≤b) (h:b+1≤bl n) (he : -100000000≤e) (he':e≤100000000) :
  AH ⟨⟨s,n⟩,e⟩ (b:Int) dir false=some (rn s n (2^(bl n - b)) (e+((bl n - b:Nat):Int)) dir):=by
 have hn0:n≠0:=by intro h0;subst h0;rw [FG] at h;omega
 have key:∀(n:Nat) (e:Int),bl n≤400001→b+2≤bl n→-100000001≤e→e≤100000001→AH ⟨⟨s,n⟩,e⟩ (b:Int) dir false=some (rn s n (2^(bl n - b)) (e+((bl n - b:Nat):Int)) dir):=by
  intro n e h1 h2 h3 h4
  have:=Oh s n e b dir n 1 (by unfold Sm;omega) (by decide) (Nat.div_one n).symm hb h2 (by omega) (by omega)
  rw [show (decide (n%1≠0))=false by simp [Nat.mod_one],Nat.one_mul] at this
  exact this
 by_cases h2:b+2≤bl n
 ·exact key n e (by omega) h2 (by omega) (by omega)
 ·have hbl:=St (k:=1) hn0
  have hk:=key (n*2^1) (e - 1) (by omega) (by omega) (by omega) (by omega)
  have e1:AH ⟨⟨s,n⟩,e⟩ (b:Int) dir false=AH ⟨⟨s,n*2^1⟩,e - 1⟩ (b:Int) dir false:=by
   unfold AH
   simp only
   rw [wBits (by unfold Sm;omega),wBits (by unfold Sm;omega),sB,sB,w64 (x:=(bl n:Int) - (b:Int)) (by omega) (by omega),w64 (x:=(bl (n*2^1):Int) - (b:Int)) (by omega) (by omega)]
   rw [show (bl n:Int) - (b:Int)=1 by omega,show (bl (n*2^1):Int) - (b:Int)=2 by omega]
   unfold DR
   simp only
   rw [show wi64 (2 - (1:Int))=((1:Nat):Int) from by decide,wShl (by unfold Sm;omega) (by decide),w64 (x:=e - 2) (by omega) (by omega),w64 (x:=e - 2+1) (by omega) (by omega),show e - 2+1=e - 1 by omega]
   rfl
  rw [e1,hk]
  congr 1
  rw [hbl,show bl n+1 - b=(bl n - b)+1 by omega]
  rw [OS (N:=n*2^1) (D:=2^(bl n - b+1)) (N':=n) (D':=2^(bl n - b)) _ dir (Nat.two_pow_pos _) (Nat.two_pow_pos _) (by rw [Nat.pow_succ 2 (bl n - b),Nat.pow_one];simp only [Nat.mul_assoc,Nat.mul_comm,Nat.mul_left_comm])]
  congr 1
  omega
theorem Qh {s:Bool} {q:Nat} {e:Int} (h:q%2=1):nz s q e=⟨⟨s,q⟩,e⟩:=by
 have h0:q≠0:=by omega
 have hz:tz q=0:=QG (m:=q/2) (by rw [Nat.pow_zero,Nat.one_mul];omega)
 unfold nz
 rw [if_neg h0,hz,Nat.pow_zero,Nat.div_one]
 congr 1
 simp
theorem canonV {d:Al} (h:VT d):ofD d=nz d.Man.Neg d.Man.Abs d.Exp:=by
 obtain ⟨⟨s,n⟩,e⟩:=d
 by_cases h0:n=0
 ·obtain ⟨h1,h2⟩:=h.z h0
  simp only at h1 h2
  subst h0 h1 h2;rfl
 ·exact (Qh (h.o h0).1).symm
theorem plusP (s t:Bool) (n m:Nat) (e f:Int) (hn:n≠0) (hm:m≠0) (hns:bl n≤40000) (hms:bl m≤40000) (hd:e - f≤300000) (hd':f - e≤300000)
  (he : -1000000≤e) (he':e≤1000000) (hf : -1000000≤f) (hf':f≤1000000) (A C:Nat) (hA:A=n*2^(e - min e f).toNat) (hC:C=m*2^(f - min e f).toNat) :
  BD ⟨⟨s,n⟩,e⟩ ⟨⟨t,m⟩,f⟩=some (nz (addZ s A t C).1 (addZ s A t C).2 (min e f)):=by
 obtain ⟨a,ha⟩:∃a:Nat,e - min e f=(a:Int):=⟨(e - min e f).toNat,by omega⟩
 obtain ⟨c,hc⟩:∃c:Nat,f - min e f=(c:Int):=⟨(f - min e f).toNat,by omega⟩
 rw [ha] at hA;rw [hc] at hC
 rw [Int.toNat_natCast] at hA hC
 have hbA:bl A≤400000:=by rw [hA];have:=Kr n a;omega
 have hbC:bl C≤400000:=by rw [hC];have:=Kr m c;omega
 have hsA:Sm A:=by unfold Sm;omega
 have hsC:Sm C:=by unfold Sm;omega
 have hcp:=@IT A C
 unfold BD Bo
 simp only [sz0,Mt]
 rw [if_neg hn,sB,if_neg hm,sB,if_pos hn,if_pos hm]
 rw [w64 (x:=e - min e f) (by omega) (by omega),w64 (x:=f - min e f) (by omega) (by omega),ha,hc]
 unfold DR
 simp only
 rw [wShl (by unfold Sm;omega) (by omega),sB,sB,sB,wShl (by unfold Sm;omega) (by omega),sB,sB,sB,←hA,←hC]
 unfold DI FC addZ
 simp only
 by_cases hst:s=t
 ·rw [if_pos hst,if_pos hst,wAdd hsA hsC,sB,sB,normal _ _ _ (sm_add hbA hbC) (by omega) (by omega)];rfl
 ·rw [if_neg hst,if_neg hst,wCmp hsA hsC,sB]
  by_cases h:C≤A
  ·have:¬cmpw A C<0:=fun h2=>by have:=hcp.1 h2;omega
   rw [if_pos (by omega),wSub hsA h,sB,sB,normal _ _ _ (Im (Nat.sub_le _ _) hsA) (by omega) (by omega),if_pos h];rfl
  ·have:cmpw A C<0:=hcp.2 (by omega)
   rw [if_neg (by omega),wSub hsC (by omega),sB,sB,normal _ _ _ (Im (Nat.sub_le _ _) hsC) (by omega) (by omega),if_neg h];rfl
theorem plus0l (s t:Bool) (m:Nat) (e f:Int) (hms:bl m≤40000) (hf : -1000000≤f) (hf':f≤1000000) (he : -1000000≤e) (he':e≤1000000):BD ⟨⟨s,0⟩,e⟩ ⟨⟨t,m⟩,f⟩=some (nz t m f):=by
 have hmS:Sm m:=by unfold Sm;omega
 have hc:=@IT 0 m
 unfold BD Bo
 simp only [sz0,Mt]
 rw [if_pos trivial,sB]
 by_cases hm:m=0
 ·subst hm
  rw [if_pos rfl,sB]
  unfold DI FC Cz
  simp only [ne_eq,not_true_eq_false,if_false,sB,sz0]
  cases s<;>cases t<;>rfl
 ·rw [if_neg hm,sB,if_pos hm,w64 (x:=f - f) (by omega) (by omega),show f - f=((0:Nat):Int) by omega]
  unfold DR
  simp only [ne_eq,not_true_eq_false,if_false,sB]
  rw [wShl hmS (by decide),Nat.pow_zero,Nat.mul_one,sB]
  unfold DI FC
  simp only [sB]
  by_cases hst:s=t
  ·rw [if_pos hst,wAdd sm0 hmS,sB,sB,Nat.zero_add,normal _ _ _ hmS (by omega) (by omega),hst];rfl
  ·have:cmpw 0 m<0:=hc.2 (by omega)
   rw [if_neg hst,wCmp sm0 hmS,sB,if_neg (by omega),wSub hmS (by omega),sB,sB,Nat.sub_zero,normal _ _ _ hmS (by omega) (by omega)];rfl
theorem plus0r (s t:Bool) (n:Nat) (e f:Int) (hn:n≠0) (hns:bl n≤40000) (he : -1000000≤e) (he':e≤1000000):BD ⟨⟨s,n⟩,e⟩ ⟨⟨t,0⟩,f⟩=some (nz s n e):=by
 have hnS:Sm n:=by unfold Sm;omega
 have hc:=@IT n 0
 unfold BD Bo
 simp only [sz0,Mt]
 rw [if_neg hn,sB,if_pos trivial,sB,if_pos hn,w64 (x:=e - e) (by omega) (by omega),show e - e=((0:Nat):Int) by omega]
 unfold DR
 simp only [ne_eq,not_true_eq_false,if_false,sB]
 rw [wShl hnS (by decide),Nat.pow_zero,Nat.mul_one,sB]
 unfold DI FC
 simp only [sB]
 by_cases hst:s=t
 ·rw [if_pos hst,wAdd hnS sm0,sB,sB,Nat.add_zero,normal _ _ _ hnS (by omega) (by omega)];rfl
 ·have:¬cmpw n 0<0:=fun h2=>by have:=hc.1 h2;omega
  rw [if_neg hst,wCmp hnS sm0,sB,if_pos (by omega),wSub hnS (by omega),sB,sB,Nat.sub_zero,normal _ _ _ hnS (by omega) (by omega)];rfl
structure Same (y:Aj) (z:Al):Prop where
 a:y.m.Abs=z.Man.Abs
 e:y.e=z.Exp
 s:z.Man.Abs≠0→y.m.Neg=z.Man.Neg
 c:toD (nz y.m.Neg y.m.Abs y.e)=z
theorem Same.of {d:Al} (h:VT d):Same (ofD d) d:=⟨rfl,rfl,fun _=>rfl,by
 have h2:nz d.Man.Neg d.Man.Abs d.Exp=ofD d:=(canonV h).symm
 show toD (nz d.Man.Neg d.Man.Abs d.Exp)=d
 rw [h2];rfl⟩
theorem nearT (x y:Aj) (hxs:bl x.m.Abs≤9000) (hys:bl y.m.Abs≤9000) (h1 : -5000≤x.e) (h2:x.e≤5000) (h3 : -5000≤y.e) (h4:y.e≤5000):JD x y=some true:=by
 obtain ⟨⟨s,n⟩,e⟩:=x
 obtain ⟨⟨t,m⟩,f⟩:=y
 simp only at hxs hys h1 h2 h3 h4
 unfold JD
 rw [sign,sB]
 by_cases hn:n=0
 ·rw [if_pos (by rw [if_pos hn])];rfl
 ·rw [if_neg (by rw [if_neg hn];split<;>decide),sign,sB,sB]
  by_cases hm:m=0
  ·rw [if_pos hm];rfl
  ·rw [decide_eq_false (by rw [if_neg hm];split<;>decide),if_neg (by decide)]
   unfold Du
   simp only
   rw [wBits (show Sm n by unfold Sm;omega),sB,sB,wBits (show Sm m by unfold Sm;omega),sB,sB]
   rw [w64 (x:=(bl n:Int) - 1) (by omega) (by omega),w64 (x:=(bl n:Int) - 1+e) (by omega) (by omega),w64 (x:=(bl m:Int) - 1) (by omega) (by omega),w64 (x:=(bl m:Int) - 1+f) (by omega) (by omega)]
   rw [w64 (x:=max ((bl n:Int) - 1+e) ((bl m:Int) - 1+f) - min e f) (by omega) (by omega),decide_eq_true (by omega)]
theorem Jv {lo hi:Aj} (h:Cb lo) (h':Cb hi):Cp ⟨lo,hi⟩=some (.ok ⟨toD lo,toD hi⟩):=by
 unfold Cp
 rw [(outOK h).1]
 show mb (ED hi) _=_
 rw [(outOK h').1]
 rfl
def Pb (r:Aj):Prop:=∃s M e,r=nz s M e∧bl M≤18000∧-10000≤e∧e≤10000
theorem Pb.bd {r:Aj} (h:Pb r):bl r.m.Abs≤18000∧-10000≤r.e∧r.e≤30000:=by
 obtain ⟨s,M,e,rfl,h1,h2,h3⟩:=h
 unfold nz
 by_cases h0:M=0
 ·rw [if_pos h0];simp only;rw [FG];omega
 ·rw [if_neg h0];simp only
  have:=Jp M (2^tz M)
  obtain ⟨_,_,hq⟩:=Hn h0
  omega
def Lt (d:Al):Prop:=Ok d∧bl d.Man.Abs≤9000
def RQ (G:An→An→Int→M Ao) (F:Am→Am→Int→Option (Ao × Int)):Prop:=
 (∀x y b v0 v1,Be x=some v0→Be y=some v1→¬(v0=true∧v1=true∧1≤b∧b≤4096)→F x y b=some (zS,1))∧
 (∀(x y:Ao) (b:Int) (X Y:Am),X=⟨toL x.Lo,toL x.Hi⟩→Y=⟨toL y.Lo,toL y.Hi⟩→Be X=some true→Be Y=some true→1≤b∧b≤4096→
  ∀lo hi,G ⟨ofD x.Lo,ofD x.Hi⟩ ⟨ofD y.Lo,ofD y.Hi⟩ b=some (.ok ⟨lo,hi⟩)→F X Y b=some (⟨lo,hi⟩,0))
theorem madePlus:RQ GP HS:=by
 refine ⟨fun x y b v0 v1 p0 p1 h=>?_,fun x y b X Y hX hY p0 p1 h lo hi hG=>?_⟩
 ·unfold HS DL Fc Ba
  rw [p0,p1,fineP]
  cases v0
  ·rfl
  ·cases v1
   ·rfl
   ·rw [if_neg (fun h2=>h ⟨rfl,rfl,h2⟩)];rfl
 ·unfold HS DL Fc Ba
  rw [p0,p1,fineP,if_pos h]
  subst hX hY
  unfold toL
  simp only [IM]
  show ((mb (GP ⟨ofD x.Lo,ofD x.Hi⟩ ⟨ofD y.Lo,ofD y.Hi⟩ b) _).bind _).bind _=_
  rw [hG];rfl
theorem madeMinus:RQ Gm Hw:=by
 refine ⟨fun x y b v0 v1 p0 p1 h=>?_,fun x y b X Y hX hY p0 p1 h lo hi hG=>?_⟩
 ·unfold Hw DA ET Ba
  rw [p0,p1,fineP]
  cases v0
  ·rfl
  ·cases v1
   ·rfl
   ·rw [if_neg (fun h2=>h ⟨rfl,rfl,h2⟩)];rfl
 ·unfold Hw DA ET Ba
  rw [p0,p1,fineP,if_pos h]
  subst hX hY
  unfold toL
  simp only [IM]
  show ((mb (Gm ⟨ofD x.Lo,ofD x.Hi⟩ ⟨ofD y.Lo,ofD y.Hi⟩ b) _).bind _).bind _=_
  rw [hG];rfl
theorem madeTimes:RQ Gs GJ:=by
 refine ⟨fun x y b v0 v1 p0 p1 h=>?_,fun x y b X Y hX hY p0 p1 h lo hi hG=>?_⟩
 ·unfold GJ Dx ES Ba
  rw [p0,p1,fineP]
  cases v0
  ·rfl
  ·cases v1
   ·rfl
   ·rw [if_neg (fun h2=>h ⟨rfl,rfl,h2⟩)];rfl
 ·unfold GJ Dx ES Ba
  rw [p0,p1,fineP,if_pos h]
  subst hX hY
  unfold toL
  simp only [IM]
  show ((mb (Gs ⟨ofD x.Lo,ofD x.Hi⟩ ⟨ofD y.Lo,ofD y.Hi⟩ b) _).bind _).bind _=_
  rw [hG];rfl
theorem Cb.of {σ:Bool} {M:Nat} {E:Int} (h1:bl M≤20000) (h2 : -100000≤E) (h3:E≤100000):Cb (nz σ M E):=by
 refine ⟨?_,?_,?_,σ,M,E,rfl⟩
 all_goals
  unfold nz
  by_cases h0:M=0
  ·rw [if_pos h0];simp only;first | (rw [FG];omega) | omega
  ·rw [if_neg h0];simp only
   have:=Jp M (2^tz M)
   obtain ⟨_,_,hq⟩:=Hn h0
   omega
theorem mbo {α β:Type} (a:α) (f:α→M β):mb (some (.ok a)) f=f a:=rfl
theorem inT (x:Al):HD ⟨⟨(toL x).Man.Neg,x.Man.Abs⟩,(toL x).Exp⟩=some (ofD x):=rfl
theorem toNT (x:Al):toN (toL x).Man.Abs=some x.Man.Abs:=IM _
theorem wantT (e:Int):Cg true e=some (.ok ()):=rfl
theorem NR (x:Ar) (hx:Dig x.Abs):∃v,Cr x=some v∧CT x=some v∧(v=true→∃m:Ae,x=⟨m.Neg,limbs m.Abs⟩∧Sbn.sz m.Abs≤1024∧(m.Abs=0→m.Neg=false)):=by
 obtain ⟨s,l⟩:=x
 simp only at hx
 unfold Cr CT
 simp only
 rw [show Bw l=_ from OZ hx,nValid hx,sB]
 by_cases hP:l.length≤1024∧limbs (val l)=l
 ·rw [decide_eq_true hP]
  obtain ⟨hl,hc⟩:=hP
  generalize val l=n at hc
  subst hc
  by_cases h0:n=0
  ·subst h0
   cases s
   ·exact ⟨true,rfl,rfl,fun _=>⟨⟨false,0⟩,rfl,hl,fun _=>rfl⟩⟩
   ·exact ⟨false,rfl,rfl,fun h=>by cases h⟩
  ·have hl2:(0:Int)<((limbs n).length:Int):=by
    have hz:Sbn.sz n=(limbs n).length:=rfl
    have:Sbn.sz n≠0:=fun h=>h0 (GS h)
    omega
   have hv:∀(o:Option Bool),o=some true→(if true=true then o.bind fun m68=>some m68 else some false).bind (fun m42=>some m42)=some true:=by rintro _ rfl;rfl
   have ho:(if ¬(s=true) then some true else some (decide (0<((limbs n).length:Int))))=some true:=by
    cases s
    ·rfl
    ·rw [decide_eq_true hl2];rfl
   exact ⟨true,hv _ ho,hv _ ho,fun _=>⟨⟨s,n⟩,rfl,hl,fun h=>absurd h h0⟩⟩
 ·rw [decide_eq_false hP]
  exact ⟨false,rfl,rfl,fun h=>by cases h⟩
theorem natGiven (n:Nat) (hn:Sbn.sz n≤1024):Gb n=some (.ok n):=by
 have h:((Sbn.sz n:Int))≤1024:=by omega
 unfold Gb
 rw [decide_eq_true h,show Hm true 2=some (.ok ()) from rfl,mbo]
 unfold Fk
 rw [gdB (by omega)];rfl
theorem wholeArgs (s:Bool) (n:Nat) (hn:Sbn.sz n≤1024) (hz:n=0→s=false):Kd ⟨s,n⟩=some (.ok ()):=by
 have hv:CT ⟨s,limbs n⟩=some true:=by
  obtain ⟨v,_,h2,_⟩:=NR ⟨s,limbs n⟩ (As n)
  rw [h2]
  unfold CT at h2
  simp only at h2
  rw [nValid (As n),Ax,decide_eq_true ⟨hn,rfl⟩,sB] at h2
  by_cases h0:n=0
  ·rw [hz h0] at h2;exact h2.symm
  ·have hl2:(0:Int)<((limbs n).length:Int):=by
    have hz:Sbn.sz n=(limbs n).length:=rfl
    have:Sbn.sz n≠0:=fun h=>h0 (GS h)
    omega
   rw [decide_eq_true hl2] at h2
   cases s<;>exact h2.symm
 unfold Kd CE Dg Fz
 simp only
 rw [hv];rfl
theorem bl_pow (k:Nat):bl (2^k)≤k+1:=Eb.2 (Nat.pow_lt_pow_right (by decide) (by omega))
theorem nLongN {a b:Nat} (ha:Sm a) (hb:Sm b) (h:b≠0):BP a b=some (a/b,a%b):=by
 unfold BP
 rw [gdB ⟨ha.sz,hb.sz,h⟩]
theorem RK (x y:Nat):∀(f a b:Nat),b≤a→bl a+bl b<f→Sm a→Fp x y f a b=some (Nat.gcd a b):=by
 intro f
 induction f with
 | zero=>intro a b _ h;omega
 | succ f ih=>
  intro a b hab hf hs
  show (if 0<(Sbn.sz b:Int) then (BP a b).bind fun r=>Fp x y f b r.2 else some a)=_
  simp only [Mt]
  by_cases hb:b=0
  ·subst hb;rw [if_neg (by simp),Nat.gcd_zero_right]
  ·have hbs:Sm b:=Im hab hs
   have hm:=Nat.mod_lt a (Nat.pos_of_ne_zero hb)
   rw [if_pos hb,nLongN hs hbs hb,sB,ih b (a%b) (by omega) ?_ hbs]
   ·rw [Nat.gcd_comm b,←Nat.gcd_rec,Nat.gcd_comm]
   ·have h2:2*(a%b)<a:=by
     have h3:=Nat.div_add_mod a b
     have h4:b*1≤b*(a/b):=Nat.mul_le_mul_left _ (Nat.div_pos hab (by omega))
     omega
    obtain ⟨h5,h6,h7⟩:=Di (n:=a) (by omega)
    have:bl (a%b)≤bl a - 1:=by
     rw [Eb]
     have:2^bl a=2^(bl a - 1)*2:=by rw [←Nat.pow_succ];congr 1;omega
     omega
    omega
theorem ngcd (a b:Nat) (ha:bl a≤100000) (hb:bl b≤100000):JL a b=some (Nat.gcd a b):=by
 have key:Fp a b 18446744073709551616 a b=some (Nat.gcd a b):=by
  by_cases h:b≤a
  ·exact RK a b _ a b h (by omega) (by unfold Sm;omega)
  ·obtain ⟨f,hf⟩:∃f,18446744073709551616=f+1:=⟨_,rfl⟩
   rw [hf]
   show (if 0<(Sbn.sz b:Int) then (BP a b).bind fun r=>Fp a b f b r.2 else some a)=_
   simp only [Mt]
   rw [if_pos (by omega),nLongN (by unfold Sm;omega) (by unfold Sm;omega) (by omega),sB,Nat.mod_eq_of_lt (by omega)]
   show Fp a b f b a=_
   rw [RK a b f b a (by omega) (by omega) (by unfold Sm;omega),Nat.gcd_comm]
 unfold JL
 rw [key];rfl
theorem Kk (n d:Nat) (hn:Sbn.sz n≤1024) (hd:Sbn.sz d≤1024):DP n d=some (.ok ()):=by
 unfold DP BR Cf Iu
 rw [nValid (As n),nValid (As d),Ax,Ax,decide_eq_true ⟨hn,rfl⟩,decide_eq_true ⟨hd,rfl⟩];rfl
theorem natGcd (n d:Nat) (hn:Sbn.sz n≤1024) (hd:Sbn.sz d≤1024) (hd0:d≠0):IP n d=some (Nat.gcd n d,0):=by
 have hb:=Fi hn
 have hc:=Fi hd
 have hg:Sbn.sz (Nat.gcd n d)≤1024:=EF (by
  have h1:Nat.gcd n d≤d:=Nat.gcd_le_right _ (by omega)
  have h2:bl (Nat.gcd n d)≤bl d:=Eb.2 (Nat.lt_of_le_of_lt h1 (Eb.1 (Nat.le_refl _)))
  omega)
 unfold IP Dc EB
 rw [Kk n d hn hd,mbo,ngcd n d (by omega) (by omega),sB,natGiven _ hg]
 rfl
theorem Qy (g:Nat):((if (0:Int)=0 then some (decide ((Sbn.sz g:Int)=1)) else some false).bind fun m111=>(if m111=true then (nth (limbs g) 0).bind fun u155=>some (decide (u155=1)) else some false).bind fun m141=>some m141)=some (decide (g=1)):=by
 rw [if_pos rfl,sB]
 by_cases h0:g=0
 ·subst h0;rfl
 ·have hl:Sbn.sz g=(limbs (g/4294967296)).length+1:=by
   show (limbs g).length=_
   rw [FK h0];rfl
  by_cases h1:g/4294967296=0
  ·have e:limbs g=[((g%4294967296:Nat):Int)]:=by rw [FK h0,h1,BE]
   have hs:(Sbn.sz g:Int)=1:=by rw [hl,h1,BE];rfl
   rw [decide_eq_true hs,if_pos rfl,e,nth0,sB,sB]
   congr 1
   apply decide_eq_decide.2
   omega
  ·have hn:(limbs (g/4294967296)).length≠0:=fun h=>h1 (GS h)
   rw [decide_eq_false (by omega),if_neg (by decide),sB,decide_eq_false (by omega)]
end Go.Proofs.Pq
