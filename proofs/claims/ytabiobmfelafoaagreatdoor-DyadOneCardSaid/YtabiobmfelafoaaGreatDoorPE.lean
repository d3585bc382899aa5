import Derived.Test.YtabiobmfelafoaaGreatDoorPC
import Derived.Test.YtabiobmfelafoaaGreatDoorPD
namespace Go.Proofs.Pq
set_option linter.unusedVariables false
set_option linter.unusedSimpArgs false
set_option maxRecDepth 4000
open Go.Proofs Go.Sb Go.Proofs.Sbn Go.Proofs.Lf
theorem unit_own {M u v:Nat} (hM:M≠0) (h1:M*2^u/2^v<2^bl M) (h2:2^(bl M - 1)≤M*2^u/2^v):u=v:=by
 obtain ⟨h3,h4,h5⟩:=Fi hM
 have e2:2^bl M=2^(bl M - 1)*2:=by rw [←Nat.pow_succ];congr 1;omega
 rcases Nat.lt_trichotomy u v with h | h | h
 ·obtain ⟨k,rfl⟩:∃k,v=u+(k+1):=⟨v - u - 1,by omega⟩
  rw [Nat.pow_add,←Nat.div_div_eq_div_mul,Nat.mul_div_cancel _ (Nat.two_pow_pos _)] at h2
  have h6:M<2^(bl M - 1)*2^(k+1):=by
   rw [Nat.pow_succ 2 k,Nat.mul_comm (2^k) 2,←Nat.mul_assoc,←e2]
   exact Nat.lt_of_lt_of_le h4 (Nat.le_mul_of_pos_right _ (Nat.two_pow_pos _))
  have:=(Nat.div_lt_iff_lt_mul (Nat.two_pow_pos (k+1))).2 h6
  omega
 ·exact h
 ·obtain ⟨k,rfl⟩:∃k,u=v+(k+1):=⟨u - v - 1,by omega⟩
  rw [show v+(k+1)=(k+1)+v by omega,Nat.pow_add,←Nat.mul_assoc,Nat.mul_div_cancel _ (Nat.two_pow_pos _)] at h1
  have h7:M*2≤M*2^(k+1):=Nat.mul_le_mul_left _ (by rw [Nat.pow_succ];have:=Nat.two_pow_pos k;omega)
  omega
theorem quot_exact (s:Bool) (M:Nat) (e f dir:Int) (hM:M%2=1) (hb:bl M≤10000) (he : -1000000≤e) (he':e≤1000000) (hf : -1000000≤f) (hf':f≤1000000) :
  CO ⟨⟨s,M⟩,e⟩ ⟨⟨false,1⟩,f⟩ ((bl M:Nat):Int) dir=some ⟨⟨s,M⟩,e - f⟩:=by
 have h0:M≠0:=by omega
 obtain ⟨_,_,h5⟩:=Fi h0
 obtain ⟨u,v,hq,h1,h2⟩:=quotient s false M 1 e f (bl M) dir h0 (by decide) h5 hb (by omega) (by decide) he he' hf hf'
 rw [Nat.one_mul] at h1 h2 hq
 obtain rfl:=unit_own h0 h1 h2
 rw [hq]
 congr 1
 unfold rn
 rw [Nat.mul_mod_left,Nat.mul_div_cancel _ (Nat.two_pow_pos _)]
 have hu:up (decide ((0:Nat)=0)) (sgnc (2*0) (2^u)) (decide (M%2=1)) (decide (¬s=false)) dir=false:=rfl
 rw [hu,if_neg (by decide),Nat.add_zero,Lj hM]
 have e1:decide (¬s=false)=s:=by cases s<;>rfl
 rw [e1]
 congr 1
 omega
def ratD (d:Al):De:=if 0≤d.Exp then ⟨⟨d.Man.Neg,d.Man.Abs*2^d.Exp.toNat⟩,1⟩ else ⟨d.Man,2^(-d.Exp).toNat⟩
theorem value_ratD (x:Al) (hx:VT x) (hs:bl x.Man.Abs≤9600) (hl : -5000≤x.Exp) (hu:x.Exp≤5000):Fq x=some (ratD x):=by
 obtain ⟨⟨s,n⟩,e⟩:=x
 simp only at hs hl hu
 have hsm:Sm n:=hx.sm
 unfold Fq ratD
 show (if 0≤e then _ else _:Option De)=some (if 0≤e then _ else _)
 by_cases he:0≤e
 ·obtain ⟨k,rfl⟩:∃k:Nat,e=k:=⟨e.toNat,by omega⟩
  rw [if_pos he,if_pos he]
  show ((BJ n (k:Int)).bind _)=_
  rw [rShl hsm (by omega),sB];rfl
 ·obtain ⟨k,rfl⟩:∃k:Nat,e = -(k:Int):=⟨(-e).toNat,by omega⟩
  have hn0:n≠0:=fun h=>by have:=(hx.z h).2;simp only at this;omega
  have hodd:=(hx.o hn0).1
  simp only at hodd
  have hb2:bl (2^k)≤k+1:=LS k
  have hg:Nat.gcd n (2^k)=1:=ML n k hodd
  have h1:AM (limbs 1) (limbs 1)=some true:=by
   rw [show AM (limbs 1) (limbs 1)=_ from Pi (Ao _) (Ao _) (by decide),decide_eq_true ⟨rfl,rfl⟩]
  rw [if_neg he,if_neg he]
  show ((some 1).bind fun r61=>(BJ r61 (wi64 (0 - -(k:Int)))).bind fun r70=>(Fv ⟨s,n⟩ r70).bind fun r79=>some r79)=_
  rw [sB,show wi64 (0 - -(k:Int))=(k:Int) from w64n (by omega) (by omega),rShl sm1 (by omega),sB,Nat.one_mul]
  unfold Fv
  simp only
  rw [gcd n (2^k) (by omega) (by omega),sB,hg,show Dr=some 1 from rfl,sB]
  show (((AM (limbs 1) (limbs 1)).bind _).bind _)=_
  rw [h1,Int.neg_neg];rfl
theorem ratD_nz (d:Al) (hd:VT d) (h0:d.Man.Abs≠0):∃a c:Int,nz d.Man.Neg (ratD d).Num.Abs 0=⟨d.Man,a⟩∧nz false (ratD d).Den 0=⟨⟨false,1⟩,c⟩∧a - c=d.Exp∧(ratD d).Num.Neg=d.Man.Neg∧Nat.gcd (ratD d).Num.Abs (ratD d).Den=1∧(ratD d).Den≠0∧(ratD d).Num.Abs≠0∧0≤a∧0≤c∧(a=0∨c=0):=by
 obtain ⟨⟨s,n⟩,e⟩:=d
 simp only at h0
 have hodd:=(hd.o h0).1
 simp only at hodd
 have htz:∀k:Nat,∀s:Bool,nz s (n*2^k) 0=⟨⟨s,n⟩,(k:Int)⟩:=by
  intro k s
  have:=Lj (s:=s) (q:=n) (e:=(k:Int)) hodd
  have hk:n*2^k≠0:=Nat.mul_ne_zero h0 (Nat.pos_iff_ne_zero.1 (Nat.two_pow_pos k))
  have ht:tz (n*2^k)=k:=Mm (m:=n/2) (by rw [Nat.mul_comm];congr 1;omega)
  unfold nz
  rw [if_neg hk,ht,Nat.mul_div_cancel _ (Nat.two_pow_pos _),Int.zero_add]
 have h1z:∀k:Nat,nz false (2^k) 0=⟨⟨false,1⟩,(k:Int)⟩:=by
  intro k
  have ht:tz (2^k)=k:=Mm (m:=0) (by simp)
  unfold nz
  rw [if_neg (Nat.pos_iff_ne_zero.1 (Nat.two_pow_pos k)),ht,Nat.div_self (Nat.two_pow_pos _),Int.zero_add]
 unfold ratD
 by_cases he:0≤e
 ·simp only [if_pos he]
  refine ⟨(e.toNat:Int),((0:Nat):Int),htz _ _,h1z 0,by omega,trivial,by simp,by decide,Nat.mul_ne_zero h0 (Nat.pos_iff_ne_zero.1 (Nat.two_pow_pos _)),by omega,by omega,.inr rfl⟩
 ·simp only [if_neg he]
  refine ⟨0,((-e).toNat:Int),Lj hodd,h1z _,by omega,trivial,ML _ _ hodd,Nat.pos_iff_ne_zero.1 (Nat.two_pow_pos _),h0,by omega,by omega,.inl rfl⟩
end Go.Proofs.Pq
namespace Go.Proofs.Pq
set_option linter.unusedVariables false
set_option linter.unusedSimpArgs false
set_option maxRecDepth 4000
open Go.Proofs Go.Sb Go.Proofs.Sbn Go.Proofs.Lf
theorem sameDec (a b:Al) (h:Sm a.Man.Abs):∃v,AU a b=some v∧(v=true↔a=b):=by
 obtain ⟨⟨s,n⟩,e⟩:=a
 obtain ⟨⟨t,m⟩,f⟩:=b
 unfold AU CS
 simp only
 by_cases h1:s=t
 ·subst h1
  rw [if_pos rfl,same n m h]
  by_cases h2:n=m
  ·subst h2
   by_cases h3:e=f
   ·subst h3;exact ⟨true,by simp [sB],by simp⟩
   ·exact ⟨false,by simp [sB,h3],by simp [h3]⟩
  ·exact ⟨false,by simp [sB,h2],by simp [h2]⟩
 ·rw [if_neg h1]
  exact ⟨false,by simp [sB],by simp [h1]⟩
theorem cmp_ok (x y:Al) (hx:VT x) (hy:VT y) (lx:Lt x) (ly:Lt y):∃c,IN (toL x) (toL y)=some (c,0)∧(c=0↔x=y):=by
 have vx:=hx.veq
 have vy:=hy.veq
 obtain ⟨i,j,hij⟩:=KR x.Exp y.Exp
 have bx:bl (ofD x).m.Abs≤20000∧-1000000≤(ofD x).e∧(ofD x).e≤1000000:=⟨by have:=lx.2;show bl x.Man.Abs≤_;omega,by have:=lx.1.l;show _≤x.Exp;omega,by have:=lx.1.u;show x.Exp≤_;omega⟩
 have by':bl (ofD y).m.Abs≤20000∧-1000000≤(ofD y).e∧(ofD y).e≤1000000:=⟨by have:=ly.2;show bl y.Man.Abs≤_;omega,by have:=ly.1.l;show _≤y.Exp;omega,by have:=ly.1.u;show y.Exp≤_;omega⟩
 have hx2:VEq (ofD x) (Z x.Man.Neg x.Man.Abs*(2^i:Nat)) (y.Exp - j):=vx.base (p:=i) (q:=0) (by omega) (by simp)
 have hy2:VEq (ofD y) (Z y.Man.Neg y.Man.Abs*(2^j:Nat)) (y.Exp - j):=vy.base (p:=j) (q:=0) (by omega) (by simp)
 obtain ⟨c,hc,h1,h2⟩:=hx2.cmp hy2 bx by'
 refine ⟨c,?_,?_⟩
 ·unfold IN JP
  rw [valid2 hx hy,mbo,toNT,sB,inT,sB,toNT,sB,inT,sB,hc];rfl
 ·constructor
  ·intro h
   have e:Z x.Man.Neg x.Man.Abs*(2^i:Nat)=Z y.Man.Neg y.Man.Abs*(2^j:Nat):=by omega
   rw [←e] at hy2
   have:=hx2.uniq hy2
   obtain ⟨m,e1⟩:=x
   obtain ⟨m',e2⟩:=y
   unfold ofD at this
   cases this
   rfl
  ·intro h
   subst h
   have hij':i=j:=by omega
   subst hij'
   omega
theorem make_self (x:Al) (hx:VT x) (lx:Lt x) (hs:Sbn.sz x.Man.Abs≤60) (hl : -3000≤x.Exp) (hu:x.Exp≤3000):GN (toL x).Man (toL x).Exp=some (x,0):=by
 have hz:x.Man.Abs=0→x.Man.Neg=false:=fun h=>(hx.z h).1
 have hv:BW ⟨x.Man.Neg,limbs x.Man.Abs⟩=some true:=by
  have:=Li x.Man.Neg x.Man.Abs (by omega) hz
  obtain ⟨v,_,h2,_⟩:=Mn ⟨x.Man.Neg,limbs x.Man.Abs⟩ (Ao _)
  rw [h2]
  have h3:=(validT hx).2
  unfold CD at h3
  rw [show (toL x).Man=⟨x.Man.Neg,limbs x.Man.Abs⟩ from rfl,h2,sB] at h3
  cases v
  ·cases h3
  ·rfl
 obtain ⟨a1,_,_⟩:=make_ok x.Man x.Exp hv hs hl hu
 have e:nz x.Man.Neg x.Man.Abs x.Exp=ofD x:=(canonV hx).symm
 rw [e] at a1
 exact a1
theorem ratio_ratD (x:Al) (hx:VT x) (h0:x.Man.Abs≠0) (hs:Sbn.sz x.Man.Abs≤60) (hl : -3000≤x.Exp) (hu:x.Exp≤3000) :
  Sbn.sz (ratD x).Num.Abs≤160∧Sbn.sz (ratD x).Den≤160:=by
 have hb:=HJ hs
 unfold ratD
 split
 ·refine ⟨GK ?_,by show Sbn.sz 1≤160;decide⟩
  show bl (x.Man.Abs*2^x.Exp.toNat)≤_
  have:=NS x.Man.Abs (2^x.Exp.toNat)
  have:=LS x.Exp.toNat
  omega
 ·refine ⟨by show Sbn.sz x.Man.Abs≤160;omega,GK ?_⟩
  show bl (2^(-x.Exp).toNat)≤_
  have:=LS (-x.Exp).toNat
  omega
theorem top_ok (x:Al) (hx:VT x) (lx:Lt x) (h0:x.Man.Abs≠0):Hm (toL x)=some ((bl x.Man.Abs:Int) - 1+x.Exp,0):=by
 have hl:(0:Int)<((limbs x.Man.Abs).length:Int):=by
  have:Sbn.sz x.Man.Abs≠0:=fun h=>h0 (Fa h)
  have e:Sbn.sz x.Man.Abs=(limbs x.Man.Abs).length:=rfl
  omega
 have h1:=lx.2
 have h2:=lx.1.l
 have h3:=lx.1.u
 unfold Hm JU
 rw [Ns hx,mbo,show decide ((0:Int)<((List.length (toL x).Man.Abs:Int)))=true from decide_eq_true hl,show Bj true 5=some (.ok ()) from rfl,mbo,toNT,sB,inT,sB]
 unfold EU
 rw [show Bm (ofD x).m.Abs=some ((bl x.Man.Abs:Nat):Int) from wBits hx.sm,sB,w64 (x:=((bl x.Man.Abs:Nat):Int) - 1) (by omega) (by omega),show (ofD x).e=x.Exp from rfl,w64 (x:=((bl x.Man.Abs:Nat):Int) - 1+x.Exp) (by omega) (by omega),sB]
 rfl
theorem top_zero:Hm (toL zD)=some (0,5):=rfl
end Go.Proofs.Pq
namespace Go.Proofs.Pq
set_option linter.unusedVariables false
set_option linter.unusedSimpArgs false
set_option maxRecDepth 4000
open Go.Proofs Go.Sb Go.Proofs.Sbn Go.Proofs.Lf
theorem wholeValid (s:Bool) (n:Nat) (hn:Sbn.sz n≤1024) (hz:n=0→s=false):BW ⟨s,limbs n⟩=some true:=by
 obtain ⟨v,_,h2,_⟩:=Mn ⟨s,limbs n⟩ (Ao n)
 have h:=Li s n hn hz
 cases v
 ·unfold Fj Bh Bl GL at h
  simp only at h
  rw [h2] at h
  cases h
 ·exact h2
theorem ratio_true (s:Bool) (n d:Nat) (hz:n=0→s=false) (hn:Sbn.sz n≤1024) (hd:Sbn.sz d≤1024) (hd0:d≠0) (hg:Nat.gcd n d=1):Gs ⟨⟨s,limbs n⟩,limbs d⟩=some true:=by
 have hln:((limbs d).length:Int)≠0:=by
  intro h;exact hd0 (Fa (by have:Sbn.sz d=(limbs d).length:=rfl;omega))
 have h1:=natGcd n d hn hd hd0
 have h2:=progOne (Nat.gcd n d)
 rw [hg] at h1 h2
 unfold Gs
 simp only
 rw [wholeValid s n hn hz,sB,nValid (Ao d),Az,decide_eq_true ⟨hd,rfl⟩]
 simp only [not_true_eq_false,if_false,sB,decide_false,Bool.false_eq_true,decide_eq_false hln,HS,h1]
 exact h2
theorem ratOf_nz (s:Bool) (n d:Nat) (h1:Sm n) (h2:Sm d):GV ⟨⟨s,n⟩,d⟩=some (nz s n 0,nz false d 0):=by
 unfold GV
 show (((some (⟨s,n⟩:Ah)).bind fun r28=>(Cj r28 0).bind fun r37=>(Cj ((⟨false,d⟩:Ah)) 0).bind fun r46=>some (r37,r46)))=_
 rw [sB,normal s n 0 h1 (by omega) (by omega),sB,normal false d 0 h2 (by omega) (by omega),sB]
theorem times_one (s:Bool) (M:Nat) (e c:Int) (hM:M%2=1) (hb:bl M≤9000) (h1 : -5000≤e) (h2:e≤5000) (h3 : -5000≤c) (h4:c≤5000):Du ⟨⟨s,M⟩,e⟩ ⟨⟨false,1⟩,c⟩=some ⟨⟨s,M⟩,e+c⟩:=by
 unfold Du HI
 simp only
 rw [wMul (by unfold Sm;omega) sm1,sB,sB,w64 (x:=e+c) (by omega) (by omega),Nat.mul_one,normal _ _ _ (by unfold Sm;omega) (by omega) (by omega),sB,Lj hM]
 cases s<;>rfl
theorem cmp_same (s:Bool) (M:Nat) (e:Int) (hb:bl M≤9000) (h1 : -10000≤e) (h2:e≤10000):Bq ⟨⟨s,M⟩,e⟩ ⟨⟨s,M⟩,e⟩=some 0:=by
 obtain ⟨c,hc,h⟩:=Pq.cmp s s M M e e (by omega) (by omega) (by omega) (by omega) (by omega) (by omega)
 have a1:=h 0 0 (by omega)
 rw [hc]
 congr 1
 have h3:=a1.1
 have h4:=a1.2
 omega
theorem back_ok (x:Al) (hx:VT x) (h0:x.Man.Abs≠0) (hs:Sbn.sz x.Man.Abs≤60) (hl : -3000≤x.Exp) (hu:x.Exp≤3000) (dir:Int) (hd:1≤dir∧dir≤5) :
  EX ⟨⟨(ratD x).Num.Neg,limbs (ratD x).Num.Abs⟩,limbs (ratD x).Den⟩ ((bl x.Man.Abs:Nat):Int) dir=some (x,0)∧FF (toL x) ⟨⟨(ratD x).Num.Neg,limbs (ratD x).Num.Abs⟩,limbs (ratD x).Den⟩=some (0,0):=by
 obtain ⟨a,c,k1,k2,k3,k4,k5,k6,k7,k8,k9,k10⟩:=ratD_nz x hx h0
 obtain ⟨m1,m2⟩:=ratio_ratD x hx h0 hs hl hu
 have hodd:=(hx.o h0).1
 have hb:=HJ hs
 obtain ⟨_,_,hb1⟩:=Fi h0
 have hv:=ratio_true (ratD x).Num.Neg (ratD x).Num.Abs (ratD x).Den (fun h=>absurd h k7) (by omega) (by omega) k6 k5
 have s1:Sm (ratD x).Num.Abs:=by have:=HJ m1;unfold Sm;omega
 have s2:Sm (ratD x).Den:=by have:=HJ m2;unfold Sm;omega
 have hr:=ratOf_nz (ratD x).Num.Neg (ratD x).Num.Abs (ratD x).Den s1 s2
 have k1':nz (ratD x).Num.Neg (ratD x).Num.Abs 0=⟨⟨x.Man.Neg,x.Man.Abs⟩,a⟩:=by rw [k4];exact k1
 rw [k1',k2] at hr
 have hq:=quot_exact x.Man.Neg x.Man.Abs a c dir hodd (by omega) (by omega) (by omega) (by omega) (by omega)
 have hc:Cb (⟨⟨x.Man.Neg,x.Man.Abs⟩,x.Exp⟩:An):=by
  have:=Cb.of (σ:=x.Man.Neg) (M:=x.Man.Abs) (E:=x.Exp) (by omega) (by omega) (by omega)
  rwa [Lj hodd] at this
 constructor
 ·unfold EX Iq
  rw [hv,sB,wantT,mbo,fineP,if_pos ⟨by omega,by omega⟩,mbo,directedP,if_pos hd,mbo,HS,sB,HS,sB]
  simp only
  rw [hr,sB]
  simp only
  rw [hq,sB,k3,(outOK hc).1]
  rfl
 ·unfold FF IJ
  rw [Ns hx,mbo,hv,sB,wantT,mbo,HS,sB,HS,sB]
  simp only
  rw [hr,sB,toNT,sB,inT,sB]
  simp only
  have ht:Du (ofD x) ⟨⟨false,1⟩,c⟩=some ⟨⟨x.Man.Neg,x.Man.Abs⟩,x.Exp+c⟩:=times_one x.Man.Neg x.Man.Abs x.Exp c hodd (by omega) (by omega) (by omega) (by omega) (by omega)
  rw [ht,sB,show x.Exp+c=a by omega,cmp_same x.Man.Neg x.Man.Abs a (by omega) (by omega) (by omega)]
  rfl
end Go.Proofs.Pq
namespace Go.Proofs.Pq
set_option linter.unusedVariables false
set_option linter.unusedSimpArgs false
set_option maxRecDepth 4000
open Go.Proofs Go.Sb Go.Proofs.Sbn Go.Proofs.Lf
theorem light_60 (x:Al) (hx:VT x) (h:Cn (toL x)=some true):Sbn.sz x.Man.Abs≤60∧-3000≤x.Exp∧x.Exp≤3000:=by
 unfold Cn at h
 rw [(validT hx).1] at h
 have e:(List.length (toL x).Man.Abs)=Sbn.sz x.Man.Abs:=rfl
 have e2:(toL x).Exp=x.Exp:=rfl
 rw [e,e2] at h
 by_cases h1:(Sbn.sz x.Man.Abs:Int)≤60
 ·by_cases h2 : -3000≤x.Exp
  ·by_cases h3:x.Exp≤3000
   ·exact ⟨by omega,h2,h3⟩
   ·simp [h1,h2,h3] at h
  ·simp [h1,h2] at h
 ·simp [h1] at h
theorem back_zero (dir:Int) (hd:1≤dir∧dir≤5) :
  EX ⟨⟨(ratD zD).Num.Neg,limbs (ratD zD).Num.Abs⟩,limbs (ratD zD).Den⟩ 1 dir=some (zD,0)∧FF (toL zD) ⟨⟨(ratD zD).Num.Neg,limbs (ratD zD).Num.Abs⟩,limbs (ratD zD).Den⟩=some (0,0):=by
 have h5:dir=1∨dir=2∨dir=3∨dir=4∨dir=5:=by omega
 rcases h5 with rfl | rfl | rfl | rfl | rfl<;>exact ⟨by kernel_rfl,by kernel_rfl⟩
theorem lawOne (x0 x1:Aq) (x2:Int) (h0:Dig x0.Man.Abs) (h1:Dig x1.Man.Abs):EF x0 x1 x2=some true:=by
 obtain ⟨w0,fe0,fk0⟩:=Om x0 h0
 obtain ⟨w1,fe1,fk1⟩:=Om x1 h1
 obtain ⟨v0,e0,f0,g0⟩:=Nx x0 h0
 obtain ⟨v1,e1,f1,g1⟩:=Nx x1 h1
 have hval:DB x0 x1=some (w0 && v0 && (w1 && v1)):=by
  unfold DB
  rw [fe0,fe1,f0,f1]
  cases w0<;>cases v0<;>cases w1<;>cases v1<;>rfl
 unfold EF
 rw [hval,sB,isDirL,sanity]
 by_cases hok:(w0 && v0 && (w1 && v1))=true
 ·by_cases hdir:1≤x2∧x2≤5
  ·obtain ⟨⟨q1,q2⟩,q3,q4⟩:(w0=true∧v0=true)∧w1=true∧v1=true:=by simpa using hok
   obtain ⟨x,rfl,hx⟩:=g0 q2
   obtain ⟨y,rfl,hy⟩:=g1 q4
   have lx:=fk0 q1 x rfl hx
   have ly:=fk1 q3 y rfl hy
   obtain ⟨s60,el,eu⟩:=light_60 x hx (by rw [fe0,q1])
   have hm:=make_self x hx lx s60 el eu
   obtain ⟨c,hc,hcx⟩:=cmp_ok x y hx hy lx ly
   obtain ⟨r,t1,t2,_,_⟩:=toRat_ok x hx (by omega) (by omega) (by omega)
   have hb:=HJ s60
   rw [value_ratD x hx (by omega) (by omega) (by omega)] at t2
   obtain rfl:=Option.some.inj t2
   have ss:AU x x=some true:=sameD x hx.sm
   obtain ⟨v,hv,hvx⟩:=sameDec x y hx.sm
   have hcv:decide (c=0)=v:=by
    cases v
    ·exact decide_eq_false (fun h=>by have:=hvx.2 (hcx.1 h);cases this)
    ·exact decide_eq_true (hcx.2 (hvx.1 rfl))
   have d0:(⟨⟨(toL x).Man.Neg,x.Man.Abs⟩,(toL x).Exp⟩:Al)=x:=rfl
   have d1:(⟨⟨(toL y).Man.Neg,y.Man.Abs⟩,(toL y).Exp⟩:Al)=y:=rfl
   have back:∃(b:Int) (t:Int × Int),Hm (toL x)=some t∧(if t.2=0 then some (wi64 (wi64 (t.1 - (toL x).Exp)+1)) else some 1)=some b∧
     EX ⟨⟨(ratD x).Num.Neg,limbs (ratD x).Num.Abs⟩,limbs (ratD x).Den⟩ b x2=some (x,0)∧FF (toL x) ⟨⟨(ratD x).Num.Neg,limbs (ratD x).Num.Abs⟩,limbs (ratD x).Den⟩=some (0,0):=by
    by_cases hz:x.Man.Abs=0
    ·obtain ⟨z1,z2⟩:=hx.z hz
     have hxz:x=zD:=by
      obtain ⟨⟨s,n⟩,e⟩:=x
      simp only at hz z1 z2
      subst hz z1 z2;rfl
     subst hxz
     obtain ⟨b1,b2⟩:=back_zero x2 hdir
     exact ⟨1,(0,5),top_zero,rfl,b1,b2⟩
    ·obtain ⟨b1,b2⟩:=back_ok x hx hz s60 el eu x2 hdir
     refine ⟨_,_,top_ok x hx lx hz,?_,b1,b2⟩
     rw [if_pos rfl]
     congr 1
     show wi64 (wi64 ((bl x.Man.Abs:Int) - 1+x.Exp - x.Exp)+1)=_
     rw [w64 (x:=(bl x.Man.Abs:Int) - 1+x.Exp - x.Exp) (by omega) (by omega),w64n (n:=bl x.Man.Abs) (by omega) (by omega)]
   obtain ⟨b,t,k1,k2,k3,k4⟩:=back
   rw [hok,decide_eq_true hdir]
   simp only [not_true_eq_false,if_false,sB,decide_false,Bool.false_eq_true,hm,hc,t1,toNT,d0,d1,ss,hv,hcv,k1,k2,k3,k4,if_true,decide_true]
  ·rw [hok,decide_eq_false hdir];rfl
 ·have hf:(w0 && v0 && (w1 && v1))=false:=by simpa using hok
  rw [hf];rfl
end Go.Proofs.Pq
