import Derived.Test.YtabiobmfelafoaaGreatDoorPB
import Derived.KernelRfl
namespace Go.Proofs.Pq
set_option linter.unusedVariables false
set_option linter.unusedSimpArgs false
set_option maxRecDepth 4000
open Go.Proofs Go.Sb Go.Proofs.Sbn Go.Proofs.Lf
theorem nValid {a:List Int} (ha:Dig a):Fb a=some (decide (a.length≤1024∧limbs (val a)=a)):=by
 rw [←KV ha];rfl
def toL (d:Al):AC:=⟨⟨d.Man.Neg,limbs d.Man.Abs⟩,d.Exp⟩
def ofD (d:Al):Am:=⟨d.Man,d.Exp⟩
structure VT (d:Al):Prop where
 s:Sbn.sz d.Man.Abs≤1024
 z:d.Man.Abs=0→d.Man.Neg=false∧d.Exp=0
 o:d.Man.Abs≠0→d.Man.Abs%2=1∧-1048576≤d.Exp∧d.Exp≤1048576
theorem validT {d:Al} (h:VT d):BD (toL d)=some true∧Ef (toL d)=some true:=by
 obtain ⟨⟨s,n⟩,e⟩:=d
 obtain ⟨h1,h2,h3⟩:=h
 simp only at h1 h2 h3
 unfold BD Ef BP Eb toL
 simp only
 rw [show Bd (limbs n)=_ from KV (Ap n),nValid (Ap n),sB,Au,decide_eq_true ⟨h1,rfl⟩]
 by_cases h0:n=0
 ·obtain ⟨rfl,rfl⟩:=h2 h0
  subst h0
  exact ⟨rfl,rfl⟩
 ·obtain ⟨a1,a2,a3⟩:=h3 h0
  have hb:=rBit (Ap n) 0 (by decide)
  have hl:((limbs n).length:Int)≠0:=by
   intro h;exact h0 (Gq (by have:Sbn.sz n=(limbs n).length:=rfl;omega))
  have hl2:(0:Int)<((limbs n).length:Int):=by omega
  rw [Au,Nat.pow_zero,Nat.div_one,a1] at hb
  have hnt:nth (limbs n) 0=some ((n%4294967296:Nat):Int):=by
   rw [Ev h0];unfold nth;rw [if_pos ⟨by omega,by simp only [List.length_cons];omega⟩];rfl
  have hb2:BJ (limbs n) 0=some 1:=hb
  have e1:(((n%4294967296:Nat):Int)%2)=1:=by omega
  rw [hb2,hnt]
  simp only [decide_eq_true hl2,sB,if_true,e1,decide_eq_true a2,decide_eq_true a3,if_neg hl]
  cases s<;>exact ⟨rfl,rfl⟩
theorem Oa (x:AC) (hx:Dig x.Man.Abs):∃v,BD x=some v∧Ef x=some v∧(v=true→∃d,x=toL d∧VT d):=by
 obtain ⟨⟨s,l⟩,e⟩:=x
 simp only at hx
 unfold BD Ef BP Eb
 simp only
 rw [show Bd l=_ from KV hx,nValid hx,sB]
 by_cases hP:l.length≤1024∧limbs (val l)=l
 ·rw [decide_eq_true hP]
  obtain ⟨hl,hc⟩:=hP
  generalize val l=n at hc
  subst hc
  by_cases h0:n=0
  ·subst h0
   cases s
   ·exact ⟨decide (e=0),rfl,rfl,fun h=>⟨⟨⟨false,0⟩,e⟩,rfl,hl,fun _=>⟨rfl,of_decide_eq_true h⟩,fun h=>absurd rfl h⟩⟩
   ·exact ⟨false,rfl,rfl,fun h=>by cases h⟩
  ·have hb:=rBit (Ap n) 0 (by decide)
   have hz:Sbn.sz n=(limbs n).length:=rfl
   have hln:((limbs n).length:Int)≠0:=by
    intro h;exact h0 (Gq (by omega))
   have hl2:(0:Int)<((limbs n).length:Int):=by omega
   rw [Au,Nat.pow_zero,Nat.div_one] at hb
   have hnt:nth (limbs n) 0=some ((n%4294967296:Nat):Int):=by
    rw [Ev h0];unfold nth;rw [if_pos ⟨by omega,by simp only [List.length_cons];omega⟩];rfl
   have hb2:BJ (limbs n) 0=some ((n%2:Nat):Int):=hb
   rw [hb2,hnt]
   have c1:(((n%2:Nat):Int)=1)=(n%2=1):=by apply propext;omega
   refine ⟨decide (n%2=1∧-1048576≤e∧e≤1048576),?_,?_,fun h=>?_⟩
   ·simp only [decide_eq_true hl2,sB,if_true,if_neg hln,c1]
    by_cases a1:n%2=1<;>by_cases a2 : -1048576≤e<;>by_cases a3:e≤1048576<;>cases s<;>simp [a1,a2,a3,sB]
   ·simp only [decide_eq_true hl2,sB,if_true,if_neg hln]
    have e1:(((n%4294967296:Nat):Int)%2)=((n%2:Nat):Int):=by omega
    simp only [e1,c1]
    by_cases a1:n%2=1<;>by_cases a2 : -1048576≤e<;>by_cases a3:e≤1048576<;>cases s<;>simp [a1,a2,a3,sB]
   ·have h:=of_decide_eq_true h
    exact ⟨⟨⟨s,n⟩,e⟩,rfl,hl,fun h=>absurd h h0,fun _=>h⟩
 ·rw [decide_eq_false hP]
  exact ⟨false,rfl,rfl,fun h=>by cases h⟩
end Go.Proofs.Pq
namespace Go.Proofs.Pq
set_option linter.unusedVariables false
set_option linter.unusedSimpArgs false
set_option maxRecDepth 4000
open Go.Proofs Go.Sb Go.Proofs.Sbn Go.Proofs.Lf
theorem VT.ok {d:Al} (h:VT d) (hl : -5000≤d.Exp) (hu:d.Exp≤5000) (hs:Sbn.sz d.Man.Abs≤600):Ok d:=
 ⟨fun h0=>(h.z h0).1,by have:=HW hs;omega,hl,hu⟩
theorem outOK {r:Am} (h:Cb r):DK r=some (.ok (toD r))∧VT (toD r):=by
 obtain ⟨h1,h2,h3,s,M,e,rfl⟩:=h
 have hS:Sm (nz s M e).m.Abs:=by unfold Sm;omega
 have hz:Sbn.sz (nz s M e).m.Abs≤1000:=HY (by omega)
 have hv:VT (toD (nz s M e)):=by
  refine ⟨Nat.le_trans hz (by decide),fun h=>?_,fun h=>?_⟩
  ·have h0:M=0:=by
    by_cases h0:M=0
    ·exact h0
    ·exfalso
     unfold toD nz at h
     rw [if_neg h0] at h
     simp only at h
     obtain ⟨q,hq⟩:=Lw M
     generalize tz M=z at *
     rw [hq,Nat.mul_div_cancel _ (Nat.two_pow_pos z)] at h
     rw [h,Nat.zero_mul] at hq;exact h0 hq
   unfold toD nz
   rw [if_pos h0]
   exact ⟨rfl,rfl⟩
  ·have h0:M≠0:=by
    intro h0;apply h;unfold toD nz;rw [if_pos h0]
   refine ⟨?_,by show _≤(nz s M e).e;omega,by show (nz s M e).e≤_;omega⟩
   unfold toD nz
   rw [if_neg h0]
   simp only
   obtain ⟨q,hq,_⟩:=GI h0
   generalize tz M=z at *
   rw [hq,Nat.mul_div_cancel_left _ (Nat.two_pow_pos z)];omega
 refine ⟨?_,hv⟩
 have hneg:(if (nz s M e).m.Neg=true then some (decide (0<(Sbn.sz (nz s M e).m.Abs:Int))) else some false)=some (nz s M e).m.Neg:=by
  simp only [LF]
  by_cases h0:(nz s M e).m.Abs=0
  ·have:=(hv.z h0).1
   have h5:(nz s M e).m.Neg=false:=this
   rw [h5];rfl
  ·rw [decide_eq_true h0];cases (nz s M e).m.Neg<;>rfl
 unfold DK CS
 generalize nz s M e=r at *
 rw [if_pos (by omega),sB,decide_eq_true (show r.e≤1048576 by omega),if_pos rfl,sB,decide_eq_true (show -1048576≤r.e by omega),if_neg (by simp)]
 show (CJ r.m.Abs).bind _=_
 rw [wClone hS,sB]
 unfold Hc
 simp only
 rw [hneg,sB,sB]
 rfl
theorem sameInt (a:Aj) (h:Sm a.Abs):DG a a=some true:=by
 unfold DG
 rw [if_pos rfl,same _ _ h,decide_eq_true rfl];rfl
theorem OJ (a:Al) (h:Sm a.Man.Abs):Bl a a=some true:=by
 unfold Bl
 rw [sameInt _ h,sB,if_pos rfl,decide_eq_true rfl];rfl
def zD:Al:=⟨⟨false,0⟩,0⟩
theorem sm0:Sm 0:=by unfold Sm;decide
theorem VT.sm {d:Al} (h:VT d):Sm d.Man.Abs:=by have:=HW h.s;unfold Sm;omega
end Go.Proofs.Pq
namespace Go.Proofs.Pq
set_option linter.unusedVariables false
set_option linter.unusedSimpArgs false
set_option maxRecDepth 4000
open Go.Proofs Go.Sb Go.Proofs.Sbn Go.Proofs.Lf
theorem Hl (n:Nat):toN (limbs n)=some n:=Lj n
theorem fineP (b:Int):Fi b=if 1≤b∧b≤4096 then some (.ok ()) else some (.error 1):=by
 unfold Fi CS
 by_cases h1:1≤b<;>by_cases h2:b≤4096<;>simp [h1,h2,sB,mb]
theorem fineL (b:Int):Ey b=some (decide (1≤b∧b≤4096)):=by
 unfold Ey
 by_cases h1:1≤b<;>by_cases h2:b≤4096<;>simp [h1,h2,sB]
end Go.Proofs.Pq
namespace Go.Proofs.Pq
set_option linter.unusedVariables false
set_option linter.unusedSimpArgs false
set_option maxRecDepth 4000
open Go.Proofs Go.Sb Go.Proofs.Sbn Go.Proofs.Lf
theorem sanity:DT=some true:=by kernel_rfl
theorem bb (o:Option Bool):((o.bind fun r=>some r).bind fun m=>some m)=o:=by cases o<;>rfl
end Go.Proofs.Pq
namespace Go.Proofs.Pq
set_option linter.unusedVariables false
set_option linter.unusedSimpArgs false
set_option maxRecDepth 4000
open Go.Proofs Go.Sb Go.Proofs.Sbn Go.Proofs.Lf
theorem round1 (s:Bool) (n b:Nat) (e dir:Int) (hn:bl n≤400000) (hb:1≤b) (h:b+1≤bl n) (he : -100000000≤e) (he':e≤100000000) :
  Bf ⟨⟨s,n⟩,e⟩ (b:Int) dir false=some (rn s n (2^(bl n - b)) (e+((bl n - b:Nat):Int)) dir):=by
 have hn0:n≠0:=by intro h0;subst h0;rw [GK] at h;omega
 have key:∀(n:Nat) (e:Int),bl n≤400001→b+2≤bl n→-100000001≤e→e≤100000001→Bf ⟨⟨s,n⟩,e⟩ (b:Int) dir false=some (rn s n (2^(bl n - b)) (e+((bl n - b:Nat):Int)) dir):=by
  intro n e h1 h2 h3 h4
  have:=LR s n e b dir n 1 (by unfold Sm;omega) (by decide) (Nat.div_one n).symm hb h2 (by omega) (by omega)
  rw [show (decide (n%1≠0))=false by simp [Nat.mod_one],Nat.one_mul] at this
  exact this
 by_cases h2:b+2≤bl n
 ·exact key n e (by omega) h2 (by omega) (by omega)
 ·have hbl:=MB (k:=1) hn0
  have hk:=key (n*2^1) (e - 1) (by omega) (by omega) (by omega) (by omega)
  have e1:Bf ⟨⟨s,n⟩,e⟩ (b:Int) dir false=Bf ⟨⟨s,n*2^1⟩,e - 1⟩ (b:Int) dir false:=by
   unfold Bf
   simp only
   rw [wBits (by unfold Sm;omega),wBits (by unfold Sm;omega),sB,sB,w64 (x:=(bl n:Int) - (b:Int)) (by omega) (by omega),w64 (x:=(bl (n*2^1):Int) - (b:Int)) (by omega) (by omega)]
   rw [show (bl n:Int) - (b:Int)=1 by omega,show (bl (n*2^1):Int) - (b:Int)=2 by omega]
   unfold Fw
   simp only
   rw [show wi64 (2 - (1:Int))=((1:Nat):Int) from by decide,wShl (by unfold Sm;omega) (by decide),w64 (x:=e - 2) (by omega) (by omega),w64 (x:=e - 2+1) (by omega) (by omega),show e - 2+1=e - 1 by omega]
   rfl
  rw [e1,hk]
  congr 1
  rw [hbl,show bl n+1 - b=(bl n - b)+1 by omega]
  rw [Lx (N:=n*2^1) (D:=2^(bl n - b+1)) (N':=n) (D':=2^(bl n - b)) _ dir (Nat.two_pow_pos _) (Nat.two_pow_pos _) (by rw [Nat.pow_succ 2 (bl n - b),Nat.pow_one];simp only [Nat.mul_assoc,Nat.mul_comm,Nat.mul_left_comm])]
  congr 1
  omega
theorem Ml {s:Bool} {q:Nat} {e:Int} (h:q%2=1):nz s q e=⟨⟨s,q⟩,e⟩:=by
 have h0:q≠0:=by omega
 have hz:tz q=0:=MJ (m:=q/2) (by rw [Nat.pow_zero,Nat.one_mul];omega)
 unfold nz
 rw [if_neg h0,hz,Nat.pow_zero,Nat.div_one]
 congr 1
 simp
theorem canonV {d:Al} (h:VT d):ofD d=nz d.Man.Neg d.Man.Abs d.Exp:=by
 obtain ⟨⟨s,n⟩,e⟩:=d
 by_cases h0:n=0
 ·obtain ⟨h1,h2⟩:=h.z h0
  simp only at h1 h2
  subst h0 h1 h2;rfl
 ·exact (Ml (h.o h0).1).symm
theorem roundEq (s:Bool) (M b:Nat) (e dir:Int) (hM:bl M≤20000) (hb:1≤b) (hb':b≤4096) (he : -900000≤e) (he':e≤900000) :
  ∃r,Bf (nz s M e) (b:Int) dir false=some r∧Bt (toD (nz s M e)) (b:Int) dir=some (toD r)∧Cb r:=by
 by_cases hM0:M=0
 ·subst hM0
  refine ⟨⟨⟨false,0⟩,0⟩,?_,?_,by decide,by decide,by decide,false,0,0,rfl⟩
  ·unfold nz
   rw [if_pos rfl]
   unfold Bf
   rw [wBits (show Sm 0 from sm0),sB,GK,w64 (x:=((0:Nat):Int) - (b:Int)) (by omega) (by omega),if_pos (by omega),sB,if_pos (by decide)]
   rfl
  ·unfold nz toD
   rw [if_pos rfl]
   unfold Bt
   simp only
   rw [rBits sm0,sB,GK,w64 (x:=((0:Nat):Int) - (b:Int)) (by omega) (by omega),if_pos (by omega)]
 ·obtain ⟨q,hq,hqb⟩:=GI hM0
  have hp:=Nat.two_pow_pos (tz M)
  have hqd:M/2^tz M=2*q+1:=by generalize tz M=z at *;rw [hq,Nat.mul_div_cancel_left _ hp]
  have hbl:bl M=bl (2*q+1)+tz M:=by
   have:=MB (n:=2*q+1) (k:=tz M) (by omega)
   rw [Nat.mul_comm] at this
   generalize tz M=z at *;rw [hq];exact this
  have hnz:nz s M e=⟨⟨s,2*q+1⟩,e+tz M⟩:=by unfold nz;rw [if_neg hM0,hqd]
  by_cases h:bl (2*q+1)≤b
  ·refine ⟨nz s M e,?_,?_,?_⟩
   ·rw [hnz]
    unfold Bf
    rw [wBits (by unfold Sm;simp only;omega),sB,w64 (x:=(bl (2*q+1):Int) - (b:Int)) (by omega) (by omega),if_pos (by omega),sB,if_pos (by decide),normal _ _ _ (by unfold Sm;omega) (by simp only;omega) (by simp only;omega),Ml (by omega)]
    rfl
   ·rw [hnz]
    unfold Bt toD
    simp only
    rw [rBits (by unfold Sm;omega),sB,w64 (x:=(bl (2*q+1):Int) - (b:Int)) (by omega) (by omega),if_pos (by omega)]
   ·rw [hnz]
    refine ⟨by simp only;omega,by simp only;omega,by simp only;omega,s,M,e,hnz.symm⟩
  ·have hr:=refRound s (2*q+1) b (e+tz M) dir (by omega) hb (by omega) (by omega) (by omega)
   rw [Ml (by omega)] at hr
   have hpr:=round1 s (2*q+1) b (e+tz M) dir (by omega) hb (by omega) (by omega) (by omega)
   refine ⟨_,by rw [hnz];exact hpr,by rw [hnz];exact hr,?_⟩
   have hqn:2*q+1≠0:=by omega
   have h2:=(FT hqn).2.1
   have h3:(2*q+1)/2^(bl (2*q+1) - b)<2^b:=by
    rw [Nat.div_lt_iff_lt_mul (Nat.two_pow_pos _),←Nat.pow_add,show b+(bl (2*q+1) - b)=bl (2*q+1) by omega];exact h2
   have h4:∀c:Bool,(if c=true then 1 else 0)≤1:=by intro c;cases c<;>decide
   unfold rn
   generalize hG:(2*q+1)/2^(bl (2*q+1) - b)+(if up (decide ((2*q+1)%2^(bl (2*q+1) - b)=0)) (sgnc (2*((2*q+1)%2^(bl (2*q+1) - b))) (2^(bl (2*q+1) - b))) (decide ((2*q+1)/2^(bl (2*q+1) - b)%2=1)) s dir=true then 1 else 0)=G
   have hGb:G≤2^b:=by rw [←hG];exact Nat.le_trans (Nat.add_le_add_left (h4 _) _) h3
   have hGl:bl G≤b+1:=by rw [EC,Nat.pow_succ];have:=Nat.two_pow_pos b;omega
   refine ⟨?_,?_,?_,s,G,_,rfl⟩
   all_goals
    unfold nz
    by_cases hG0:G=0
    ·rw [if_pos hG0];simp only;first | (rw [GK];omega) | omega
    ·rw [if_neg hG0];simp only
     have:=KK G (2^tz G)
     obtain ⟨_,_,hq2⟩:=GI hG0
     omega
end Go.Proofs.Pq
namespace Go.Proofs.Pq
set_option linter.unusedVariables false
set_option linter.unusedSimpArgs false
set_option maxRecDepth 4000
open Go.Proofs Go.Sb Go.Proofs.Sbn Go.Proofs.Lf
structure Same (y:Am) (z:Al):Prop where
 a:y.m.Abs=z.Man.Abs
 e:y.e=z.Exp
 s:z.Man.Abs≠0→y.m.Neg=z.Man.Neg
 c:toD (nz y.m.Neg y.m.Abs y.e)=z
theorem Same.of {d:Al} (h:VT d):Same (ofD d) d:=⟨rfl,rfl,fun _=>rfl,by
 have h2:nz d.Man.Neg d.Man.Abs d.Exp=ofD d:=(canonV h).symm
 show toD (nz d.Man.Neg d.Man.Abs d.Exp)=d
 rw [h2];rfl⟩
end Go.Proofs.Pq
namespace Go.Proofs.Pq
set_option linter.unusedVariables false
set_option linter.unusedSimpArgs false
set_option maxRecDepth 4000
open Go.Proofs Go.Sb Go.Proofs.Sbn Go.Proofs.Lf
def Lt (d:Al):Prop:=Ok d∧bl d.Man.Abs≤9000
theorem light_ (x:AC) (h:Dig x.Man.Abs):∃v,Ep x=some v∧(v=true→∀d,x=toL d→VT d→Lt d):=by
 obtain ⟨w,hv,_,_⟩:=Oa x h
 unfold Ep
 by_cases hl:(List.length x.Man.Abs:Int)≤60
 ·have key:(-3000≤x.Exp∧x.Exp≤3000)→∀d,x=toL d→VT d→Lt d:=by
   rintro ⟨k1,k2⟩ d rfl hd
   have e1:(toL d).Exp=d.Exp:=rfl
   have e2:(toL d).Man.Abs.length=Sbn.sz d.Man.Abs:=rfl
   have h60:Sbn.sz d.Man.Abs≤60:=by omega
   exact ⟨hd.ok (by omega) (by omega) (by omega),by have:=HW h60;omega⟩
  have nov:w=false→∀d,x=toL d→VT d→Lt d:=by
   intro hw d hd hvt
   subst hd;rw [(validT hvt).1,hw] at hv;cases hv
  rw [if_pos hl,hv]
  by_cases k1 : -3000≤x.Exp
  ·rw [if_pos k1,sB]
   by_cases k2:x.Exp≤3000
   ·exact ⟨true,by rw [decide_eq_true k2];rfl,fun _=>key ⟨k1,k2⟩⟩
   ·refine ⟨!w,by rw [decide_eq_false k2];cases w<;>rfl,fun hw=>nov (by cases w<;>simp_all)⟩
  ·rw [if_neg k1,sB]
   refine ⟨!w,by cases w<;>rfl,fun hw=>nov (by cases w<;>simp_all)⟩
 ·rw [if_neg hl]
  exact ⟨false,rfl,fun h=>by cases h⟩
end Go.Proofs.Pq
namespace Go.Proofs.Pq
set_option linter.unusedVariables false
set_option linter.unusedSimpArgs false
set_option maxRecDepth 4000
open Go.Proofs Go.Sb Go.Proofs.Sbn Go.Proofs.Lf
theorem Cb.of {σ:Bool} {M:Nat} {E:Int} (h1:bl M≤20000) (h2 : -100000≤E) (h3:E≤100000):Cb (nz σ M E):=by
 refine ⟨?_,?_,?_,σ,M,E,rfl⟩
 all_goals
  unfold nz
  by_cases h0:M=0
  ·rw [if_pos h0];simp only;first | (rw [GK];omega) | omega
  ·rw [if_neg h0];simp only
   have:=KK M (2^tz M)
   obtain ⟨_,_,hq⟩:=GI h0
   omega
theorem mbo {α β:Type} (a:α) (f:α→M β):mb (some (.ok a)) f=f a:=rfl
theorem valid1 {x:Al} (hx:VT x):EY (toL x)=some (.ok ()):=by
 unfold EY
 rw [(validT hx).2];rfl
theorem inT (x:Al):GN ⟨⟨(toL x).Man.Neg,x.Man.Abs⟩,(toL x).Exp⟩=some (ofD x):=rfl
theorem toNT (x:Al):toN (toL x).Man.Abs=some x.Man.Abs:=Lj _
theorem wantT (e:Int):CS true e=some (.ok ()):=rfl
end Go.Proofs.Pq
namespace Go.Proofs.Pq
set_option linter.unusedVariables false
set_option linter.unusedSimpArgs false
set_option maxRecDepth 4000
open Go.Proofs Go.Sb Go.Proofs.Sbn Go.Proofs.Lf
theorem validInt (x:AQ) (hx:Dig x.Abs):∃v,BP x=some v∧Eb x=some v∧(v=true→∃m:Aj,x=⟨m.Neg,limbs m.Abs⟩∧Sbn.sz m.Abs≤1024∧(m.Abs=0→m.Neg=false)):=by
 obtain ⟨s,l⟩:=x
 simp only at hx
 unfold BP Eb
 simp only
 rw [show Bd l=_ from KV hx,nValid hx,sB]
 by_cases hP:l.length≤1024∧limbs (val l)=l
 ·rw [decide_eq_true hP]
  obtain ⟨hl,hc⟩:=hP
  generalize val l=n at hc
  subst hc
  by_cases h0:n=0
  ·subst h0
   cases s
   ·exact ⟨true,rfl,rfl,fun _=>⟨⟨false,0⟩,rfl,hl,fun _=>rfl⟩⟩
   ·exact ⟨false,rfl,rfl,fun h=>by cases h⟩
  ·have hl2:(0:Int)<((limbs n).length:Int):=by
    have hz:Sbn.sz n=(limbs n).length:=rfl
    have:Sbn.sz n≠0:=fun h=>h0 (Gq h)
    omega
   have hv:∀(o:Option Bool),o=some true→(if true=true then o.bind fun m68=>some m68 else some false).bind (fun m42=>some m42)=some true:=by rintro _ rfl;rfl
   have ho:(if ¬(s=true) then some true else some (decide (0<((limbs n).length:Int))))=some true:=by
    cases s
    ·rfl
    ·rw [decide_eq_true hl2];rfl
   exact ⟨true,hv _ ho,hv _ ho,fun _=>⟨⟨s,n⟩,rfl,hl,fun h=>absurd h h0⟩⟩
 ·rw [decide_eq_false hP]
  exact ⟨false,rfl,rfl,fun h=>by cases h⟩
theorem Oo {w:Al} (h:VT w):Bv w 0 0 w=some true:=by
 have hv:BD ⟨⟨w.Man.Neg,limbs w.Man.Abs⟩,w.Exp⟩=some true:=(validT h).1
 unfold Bv Fo
 rw [if_neg (by decide),hv,sB,if_neg (by decide),sB]
 simp only [if_true]
 rw [OJ w h.sm];rfl
theorem MO (e:Int) (x:Al) (he:e≠0):Bv zD e e x=some true:=by
 have h:Bl zD zD=some true:=OJ zD sm0
 unfold Bv
 rw [if_pos he,if_pos rfl]
 show (((Bl zD zD).bind _).bind _)=_
 rw [h];rfl
theorem natGiven (n:Nat) (hn:Sbn.sz n≤1024):Hy n=some (.ok n):=by
 have h:((Sbn.sz n:Int))≤1024:=by omega
 unfold Hy
 rw [decide_eq_true h,show HO true 2=some (.ok ()) from rfl,mbo]
 unfold Ee
 rw [gdB (by omega)];rfl
end Go.Proofs.Pq
namespace Go.Proofs.Pq
set_option linter.unusedVariables false
set_option linter.unusedSimpArgs false
set_option maxRecDepth 4000
open Go.Proofs Go.Sb Go.Proofs.Sbn Go.Proofs.Lf
theorem nLongN {a b:Nat} (ha:Sm a) (hb:Sm b) (h:b≠0):BV a b=some (a/b,a%b):=by
 unfold BV
 rw [gdB ⟨ha.sz,hb.sz,h⟩]
theorem NT (x y:Nat):∀(f a b:Nat),b≤a→bl a+bl b<f→Sm a→Ed x y f a b=some (Nat.gcd a b):=by
 intro f
 induction f with
 | zero=>intro a b _ h;omega
 | succ f ih=>
  intro a b hab hf hs
  show (if 0<(Sbn.sz b:Int) then (BV a b).bind fun r=>Ed x y f b r.2 else some a)=_
  simp only [LF]
  by_cases hb:b=0
  ·subst hb;rw [if_neg (by simp),Nat.gcd_zero_right]
  ·have hbs:Sm b:=Ii hab hs
   have hm:=Nat.mod_lt a (Nat.pos_of_ne_zero hb)
   rw [if_pos hb,nLongN hs hbs hb,sB,ih b (a%b) (by omega) ?_ hbs]
   ·rw [Nat.gcd_comm b,←Nat.gcd_rec,Nat.gcd_comm]
   ·have h2:2*(a%b)<a:=by
     have h3:=Nat.div_add_mod a b
     have h4:b*1≤b*(a/b):=Nat.mul_le_mul_left _ (Nat.div_pos hab (by omega))
     omega
    obtain ⟨h5,h6,h7⟩:=FT (n:=a) (by omega)
    have:bl (a%b)≤bl a - 1:=by
     rw [EC]
     have:2^bl a=2^(bl a - 1)*2:=by rw [←Nat.pow_succ];congr 1;omega
     omega
    omega
theorem ngcd (a b:Nat) (ha:bl a≤100000) (hb:bl b≤100000):Hv a b=some (Nat.gcd a b):=by
 have key:Ed a b 18446744073709551616 a b=some (Nat.gcd a b):=by
  by_cases h:b≤a
  ·exact NT a b _ a b h (by omega) (by unfold Sm;omega)
  ·obtain ⟨f,hf⟩:∃f,18446744073709551616=f+1:=⟨_,rfl⟩
   rw [hf]
   show (if 0<(Sbn.sz b:Int) then (BV a b).bind fun r=>Ed a b f b r.2 else some a)=_
   simp only [LF]
   rw [if_pos (by omega),nLongN (by unfold Sm;omega) (by unfold Sm;omega) (by omega),sB,Nat.mod_eq_of_lt (by omega)]
   show Ed a b f b a=_
   rw [NT a b f b a (by omega) (by omega) (by unfold Sm;omega),Nat.gcd_comm]
 unfold Hv
 rw [key];rfl
theorem natTaken2 (n d:Nat) (hn:Sbn.sz n≤1024) (hd:Sbn.sz d≤1024):Gi n d=some (.ok ()):=by
 unfold Gi BH BX GC
 rw [nValid (Ap n),nValid (Ap d),Au,Au,decide_eq_true ⟨hn,rfl⟩,decide_eq_true ⟨hd,rfl⟩];rfl
theorem natGcd (n d:Nat) (hn:Sbn.sz n≤1024) (hd:Sbn.sz d≤1024) (hd0:d≠0):Iz n d=some (Nat.gcd n d,0):=by
 have hb:=HW hn
 have hc:=HW hd
 have hg:Sbn.sz (Nat.gcd n d)≤1024:=HY (by
  have h1:Nat.gcd n d≤d:=Nat.gcd_le_right _ (by omega)
  have h2:bl (Nat.gcd n d)≤bl d:=EC.2 (Nat.lt_of_le_of_lt h1 (EC.1 (Nat.le_refl _)))
  omega)
 unfold Iz CG DF
 rw [natTaken2 n d hn hd,mbo,ngcd n d (by omega) (by omega),sB,natGiven _ hg]
 rfl
theorem progOne (g:Nat):((if (0:Int)=0 then some (decide ((Sbn.sz g:Int)=1)) else some false).bind fun m111=>(if m111=true then (nth (limbs g) 0).bind fun u155=>some (decide (u155=1)) else some false).bind fun m141=>some m141)=some (decide (g=1)):=by
 rw [if_pos rfl,sB]
 by_cases h0:g=0
 ·subst h0;rfl
 ·have hl:Sbn.sz g=(limbs (g/4294967296)).length+1:=by
   show (limbs g).length=_
   rw [Ev h0];rfl
  by_cases h1:g/4294967296=0
  ·have e:limbs g=[((g%4294967296:Nat):Int)]:=by rw [Ev h0,h1,Bp]
   have hs:(Sbn.sz g:Int)=1:=by rw [hl,h1,Bp];rfl
   rw [decide_eq_true hs,if_pos rfl,e,nth0,sB,sB]
   congr 1
   apply decide_eq_decide.2
   omega
  ·have hn:(limbs (g/4294967296)).length≠0:=fun h=>h1 (Gq h)
   rw [decide_eq_false (by omega),if_neg (by decide),sB,decide_eq_false (by omega)]
theorem validRat (x:EQ) (h1:Dig x.Num.Abs) (h2:Dig x.Den):∃v,Es x=some v∧Fj x=some v∧(v=true→∃(s:Bool) (n d:Nat),x=⟨⟨s,limbs n⟩,limbs d⟩∧(n=0→s=false)∧d≠0):=by
 obtain ⟨v,e,f,g⟩:=validInt x.Num h1
 unfold Es Fj
 rw [e,f,sB,sB]
 cases v
 ·exact ⟨false,rfl,rfl,fun h=>by cases h⟩
 obtain ⟨m,hm,hs,hz⟩:=g rfl
 rw [show Bd x.Den=_ from KV h2,nValid h2]
 by_cases hP:x.Den.length≤1024∧limbs (val x.Den)=x.Den
 ·rw [decide_eq_true hP]
  obtain ⟨hl,hc⟩:=hP
  obtain ⟨N,D⟩:=x
  simp only at hm hl hc
  generalize val D=d at hc
  subst hc hm
  by_cases h0:d=0
  ·subst h0
   exact ⟨false,rfl,rfl,fun h=>by cases h⟩
  ·have hln:((limbs d).length:Int)≠0:=by
    intro h;exact h0 (Gq (by have:Sbn.sz d=(limbs d).length:=rfl;omega))
   have hg:=natGcd m.Abs d hs hl h0
   have hb:=HW hs
   have hc:=HW (n:=d) (k:=1024) hl
   have hr:=gcd m.Abs d (by omega) (by omega)
   have hgs:Sm (Nat.gcd m.Abs d):=Ii (Nat.gcd_le_right _ (by omega)) (by unfold Sm;omega)
   refine ⟨decide (Nat.gcd m.Abs d=1),?_,?_,fun _=>⟨m.Neg,m.Abs,d,rfl,hz,h0⟩⟩
   ·simp only [not_true_eq_false,if_false,sB,decide_false,Bool.false_eq_true,decide_eq_false hln,Hl,hr,CM,same _ _ hgs]
   ·simp only [not_true_eq_false,if_false,sB,decide_false,Bool.false_eq_true,decide_eq_false hln,Hl,hg]
    exact progOne _
 ·rw [decide_eq_false hP]
  exact ⟨false,rfl,rfl,fun h=>by cases h⟩
end Go.Proofs.Pq
namespace Go.Proofs.Pq
set_option linter.unusedVariables false
set_option linter.unusedSimpArgs false
set_option maxRecDepth 4000
open Go.Proofs Go.Sb Go.Proofs.Sbn Go.Proofs.Lf
theorem directedP (b:Int):EX b=if 1≤b∧b≤5 then some (.ok ()) else some (.error 1):=by
 unfold EX
 by_cases h1:1≤b<;>by_cases h2:b≤5<;>simp [h1,h2]<;>rfl
theorem isDirL (b:Int):Du b=some (decide (1≤b∧b≤5)):=by
 unfold Du
 by_cases h1:1≤b<;>by_cases h2:b≤5<;>simp [h1,h2]
theorem round_ok (d:Al) (hd:VT d) (ld:Lt d) (b:Nat) (dir:Int) (hb:1≤b) (hb':b≤4096) (h1:1≤dir∧dir≤5) :
  ∃r,Ec (toL d) (b:Int) dir=some (toD r,0)∧Bt d (b:Int) dir=some (toD r)∧Cb r:=by
 obtain ⟨r,q1,q2,q3⟩:=roundEq d.Man.Neg d.Man.Abs b d.Exp dir (by have:=ld.2;omega) hb hb' (by have:=ld.1.l;omega) (by have:=ld.1.u;omega)
 rw [←canonV hd] at q1 q2
 refine ⟨r,?_,q2,q3⟩
 unfold Ec Hp
 rw [valid1 hd,mbo,fineP,if_pos ⟨by omega,by omega⟩,mbo,directedP,if_pos h1,mbo,toNT,sB,inT,sB,q1,sB,(outOK q3).1]
 rfl
theorem round_err (x:AC) (b dir:Int) (v:Bool) (p0:Ef x=some v) (h:¬(v=true∧(1≤b∧b≤4096)∧1≤dir∧dir≤5)):Ec x b dir=some (zD,1):=by
 unfold Ec Hp EY
 rw [p0]
 cases v
 ·rfl
 ·show ((mb (some (.ok ())) _:M _).bind _)=_
  rw [mbo,fineP]
  by_cases hf:1≤b∧b≤4096
  ·rw [if_pos hf,mbo,directedP,if_neg (fun hd=>h ⟨rfl,hf,hd⟩)];rfl
  ·rw [if_neg hf];rfl
theorem fromRat_err (x:EQ) (b dir:Int) (v:Bool) (p0:Fj x=some v) (h:¬(v=true∧(1≤b∧b≤4096)∧1≤dir∧dir≤5)):Ek x b dir=some (zD,1):=by
 unfold Ek GE
 rw [p0,sB]
 cases v
 ·rfl
 ·rw [wantT,mbo,fineP]
  by_cases hf:1≤b∧b≤4096
  ·rw [if_pos hf,mbo,directedP,if_neg (fun hd=>h ⟨rfl,hf,hd⟩)];rfl
  ·rw [if_neg hf];rfl
theorem fromRat_ok (s:Bool) (n d:Nat) (hz:n=0→s=false) (hd:d≠0) (hn:Sbn.sz n≤60) (hds:Sbn.sz d≤60) (p0:Fj ⟨⟨s,limbs n⟩,limbs d⟩=some true) (b:Nat) (dir:Int) (hb:1≤b) (hb':b≤4096) (h1:1≤dir∧dir≤5) :
  ∃r,Ek ⟨⟨s,limbs n⟩,limbs d⟩ (b:Int) dir=some (toD r,0)∧Bn ⟨⟨s,n⟩,d⟩ (b:Int) dir=some (toD r)∧Cb r:=by
 have hbn:bl n≤1920:=HW hn
 have hbd:bl d≤1920:=HW hds
 have hsn:Sm n:=by unfold Sm;omega
 have hsd:Sm d:=by unfold Sm;omega
 have key:∃r,Ci (nz s n 0) (nz false d 0) (b:Int) dir=some r∧Bn ⟨⟨s,n⟩,d⟩ (b:Int) dir=some (toD r)∧Cb r:=by
  obtain ⟨qd,hqd⟩:=Lw d
  have hpd:0<2^tz d:=Nat.two_pow_pos _
  have ed:d/2^tz d=qd:=by
    conv=>lhs;lhs;rw [hqd]
    exact Nat.mul_div_cancel _ hpd
  have hqd0:qd≠0:=fun h=>hd (by rw [hqd,h,Nat.zero_mul])
  obtain ⟨_,_,td⟩:=GI hd
  have bqd:bl qd≤1920:=by rw [←ed];exact Nat.le_trans (KK _ _) hbd
  have fd:nz false d 0=⟨⟨false,qd⟩,((tz d:Nat):Int)⟩:=by unfold nz;rw [if_neg hd,ed,Int.zero_add]
  rw [fd]
  by_cases h0:n=0
  ·have hs:=hz h0
   subst h0 hs
   obtain ⟨r,q1,q2,q3⟩:=MZ false false 0 qd 0 d 0 (tz d) 0 ((tz d:Nat):Int) b dir false rfl hqd0 hb (by omega) (by decide) (by omega) (by omega) (by omega) (by omega) (by omega) hd (by simp) (by omega) (by simp) (by decide) (by omega)
   exact ⟨r,q1,q2,NF (by omega) q3⟩
  ·obtain ⟨qn,hqn⟩:=Lw n
   have hpn:0<2^tz n:=Nat.two_pow_pos _
   have en:n/2^tz n=qn:=by
     conv=>lhs;lhs;rw [hqn]
     exact Nat.mul_div_cancel _ hpn
   have hqn0:qn≠0:=fun h=>h0 (by rw [hqn,h,Nat.zero_mul])
   obtain ⟨_,_,tn⟩:=GI h0
   have bqn:bl qn≤1920:=by rw [←en];exact Nat.le_trans (KK _ _) hbn
   have fn:nz s n 0=⟨⟨s,qn⟩,((tz n:Nat):Int)⟩:=by unfold nz;rw [if_neg h0,en,Int.zero_add]
   rw [fn]
   obtain ⟨r,q1,q2,q3⟩:=MZ s false qn qd n d (tz n) (tz d) ((tz n:Nat):Int) ((tz d:Nat):Int) b dir s (by cases s<;>simp [hqn0]) hqd0 hb (by omega) (by omega) (by omega) (by omega) (by omega) (by omega) (by omega) hd ⟨fun h=>absurd h h0,fun h=>absurd h hqn0⟩ rfl (by
    generalize 2^tz n=P at *
    generalize 2^tz d=Q at *
    rw [Nat.mul_assoc,←hqd,Nat.mul_right_comm,←hqn]) (by omega) (by omega)
   exact ⟨r,q1,q2,NF (by omega) q3⟩
 obtain ⟨r,q1,q2,q3⟩:=key
 refine ⟨r,?_,q2,q3⟩
 unfold Ek GE
 rw [p0,sB,wantT,mbo,fineP,if_pos ⟨by omega,by omega⟩,mbo,directedP,if_pos h1,mbo,Hl,sB,Hl,sB]
 unfold HI
 show (((((some (⟨s,n⟩:Aj)).bind fun r28=>(Cz r28 0).bind fun r37=>(Cz ((⟨false,d⟩:Aj)) 0).bind fun r46=>some (r37,r46)).bind _:M _)).bind _)=_
 rw [sB,normal s n 0 hsn (by omega) (by omega),sB,normal false d 0 hsd (by omega) (by omega),sB,sB,q1,sB,(outOK q3).1]
 rfl
theorem lawRounds (x0:AC) (x1:EQ) (x2 x3:Int) (h0:Dig x0.Man.Abs) (h1:Dig x1.Num.Abs) (h2:Dig x1.Den):DS x0 x1 x2 x3=some true:=by
 obtain ⟨w0,fe0,fk0⟩:=light_ x0 h0
 obtain ⟨v0,e0,f0,g0⟩:=Oa x0 h0
 obtain ⟨v1,e1,f1,g1⟩:=validRat x1 h1 h2
 have hlr:DD x1=some (decide ((List.length x1.Num.Abs:Int)≤60∧(List.length x1.Den:Int)≤60)):=by
  unfold DD
  by_cases q1:(List.length x1.Num.Abs:Int)≤60<;>by_cases q2:(List.length x1.Den:Int)≤60<;>simp [q1,q2]
 unfold DS
 rw [fe0,sB,hlr,sanity]
 cases w0
 ·rfl
 by_cases hl:(List.length x1.Num.Abs:Int)≤60∧(List.length x1.Den:Int)≤60
 ·rw [decide_eq_true hl]
  have kR:∀G:Bool,G=decide ((1≤x2∧x2≤4096)∧1≤x3∧x3≤5)→∃(x:Al) (e a:Int) (m:Bool × Nat × Int),Ec x0 x2 x3=some (x,e)∧DV (G && v0)=some a∧
    (if a=0 then (toN x0.Man.Abs).bind fun m279=>(Bt ((⟨(⟨x0.Man.Neg,m279⟩:Aj),x0.Exp⟩:Al)) x2 x3).bind fun r284=>some (r284.Man.Neg,r284.Man.Abs,r284.Exp) else some (false,0,0))=some m∧Bv x e a ⟨⟨m.1,m.2.1⟩,m.2.2⟩=some true:=by
   intro G hG
   by_cases hok:(G && v0)=true
   ·obtain ⟨k1,k2⟩:G=true∧v0=true:=by simpa using hok
    rw [k1] at hG
    have hP:=of_decide_eq_true hG.symm
    obtain ⟨d,rfl,hd⟩:=g0 k2
    obtain ⟨b,rfl⟩:∃b:Nat,x2=b:=⟨x2.toNat,by omega⟩
    obtain ⟨r,q1,q2,q3⟩:=round_ok d hd (fk0 rfl d rfl hd) b x3 (by omega) (by omega) hP.2
    have q2':Bt ⟨⟨(toL d).Man.Neg,d.Man.Abs⟩,(toL d).Exp⟩ (b:Int) x3=some (toD r):=q2
    refine ⟨_,_,0,(r.m.Neg,r.m.Abs,r.e),q1,by rw [hok];rfl,?_,Oo (outOK q3).2⟩
    rw [if_pos rfl,toNT,sB,q2',sB];rfl
   ·have hf:(G && v0)=false:=by simpa using hok
    refine ⟨_,_,1,(false,0,0),round_err x0 x2 x3 v0 f0 (fun h=>hok (by rw [hG,h.1,decide_eq_true h.2];rfl)),by rw [hf];rfl,by rw [if_neg (by decide)],MO 1 _ (by decide)⟩
  have kF:∀G:Bool,G=decide ((1≤x2∧x2≤4096)∧1≤x3∧x3≤5)→∃(x:Al) (e a:Int) (m:Bool × Nat × Int),Ek x1 x2 x3=some (x,e)∧DV (G && v1)=some a∧
    (if a=0 then (toN x1.Num.Abs).bind fun m351=>(toN x1.Den).bind fun m356=>(Bn ((⟨(⟨x1.Num.Neg,m351⟩:Aj),m356⟩:Ha)) x2 x3).bind fun r361=>some (r361.Man.Neg,r361.Man.Abs,r361.Exp) else some (false,0,0))=some m∧Bv x e a ⟨⟨m.1,m.2.1⟩,m.2.2⟩=some true:=by
   intro G hG
   by_cases hok:(G && v1)=true
   ·obtain ⟨k1,k2⟩:G=true∧v1=true:=by simpa using hok
    rw [k1] at hG
    have hP:=of_decide_eq_true hG.symm
    obtain ⟨s,n,d,rfl,hz,hd⟩:=g1 k2
    obtain ⟨b,rfl⟩:∃b:Nat,x2=b:=⟨x2.toNat,by omega⟩
    have l1:Sbn.sz n≤60:=by have:=hl.1;have e:(limbs n).length=Sbn.sz n:=rfl;simp only [e] at this;omega
    have l2:Sbn.sz d≤60:=by have:=hl.2;have e:(limbs d).length=Sbn.sz d:=rfl;simp only [e] at this;omega
    obtain ⟨r,q1,q2,q3⟩:=fromRat_ok s n d hz hd l1 l2 (by rw [f1,k2]) b x3 (by omega) (by omega) hP.2
    refine ⟨_,_,0,(r.m.Neg,r.m.Abs,r.e),q1,by rw [hok];rfl,?_,Oo (outOK q3).2⟩
    rw [if_pos rfl,Hl,sB,Hl,sB,q2,sB];rfl
   ·have hf:(G && v1)=false:=by simpa using hok
    refine ⟨_,_,1,(false,0,0),fromRat_err x1 x2 x3 v1 f1 (fun h=>hok (by rw [hG,h.1,decide_eq_true h.2];rfl)),by rw [hf];rfl,by rw [if_neg (by decide)],MO 1 _ (by decide)⟩
  have hm92:(if decide (1≤x2∧x2≤4096)=true then (Du x3).bind fun r104=>some (r104) else some (false))=some (decide ((1≤x2∧x2≤4096)∧1≤x3∧x3≤5)):=by
   rw [isDirL]
   by_cases q1:1≤x2∧x2≤4096<;>by_cases q2:1≤x3∧x3≤5<;>simp [q1,q2]
  obtain ⟨xr,er,ar,mr,a1,a2,a3,a4⟩:=kR _ rfl
  obtain ⟨xf,ef,af,mf,b1,b2,b3,b4⟩:=kF _ rfl
  have hg:∀(G v:Bool),(if G=true then (some v).bind fun r=>some r else some false)=some (G && v):=by intro G v;cases G<;>rfl
  simp only [not_true_eq_false,if_false,if_true,sB,decide_false,Bool.false_eq_true,fineL]
  rw [hm92]
  simp only [sB]
  rw [a1,b1,e0,e1]
  simp only [sB]
  have hg2:∀(G v:Bool),(if G=true then some v else some false)=some (G && v):=by intro G v;cases G<;>rfl
  rw [hg2,hg2]
  simp only [sB]
  rw [a2]
  simp only [sB]
  rw [b2]
  simp only [sB]
  rw [a3]
  simp only [sB]
  rw [b3]
  simp only [sB,a4,b4,if_true]
 ·rw [decide_eq_false hl];rfl
end Go.Proofs.Pq
