import Derived.Test.YtabiobmfelafoaaGreatDoorPB
import Derived.KernelRfl
namespace Go.Proofs.Pq
set_option linter.unusedVariables false
set_option linter.unusedSimpArgs false
set_option maxRecDepth 4000
open Go.Proofs Go.Sb Go.Proofs.Sbn Go.Proofs.Lf
theorem nValid {a:List Int} (ha:Dig a):Fo a=some (decide (a.length≤1024∧limbs (val a)=a)):=by
 rw [←MH ha];rfl
def toL (d:Al):Aq:=⟨⟨d.Man.Neg,limbs d.Man.Abs⟩,d.Exp⟩
def ofD (d:Al):An:=⟨d.Man,d.Exp⟩
structure VT (d:Al):Prop where
 s:Sbn.sz d.Man.Abs≤1024
 z:d.Man.Abs=0→d.Man.Neg=false∧d.Exp=0
 o:d.Man.Abs≠0→d.Man.Abs%2=1∧-1048576≤d.Exp∧d.Exp≤1048576
theorem validT {d:Al} (h:VT d):CK (toL d)=some true∧CD (toL d)=some true:=by
 obtain ⟨⟨s,n⟩,e⟩:=d
 obtain ⟨h1,h2,h3⟩:=h
 simp only at h1 h2 h3
 unfold CK CD Ci BW toL
 simp only
 rw [show Bt (limbs n)=_ from MH (Ao n),nValid (Ao n),sB,Az,decide_eq_true ⟨h1,rfl⟩]
 by_cases h0:n=0
 ·obtain ⟨rfl,rfl⟩:=h2 h0
  subst h0
  exact ⟨rfl,rfl⟩
 ·obtain ⟨a1,a2,a3⟩:=h3 h0
  have hb:=rBit (Ao n) 0 (by decide)
  have hl:((limbs n).length:Int)≠0:=by
   intro h;exact h0 (Fa (by have:Sbn.sz n=(limbs n).length:=rfl;omega))
  have hl2:(0:Int)<((limbs n).length:Int):=by omega
  rw [Az,Nat.pow_zero,Nat.div_one,a1] at hb
  have hnt:nth (limbs n) 0=some ((n%4294967296:Nat):Int):=by
   rw [Eu h0];unfold nth;rw [if_pos ⟨by omega,by simp only [List.length_cons];omega⟩];rfl
  have hb2:BI (limbs n) 0=some 1:=hb
  have e1:(((n%4294967296:Nat):Int)%2)=1:=by omega
  rw [hb2,hnt]
  simp only [decide_eq_true hl2,sB,if_true,e1,decide_eq_true a2,decide_eq_true a3,if_neg hl]
  cases s<;>exact ⟨rfl,rfl⟩
theorem Nx (x:Aq) (hx:Dig x.Man.Abs):∃v,CK x=some v∧CD x=some v∧(v=true→∃d,x=toL d∧VT d):=by
 obtain ⟨⟨s,l⟩,e⟩:=x
 simp only at hx
 unfold CK CD Ci BW
 simp only
 rw [show Bt l=_ from MH hx,nValid hx,sB]
 by_cases hP:l.length≤1024∧limbs (val l)=l
 ·rw [decide_eq_true hP]
  obtain ⟨hl,hc⟩:=hP
  generalize val l=n at hc
  subst hc
  by_cases h0:n=0
  ·subst h0
   cases s
   ·exact ⟨decide (e=0),rfl,rfl,fun h=>⟨⟨⟨false,0⟩,e⟩,rfl,hl,fun _=>⟨rfl,of_decide_eq_true h⟩,fun h=>absurd rfl h⟩⟩
   ·exact ⟨false,rfl,rfl,fun h=>by cases h⟩
  ·have hb:=rBit (Ao n) 0 (by decide)
   have hz:Sbn.sz n=(limbs n).length:=rfl
   have hln:((limbs n).length:Int)≠0:=by
    intro h;exact h0 (Fa (by omega))
   have hl2:(0:Int)<((limbs n).length:Int):=by omega
   rw [Az,Nat.pow_zero,Nat.div_one] at hb
   have hnt:nth (limbs n) 0=some ((n%4294967296:Nat):Int):=by
    rw [Eu h0];unfold nth;rw [if_pos ⟨by omega,by simp only [List.length_cons];omega⟩];rfl
   have hb2:BI (limbs n) 0=some ((n%2:Nat):Int):=hb
   rw [hb2,hnt]
   have c1:(((n%2:Nat):Int)=1)=(n%2=1):=by apply propext;omega
   refine ⟨decide (n%2=1∧-1048576≤e∧e≤1048576),?_,?_,fun h=>?_⟩
   ·simp only [decide_eq_true hl2,sB,if_true,if_neg hln,c1]
    by_cases a1:n%2=1<;>by_cases a2 : -1048576≤e<;>by_cases a3:e≤1048576<;>cases s<;>simp [a1,a2,a3,sB]
   ·simp only [decide_eq_true hl2,sB,if_true,if_neg hln]
    have e1:(((n%4294967296:Nat):Int)%2)=((n%2:Nat):Int):=by omega
    simp only [e1,c1]
    by_cases a1:n%2=1<;>by_cases a2 : -1048576≤e<;>by_cases a3:e≤1048576<;>cases s<;>simp [a1,a2,a3,sB]
   ·have h:=of_decide_eq_true h
    exact ⟨⟨⟨s,n⟩,e⟩,rfl,hl,fun h=>absurd h h0,fun _=>h⟩
 ·rw [decide_eq_false hP]
  exact ⟨false,rfl,rfl,fun h=>by cases h⟩
end Go.Proofs.Pq
namespace Go.Proofs.Pq
set_option linter.unusedVariables false
set_option linter.unusedSimpArgs false
set_option maxRecDepth 4000
open Go.Proofs Go.Sb Go.Proofs.Sbn Go.Proofs.Lf
theorem VT.ok {d:Al} (h:VT d) (hl : -5000≤d.Exp) (hu:d.Exp≤5000) (hs:Sbn.sz d.Man.Abs≤600):Ok d:=
 ⟨fun h0=>(h.z h0).1,by have:=HJ hs;omega,hl,hu⟩
theorem outOK {r:An} (h:Cb r):Dg r=some (.ok (toD r))∧VT (toD r):=by
 obtain ⟨h1,h2,h3,s,M,e,rfl⟩:=h
 have hS:Sm (nz s M e).m.Abs:=by unfold Sm;omega
 have hz:Sbn.sz (nz s M e).m.Abs≤1000:=GK (by omega)
 have hv:VT (toD (nz s M e)):=by
  refine ⟨Nat.le_trans hz (by decide),fun h=>?_,fun h=>?_⟩
  ·have h0:M=0:=by
    by_cases h0:M=0
    ·exact h0
    ·exfalso
     unfold toD nz at h
     rw [if_neg h0] at h
     simp only at h
     obtain ⟨q,hq⟩:=OG M
     generalize tz M=z at *
     rw [hq,Nat.mul_div_cancel _ (Nat.two_pow_pos z)] at h
     rw [h,Nat.zero_mul] at hq;exact h0 hq
   unfold toD nz
   rw [if_pos h0]
   exact ⟨rfl,rfl⟩
  ·have h0:M≠0:=by
    intro h0;apply h;unfold toD nz;rw [if_pos h0]
   refine ⟨?_,by show _≤(nz s M e).e;omega,by show (nz s M e).e≤_;omega⟩
   unfold toD nz
   rw [if_neg h0]
   simp only
   obtain ⟨q,hq,_⟩:=Hz h0
   generalize tz M=z at *
   rw [hq,Nat.mul_div_cancel_left _ (Nat.two_pow_pos z)];omega
 refine ⟨?_,hv⟩
 have hneg:(if (nz s M e).m.Neg=true then some (decide (0<(Sbn.sz (nz s M e).m.Abs:Int))) else some false)=some (nz s M e).m.Neg:=by
  simp only [Mq]
  by_cases h0:(nz s M e).m.Abs=0
  ·have:=(hv.z h0).1
   have h5:(nz s M e).m.Neg=false:=this
   rw [h5];rfl
  ·rw [decide_eq_true h0];cases (nz s M e).m.Neg<;>rfl
 unfold Dg Bj
 generalize nz s M e=r at *
 rw [if_pos (by omega),sB,decide_eq_true (show r.e≤1048576 by omega),if_pos rfl,sB,decide_eq_true (show -1048576≤r.e by omega),if_neg (by simp)]
 show (CE r.m.Abs).bind _=_
 rw [wClone hS,sB]
 unfold HE
 simp only
 rw [hneg,sB,sB]
 rfl
theorem sameInt (a:Ah) (h:Sm a.Abs):CS a a=some true:=by
 unfold CS
 rw [if_pos rfl,same _ _ h,decide_eq_true rfl];rfl
theorem sameD (a:Al) (h:Sm a.Man.Abs):AU a a=some true:=by
 unfold AU
 rw [sameInt _ h,sB,if_pos rfl,decide_eq_true rfl];rfl
def zD:Al:=⟨⟨false,0⟩,0⟩
theorem VT.sm {d:Al} (h:VT d):Sm d.Man.Abs:=by have:=HJ h.s;unfold Sm;omega
end Go.Proofs.Pq
namespace Go.Proofs.Pq
set_option linter.unusedVariables false
set_option linter.unusedSimpArgs false
set_option maxRecDepth 4000
open Go.Proofs Go.Sb Go.Proofs.Sbn Go.Proofs.Lf
theorem HS (n:Nat):toN (limbs n)=some n:=Ms n
theorem fineP (b:Int):FA b=if 1≤b∧b≤4096 then some (.ok ()) else some (.error 1):=by
 unfold FA Bj
 by_cases h1:1≤b<;>by_cases h2:b≤4096<;>simp [h1,h2,sB,mb]
end Go.Proofs.Pq
namespace Go.Proofs.Pq
set_option linter.unusedVariables false
set_option linter.unusedSimpArgs false
set_option maxRecDepth 4000
open Go.Proofs Go.Sb Go.Proofs.Sbn Go.Proofs.Lf
theorem sanity:DV=some true:=by kernel_rfl
theorem bb (o:Option Bool):((o.bind fun r=>some r).bind fun m=>some m)=o:=by cases o<;>rfl
end Go.Proofs.Pq
namespace Go.Proofs.Pq
set_option linter.unusedVariables false
set_option linter.unusedSimpArgs false
set_option maxRecDepth 4000
open Go.Proofs Go.Sb Go.Proofs.Sbn Go.Proofs.Lf
theorem Lj {s:Bool} {q:Nat} {e:Int} (h:q%2=1):nz s q e=⟨⟨s,q⟩,e⟩:=by
 have h0:q≠0:=by omega
 have hz:tz q=0:=Mm (m:=q/2) (by rw [Nat.pow_zero,Nat.one_mul];omega)
 unfold nz
 rw [if_neg h0,hz,Nat.pow_zero,Nat.div_one]
 congr 1
 simp
theorem canonV {d:Al} (h:VT d):ofD d=nz d.Man.Neg d.Man.Abs d.Exp:=by
 obtain ⟨⟨s,n⟩,e⟩:=d
 by_cases h0:n=0
 ·obtain ⟨h1,h2⟩:=h.z h0
  simp only at h1 h2
  subst h0 h1 h2;rfl
 ·exact (Lj (h.o h0).1).symm
end Go.Proofs.Pq
namespace Go.Proofs.Pq
set_option linter.unusedVariables false
set_option linter.unusedSimpArgs false
set_option maxRecDepth 4000
open Go.Proofs Go.Sb Go.Proofs.Sbn Go.Proofs.Lf
structure Same (y:An) (z:Al):Prop where
 a:y.m.Abs=z.Man.Abs
 e:y.e=z.Exp
 s:z.Man.Abs≠0→y.m.Neg=z.Man.Neg
 c:toD (nz y.m.Neg y.m.Abs y.e)=z
theorem Same.of {d:Al} (h:VT d):Same (ofD d) d:=⟨rfl,rfl,fun _=>rfl,by
 have h2:nz d.Man.Neg d.Man.Abs d.Exp=ofD d:=(canonV h).symm
 show toD (nz d.Man.Neg d.Man.Abs d.Exp)=d
 rw [h2];rfl⟩
end Go.Proofs.Pq
namespace Go.Proofs.Pq
set_option linter.unusedVariables false
set_option linter.unusedSimpArgs false
set_option maxRecDepth 4000
open Go.Proofs Go.Sb Go.Proofs.Sbn Go.Proofs.Lf
def Lt (d:Al):Prop:=Ok d∧bl d.Man.Abs≤9000
theorem Om (x:Aq) (h:Dig x.Man.Abs):∃v,Cn x=some v∧(v=true→∀d,x=toL d→VT d→Lt d):=by
 obtain ⟨w,hv,_,_⟩:=Nx x h
 unfold Cn
 by_cases hl:(List.length x.Man.Abs:Int)≤60
 ·have key:(-3000≤x.Exp∧x.Exp≤3000)→∀d,x=toL d→VT d→Lt d:=by
   rintro ⟨k1,k2⟩ d rfl hd
   have e1:(toL d).Exp=d.Exp:=rfl
   have e2:(toL d).Man.Abs.length=Sbn.sz d.Man.Abs:=rfl
   have h60:Sbn.sz d.Man.Abs≤60:=by omega
   exact ⟨hd.ok (by omega) (by omega) (by omega),by have:=HJ h60;omega⟩
  have nov:w=false→∀d,x=toL d→VT d→Lt d:=by
   intro hw d hd hvt
   subst hd;rw [(validT hvt).1,hw] at hv;cases hv
  rw [if_pos hl,hv]
  by_cases k1 : -3000≤x.Exp
  ·rw [if_pos k1,sB]
   by_cases k2:x.Exp≤3000
   ·exact ⟨true,by rw [decide_eq_true k2];rfl,fun _=>key ⟨k1,k2⟩⟩
   ·refine ⟨!w,by rw [decide_eq_false k2];cases w<;>rfl,fun hw=>nov (by cases w<;>simp_all)⟩
  ·rw [if_neg k1,sB]
   refine ⟨!w,by cases w<;>rfl,fun hw=>nov (by cases w<;>simp_all)⟩
 ·rw [if_neg hl]
  exact ⟨false,rfl,fun h=>by cases h⟩
end Go.Proofs.Pq
namespace Go.Proofs.Pq
set_option linter.unusedVariables false
set_option linter.unusedSimpArgs false
set_option maxRecDepth 4000
open Go.Proofs Go.Sb Go.Proofs.Sbn Go.Proofs.Lf
theorem Cb.of {σ:Bool} {M:Nat} {E:Int} (h1:bl M≤20000) (h2 : -100000≤E) (h3:E≤100000):Cb (nz σ M E):=by
 refine ⟨?_,?_,?_,σ,M,E,rfl⟩
 all_goals
  unfold nz
  by_cases h0:M=0
  ·rw [if_pos h0];simp only;first | (rw [KX];omega) | omega
  ·rw [if_neg h0];simp only
   have:=bl_div M (2^tz M)
   obtain ⟨_,_,hq⟩:=Hz h0
   omega
theorem mbo {α β:Type} (a:α) (f:α→M β):mb (some (.ok a)) f=f a:=rfl
theorem valid2 {x y:Al} (hx:VT x) (hy:VT y):Gl (toL x) (toL y)=some (.ok ()):=by
 unfold Gl
 rw [(validT hx).2,(validT hy).2];rfl
theorem Ns {x:Al} (hx:VT x):DR (toL x)=some (.ok ()):=by
 unfold DR
 rw [(validT hx).2];rfl
theorem inT (x:Al):Fl ⟨⟨(toL x).Man.Neg,x.Man.Abs⟩,(toL x).Exp⟩=some (ofD x):=rfl
theorem toNT (x:Al):toN (toL x).Man.Abs=some x.Man.Abs:=Ms _
theorem wantT (e:Int):Bj true e=some (.ok ()):=rfl
end Go.Proofs.Pq
namespace Go.Proofs.Pq
set_option linter.unusedVariables false
set_option linter.unusedSimpArgs false
set_option maxRecDepth 4000
open Go.Proofs Go.Sb Go.Proofs.Sbn Go.Proofs.Lf
theorem Mn (x:AL) (hx:Dig x.Abs):∃v,Ci x=some v∧BW x=some v∧(v=true→∃m:Ah,x=⟨m.Neg,limbs m.Abs⟩∧Sbn.sz m.Abs≤1024∧(m.Abs=0→m.Neg=false)):=by
 obtain ⟨s,l⟩:=x
 simp only at hx
 unfold Ci BW
 simp only
 rw [show Bt l=_ from MH hx,nValid hx,sB]
 by_cases hP:l.length≤1024∧limbs (val l)=l
 ·rw [decide_eq_true hP]
  obtain ⟨hl,hc⟩:=hP
  generalize val l=n at hc
  subst hc
  by_cases h0:n=0
  ·subst h0
   cases s
   ·exact ⟨true,rfl,rfl,fun _=>⟨⟨false,0⟩,rfl,hl,fun _=>rfl⟩⟩
   ·exact ⟨false,rfl,rfl,fun h=>by cases h⟩
  ·have hl2:(0:Int)<((limbs n).length:Int):=by
    have hz:Sbn.sz n=(limbs n).length:=rfl
    have:Sbn.sz n≠0:=fun h=>h0 (Fa h)
    omega
   have hv:∀(o:Option Bool),o=some true→(if true=true then o.bind fun m68=>some m68 else some false).bind (fun m42=>some m42)=some true:=by rintro _ rfl;rfl
   have ho:(if ¬(s=true) then some true else some (decide (0<((limbs n).length:Int))))=some true:=by
    cases s
    ·rfl
    ·rw [decide_eq_true hl2];rfl
   exact ⟨true,hv _ ho,hv _ ho,fun _=>⟨⟨s,n⟩,rfl,hl,fun h=>absurd h h0⟩⟩
 ·rw [decide_eq_false hP]
  exact ⟨false,rfl,rfl,fun h=>by cases h⟩
theorem make_ok (m:Ah) (e:Int) (hv:BW ⟨m.Neg,limbs m.Abs⟩=some true) (hs:Sbn.sz m.Abs≤60) (he : -3000≤e) (he':e≤3000) :
  GN ⟨m.Neg,limbs m.Abs⟩ e=some (toD (nz m.Neg m.Abs e),0)∧DI m e=some (toD (nz m.Neg m.Abs e))∧VT (toD (nz m.Neg m.Abs e)):=by
 have hb:bl m.Abs≤1920:=HJ hs
 have hsm:Sm m.Abs:=by unfold Sm;omega
 have hc:Cb (nz m.Neg m.Abs e):=Cb.of (by omega) (by omega) (by omega)
 refine ⟨?_,refOf m.Neg m.Abs e hsm (by omega) (by omega),(outOK hc).2⟩
 unfold GN Jr
 rw [hv,sB,wantT,mbo]
 by_cases h0:m.Abs=0
 ·obtain ⟨s,n⟩:=m
  simp only at h0
  subst h0
  rfl
 ·have hl:((limbs m.Abs).length:Int)≠0:=by
   intro h;exact h0 (Fa (by have:Sbn.sz m.Abs=(limbs m.Abs).length:=rfl;omega))
  have hm:max (-1099511627776) (min e 1099511627776)=e:=by omega
  rw [if_neg hl,HS,sB]
  show (((some (⟨m.Neg,m.Abs⟩:Ah)).bind fun r66=>(Cj r66 (max (-1099511627776) (min e 1099511627776))).bind fun r74=>mb (Dg r74) fun r82=>some (.ok (r82,0))):M _).bind _=_
  rw [sB,hm,normal m.Neg m.Abs e hsm (by omega) (by omega),sB,(outOK hc).1]
  rfl
theorem natTaken (n:Nat) (hn:Sbn.sz n≤1024):FV n=some (.ok ()):=by
 unfold FV BF BR FD
 rw [nValid (Ao n),Az,decide_eq_true ⟨hn,rfl⟩];rfl
theorem natGiven (n:Nat) (hn:Sbn.sz n≤1024):Fz n=some (.ok n):=by
 have h:((Sbn.sz n:Int))≤1024:=by omega
 unfold Fz
 rw [decide_eq_true h,show EA true 2=some (.ok ()) from rfl,mbo]
 unfold Ec
 rw [gdB (by omega)];rfl
theorem natShl (n k:Nat) (hn:Sbn.sz n≤1024) (hk:k≤32768) (hf:Sbn.sz (n*2^k)≤1024):IG n (k:Int)=some (n*2^k,0):=by
 unfold IG KC
 rw [natTaken n hn,mbo,decide_eq_true (by omega:0≤(k:Int)),show EA true 1=some (.ok ()) from rfl,mbo]
 by_cases h0:n=0
 ·subst h0
  rw [Nat.zero_mul];rfl
 ·have h1:¬((Sbn.sz n:Int)=0):=fun h=>h0 (Fa (by exact_mod_cast h))
  rw [if_neg h1,decide_eq_true (by omega:(k:Int)≤32768),show EA true 2=some (.ok ()) from rfl,mbo]
  unfold Cr
  rw [gdB ⟨by omega,by omega,by omega⟩,sB,Int.toNat_natCast,natGiven _ hf]
  rfl
theorem Li (s:Bool) (n:Nat) (hn:Sbn.sz n≤1024) (hz:n=0→s=false):Fj ⟨s,n⟩=some (.ok ()):=by
 have hv:BW ⟨s,limbs n⟩=some true:=by
  obtain ⟨v,_,h2,_⟩:=Mn ⟨s,limbs n⟩ (Ao n)
  rw [h2]
  unfold BW at h2
  simp only at h2
  rw [nValid (Ao n),Az,decide_eq_true ⟨hn,rfl⟩,sB] at h2
  by_cases h0:n=0
  ·rw [hz h0] at h2;exact h2.symm
  ·have hl2:(0:Int)<((limbs n).length:Int):=by
    have hz:Sbn.sz n=(limbs n).length:=rfl
    have:Sbn.sz n≠0:=fun h=>h0 (Fa h)
    omega
   rw [decide_eq_true hl2] at h2
   cases s<;>exact h2.symm
 unfold Fj Bh Bl GL
 simp only
 rw [hv];rfl
theorem wholeShift (s:Bool) (n k:Nat) (hn:Sbn.sz n≤1024) (hz:n=0→s=false) (hk:k≤32768) (hf:Sbn.sz (n*2^k)≤1024):Gq ⟨s,n⟩ (k:Int)=some (⟨s,n*2^k⟩,0):=by
 have hsg:ES s (n*2^k)=some ⟨s,n*2^k⟩:=by
  unfold ES
  cases s
  ·rfl
  ·have h0:n≠0:=fun h=>by have:=hz h;cases this
   have h1:n*2^k≠0:=Nat.mul_ne_zero h0 (Nat.pos_iff_ne_zero.1 (Nat.two_pow_pos k))
   have h2:(0:Int)<(Sbn.sz (n*2^k):Int):=by
    have:Sbn.sz (n*2^k)≠0:=fun h=>h1 (Fa h)
    omega
   rw [decide_eq_true h2];rfl
 have hown:GR ⟨s,n*2^k⟩=some ⟨s,n*2^k⟩:=by
  unfold GR BU
  simp only
  rw [gdB (by omega)];rfl
 unfold Gq Cu Ds Eb
 rw [Li s n hn hz,mbo,if_pos (by omega)]
 simp only
 rw [natShl n k hn hk hf,sB]
 simp only
 rw [show Fu (n*2^k) 0=some (.ok (n*2^k)) from rfl,mbo,hsg,sB,hown]
 rfl
theorem ML (n k:Nat) (h:n%2=1):Nat.gcd n (2^k)=1:=by
 apply Nat.Coprime.pow_right
 rw [Nat.coprime_comm]
 show Nat.gcd 2 n=1
 rw [Nat.gcd_rec,h];rfl
theorem LS (k:Nat):bl (2^k)≤k+1:=Fe.2 (Nat.pow_lt_pow_right (by decide) (by omega))
theorem toRat_ok (x:Al) (hx:VT x) (hs:Sbn.sz x.Man.Abs≤300) (hl : -5000≤x.Exp) (hu:x.Exp≤5000):∃r,HF (toL x)=some (r,0)∧Fq x=some r∧Sm r.Num.Abs∧Sm r.Den:=by
 obtain ⟨⟨s,n⟩,e⟩:=x
 simp only at hs hl hu
 have hsm:Sm n:=hx.sm
 have hb:=HJ hs
 unfold HF Jl Fq
 rw [Ns hx,mbo]
 show ∃r,(((if 0≤e then _ else _:M _)).bind _)=_∧_
 by_cases he:0≤e
 ·obtain ⟨k,rfl⟩:∃k:Nat,e=k:=⟨e.toNat,by omega⟩
  have hb2:bl (n*2^k)≤16384:=Nat.le_trans (NS n (2^k)) (by have:=LS k;omega)
  have hf:Sbn.sz (n*2^k)≤1024:=GK (by omega)
  refine ⟨⟨⟨s,n*2^k⟩,1⟩,?_,?_,by show Sm _;unfold Sm;show bl (n*2^k)≤_;omega,sm1⟩
  ·rw [if_pos he,toNT,sB]
   show (((Gq ⟨s,n⟩ (k:Int)).bind _:M _).bind _)=_
   rw [wholeShift s n k (by omega) (fun h=>(hx.z h).1) (by omega) hf,sB]
   show ((mb (Bj true 0) _:M _).bind _)=_
   rw [wantT,mbo]
   unfold BU
   simp only
   rw [gdB (by omega)];rfl
  ·rw [if_pos he]
   show ((BJ n (k:Int)).bind _)=_
   rw [rShl hsm (by omega),sB];rfl
 ·obtain ⟨k,rfl⟩:∃k:Nat,e = -(k:Int):=⟨(-e).toNat,by omega⟩
  have hn0:n≠0:=fun h=>by have:=(hx.z h).2;simp only at this;omega
  have hodd:=(hx.o hn0).1
  simp only at hodd
  have hb2:bl (2^k)≤k+1:=LS k
  have hf:Sbn.sz (1*2^k)≤1024:=by rw [Nat.one_mul];exact GK (by omega)
  refine ⟨⟨⟨s,n⟩,2^k⟩,?_,?_,hsm,by show Sm _;unfold Sm;show bl (2^k)≤_;omega⟩
  ·rw [if_neg he,show wi64 (-(toL ⟨⟨s,n⟩,-(k:Int)⟩).Exp)=(k:Int) from w64n (by show -(-(k:Int))=_;omega) (by omega),natShl 1 k (by decide) (by omega) hf,sB]
   show ((mb (Bj true 0) _:M _).bind _)=_
   rw [wantT,mbo,toNT,sB]
   unfold BU
   rw [gdB (by show Sbn.sz n<_;omega),Nat.one_mul];rfl
  ·have hg:Nat.gcd n (2^k)=1:=ML n k hodd
   have h1:AM (limbs 1) (limbs 1)=some true:=by
    rw [show AM (limbs 1) (limbs 1)=_ from Pi (Ao _) (Ao _) (by decide),decide_eq_true ⟨rfl,rfl⟩]
   rw [if_neg he]
   show ((some 1).bind fun r61=>(BJ r61 (wi64 (0 - -(k:Int)))).bind fun r70=>(Fv ⟨s,n⟩ r70).bind fun r79=>some r79)=_
   rw [sB,show wi64 (0 - -(k:Int))=(k:Int) from w64n (by omega) (by omega),rShl sm1 (by omega),sB,Nat.one_mul]
   unfold Fv
   simp only
   rw [gcd n (2^k) (by omega) (by omega),sB,hg,show Dr=some 1 from rfl,sB]
   show (((AM (limbs 1) (limbs 1)).bind _).bind _)=_
   rw [h1];rfl
end Go.Proofs.Pq
namespace Go.Proofs.Pq
set_option linter.unusedVariables false
set_option linter.unusedSimpArgs false
set_option maxRecDepth 4000
open Go.Proofs Go.Sb Go.Proofs.Sbn Go.Proofs.Lf
theorem nLongN {a b:Nat} (ha:Sm a) (hb:Sm b) (h:b≠0):BM a b=some (a/b,a%b):=by
 unfold BM
 rw [gdB ⟨ha.sz,hb.sz,h⟩]
theorem OD (x y:Nat):∀(f a b:Nat),b≤a→bl a+bl b<f→Sm a→Ed x y f a b=some (Nat.gcd a b):=by
 intro f
 induction f with
 | zero=>intro a b _ h;omega
 | succ f ih=>
  intro a b hab hf hs
  show (if 0<(Sbn.sz b:Int) then (BM a b).bind fun r=>Ed x y f b r.2 else some a)=_
  simp only [Mq]
  by_cases hb:b=0
  ·subst hb;rw [if_neg (by simp),Nat.gcd_zero_right]
  ·have hbs:Sm b:=Jq hab hs
   have hm:=Nat.mod_lt a (Nat.pos_of_ne_zero hb)
   rw [if_pos hb,nLongN hs hbs hb,sB,ih b (a%b) (by omega) ?_ hbs]
   ·rw [Nat.gcd_comm b,←Nat.gcd_rec,Nat.gcd_comm]
   ·have h2:2*(a%b)<a:=by
     have h3:=Nat.div_add_mod a b
     have h4:b*1≤b*(a/b):=Nat.mul_le_mul_left _ (Nat.div_pos hab (by omega))
     omega
    obtain ⟨h5,h6,h7⟩:=Fi (n:=a) (by omega)
    have:bl (a%b)≤bl a - 1:=by
     rw [Fe]
     have:2^bl a=2^(bl a - 1)*2:=by rw [←Nat.pow_succ];congr 1;omega
     omega
    omega
theorem ngcd (a b:Nat) (ha:bl a≤100000) (hb:bl b≤100000):Ij a b=some (Nat.gcd a b):=by
 have key:Ed a b 18446744073709551616 a b=some (Nat.gcd a b):=by
  by_cases h:b≤a
  ·exact OD a b _ a b h (by omega) (by unfold Sm;omega)
  ·obtain ⟨f,hf⟩:∃f,18446744073709551616=f+1:=⟨_,rfl⟩
   rw [hf]
   show (if 0<(Sbn.sz b:Int) then (BM a b).bind fun r=>Ed a b f b r.2 else some a)=_
   simp only [Mq]
   rw [if_pos (by omega),nLongN (by unfold Sm;omega) (by unfold Sm;omega) (by omega),sB,Nat.mod_eq_of_lt (by omega)]
   show Ed a b f b a=_
   rw [OD a b f b a (by omega) (by omega) (by unfold Sm;omega),Nat.gcd_comm]
 unfold Ij
 rw [key];rfl
theorem natTaken2 (n d:Nat) (hn:Sbn.sz n≤1024) (hd:Sbn.sz d≤1024):EZ n d=some (.ok ()):=by
 unfold EZ BE BS FD
 rw [nValid (Ao n),nValid (Ao d),Az,Az,decide_eq_true ⟨hn,rfl⟩,decide_eq_true ⟨hd,rfl⟩];rfl
theorem natGcd (n d:Nat) (hn:Sbn.sz n≤1024) (hd:Sbn.sz d≤1024) (hd0:d≠0):Jm n d=some (Nat.gcd n d,0):=by
 have hb:=HJ hn
 have hc:=HJ hd
 have hg:Sbn.sz (Nat.gcd n d)≤1024:=GK (by
  have h1:Nat.gcd n d≤d:=Nat.gcd_le_right _ (by omega)
  have h2:bl (Nat.gcd n d)≤bl d:=Fe.2 (Nat.lt_of_le_of_lt h1 (Fe.1 (Nat.le_refl _)))
  omega)
 unfold Jm CC DG
 rw [natTaken2 n d hn hd,mbo,ngcd n d (by omega) (by omega),sB,natGiven _ hg]
 rfl
theorem progOne (g:Nat):((if (0:Int)=0 then some (decide ((Sbn.sz g:Int)=1)) else some false).bind fun m111=>(if m111=true then (nth (limbs g) 0).bind fun u155=>some (decide (u155=1)) else some false).bind fun m141=>some m141)=some (decide (g=1)):=by
 rw [if_pos rfl,sB]
 by_cases h0:g=0
 ·subst h0;rfl
 ·have hl:Sbn.sz g=(limbs (g/4294967296)).length+1:=by
   show (limbs g).length=_
   rw [Eu h0];rfl
  by_cases h1:g/4294967296=0
  ·have e:limbs g=[((g%4294967296:Nat):Int)]:=by rw [Eu h0,h1,Bo]
   have hs:(Sbn.sz g:Int)=1:=by rw [hl,h1,Bo];rfl
   rw [decide_eq_true hs,if_pos rfl,e,nth0,sB,sB]
   congr 1
   apply decide_eq_decide.2
   omega
  ·have hn:(limbs (g/4294967296)).length≠0:=fun h=>h1 (Fa h)
   rw [decide_eq_false (by omega),if_neg (by decide),sB,decide_eq_false (by omega)]
end Go.Proofs.Pq
namespace Go.Proofs.Pq
set_option linter.unusedVariables false
set_option linter.unusedSimpArgs false
set_option maxRecDepth 4000
open Go.Proofs Go.Sb Go.Proofs.Sbn Go.Proofs.Lf
theorem directedP (b:Int):Fh b=if 1≤b∧b≤5 then some (.ok ()) else some (.error 1):=by
 unfold Fh
 by_cases h1:1≤b<;>by_cases h2:b≤5<;>simp [h1,h2]<;>rfl
theorem isDirL (b:Int):Ep b=some (decide (1≤b∧b≤5)):=by
 unfold Ep
 by_cases h1:1≤b<;>by_cases h2:b≤5<;>simp [h1,h2]
end Go.Proofs.Pq
