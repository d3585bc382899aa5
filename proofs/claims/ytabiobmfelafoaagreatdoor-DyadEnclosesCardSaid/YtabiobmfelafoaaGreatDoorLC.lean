import Derived.Test.YtabiobmfelafoaaGreatDoorLA
import Derived.Test.YtabiobmfelafoaaGreatDoorLeafG
import Derived.Test.YtabiobmfelafoaaGreatDoorLeafSc
namespace Go.Proofs.Lf
set_option linter.unusedVariables false
set_option linter.unusedSimpArgs false
open Go.RowKit Go.Sb Go.Proofs Go.Proofs.Sbn
theorem nOf (n:Nat) (h:n<18446744073709551616):LP (n:Int)=some (limbs n):=by
 unfold LP
 rw [nTrim (Mo n h).1 (by simp),(Mo n h).2];rfl
theorem nAt {xs:List Int} (hd:Dig xs) (k:Nat):CR xs (k:Int)=some ((el xs k:Nat):Int):=by
 have hlt:=Br hd k
 unfold CR
 by_cases h:xs.length≤k
 ·rw [if_neg (by omega),Nz h];rfl
 ·rw [if_pos (by omega),Bd hd (by omega),sB,u64 rfl (by unfold B at hlt;omega)]
theorem gdF {α:Type} {p:Prop} [Decidable p] (h:¬p) (f:Unit→Option α):(gd p).bind f=none:=by
 unfold gd;rw [if_neg h];rfl
theorem nShort_l (x0:List Int) (x1:Int):∀(n:Nat) (r k:Int) (out:List Int),EK x0 x1 n r k out=BU x0 x1 n r k out:=by
 intro n
 induction n with
 | zero=>intros;rfl
 | succ n ih=>
  intro r k out
  unfold EK BU
  simp only [ih]
  split
  ·cases nth x0 k with
   | none=>rfl
   | some u=>
    rw [sB,sB]
    by_cases h:wu64 x1≠0
    ·simp only [gdB h]
    ·simp only [gdF h]
  ·rfl
theorem nShort {a:List Int} (ha:Dig a) (hs:a.length<4294967296) (b:Nat) (hb:b<B) (h0:b≠0):GE a (b:Int)=some (limbs (val a/b),limbs (val a%b)):=by
 obtain ⟨r',Q,out',g1,g2,g3,g4,g5,g6⟩:=PQ a ha hs b hb a.length 18446744073709551616 0 (List.replicate a.length 0) (by omega) (Nat.le_refl _) (by omega) (by simp) (GH _)
 have g1':BU a (b:Int) 18446744073709551616 0 ((a.length:Int) - 1) (List.replicate a.length 0)=some ((r':Int),out'):=g1
 rw [Nat.zero_mul,Nat.zero_add,List.take_of_length_le (Nat.le_refl _)] at g5
 rw [AB (by simp),Nat.mul_zero,Nat.add_zero] at g6
 obtain ⟨g7,g8⟩:=NQ g5 g2
 unfold GE
 rw [gdB (by omega),w64 (by omega) (by omega),Int.toNat_natCast,nShort_l,g1',sB]
 simp only
 rw [nTrim g4 (by omega),sB,nOf r' (by unfold B at hb;omega),sB,g6,g7,g8]
theorem nguess_l (u v:List Int) (hu:Dig u) (hv:Dig v) (n:Nat) (hn:v.length=n+2) (hl:u.length=n+3) (hs:v.length<4294967296) (htop:2147483648≤el v (n+1)) (top:Nat) (htp:top=el u (n+2)*B+el u (n+1)) (q:Nat) (hq1:q*val v≤val u) (hq2:val u<(q+1)*val v) :
  ∀(k g r:Nat),g<q+k→q≤g→g<B→g*el v (n+1)+r=top→∃g':Nat,Gf u v k (g:Int) (r:Int)=some (g':Int)∧q≤g'∧g'≤q+1∧g' < B:=by
 have hv1:=Br hv (n+1)
 have hv2:=Br hv n
 have hu2:=Br hu n
 have hV:val v=(el v (n+1)*B+el v n)*B^n+val (v.take n):=Ly hn
 have hU:val u=(top*B+el u n)*B^n+val (u.take n):=by
  rw [htp,Gc u n (by omega),AK u (n+1),AK u (n+2),AB (by omega)]
  generalize B^n=P
  grind
 have hlv:=CW hv n
 have hlu:=CW hu n
 have hVB:B*B^n≤val v:=by
  rw [hV,Nat.add_mul]
  have:=Nat.mul_le_mul_right (B*B^n) (show 1≤el v (n+1) by omega)
  rw [Nat.one_mul,←Nat.mul_assoc] at this
  omega
 intro k
 induction k with
 | zero=>intro g r hk hqg;omega
 | succ k ih=>
  intro g r hk hqg hgB ht
  have el1:wi64 ((List.length v:Int) - 1)=((n+1:Nat):Int):=w64n (by omega) (by omega)
  have el2:wi64 ((List.length v:Int) - 2)=(n:Int):=w64n (by omega) (by omega)
  unfold Gf
  rw [el1,el2]
  by_cases hbr:B≤r
  ·have hU':val u=top*(B*B^n)+(el u n*B^n+val (u.take n)):=by rw [hU];generalize B^n=P;grind
   have hV':val v=el v (n+1)*(B*B^n)+(el v n*B^n+val (v.take n)):=by rw [hV];generalize B^n=P;grind
   have hlv':el v n*B^n+val (v.take n)<B*B^n:=by
    have:=Nat.mul_le_mul_right (B^n) (show el v n+1≤B from hv2)
    rw [Nat.add_mul,Nat.one_mul] at this
    omega
   have h1:=PD (g:=g) (rest:=r) hU' hV' hlv' (by omega) ht hbr
   have h2:g<q+1:=Nat.lt_of_mul_lt_mul_right (Nat.lt_of_le_of_lt h1 hq2)
   rw [if_neg (by unfold B at hbr;omega),sB,if_neg (by decide)]
   exact ⟨g,rfl,hqg,by omega,hgB⟩
  ·have h3:g*el v n<18446744073709551616:=by
    have:=Nat.mul_le_mul (show g≤4294967295 by unfold B at hgB;omega) (show el v n≤4294967295 by unfold B at hv2;omega)
    omega
   have e3:bor .u64 (wu64 ((r:Int)*2^min (32:Int).toNat IntKind.u64.bits)) (wu64 ((el u n:Nat):Int))=((r*B+el u n:Nat):Int):=by
    rw [ml32n,u64c (r*B) (by unfold B at hbr ⊢;omega),u64c (el u n) (by unfold B at hu2;omega),bor64 _ _ (by unfold B at hbr ⊢;omega) (by unfold B at hu2;omega),Nat.or_comm,B32]
    congr 1
    exact LV (s:=32) (by unfold B at hu2;omega)
   rw [if_pos (by unfold B at hbr;omega),Bd hv (by omega),sB,Bd hu (by omega),sB,sB,e3,u64c (el v n) (by unfold B at hv2;omega),u64mul g (el v n) h3]
   by_cases hc2:r*B+el u n<g*el v n
   ·rw [if_pos (by simp only [decide_eq_true_eq];omega)]
    have hlt:q<g:=by
     rcases Nat.lt_or_ge q g with h | h
     ·exact h
     ·obtain rfl:g=q:=by omega
      have:=OB (rest:=r) hU hV hlu ht hq1
      omega
    obtain ⟨g1,rfl⟩:∃j,g=j+1:=⟨g - 1,by omega⟩
    have e1:wu64 (((g1+1:Nat):Int) - 1)=(g1:Int):=u64 (by omega) (by unfold B at hgB;omega)
    have e2:g1*el v (n+1)+(r+el v (n+1))=top:=by rw [←ht,Nat.add_mul];omega
    rw [Bd hv (by omega),sB,u64c (el v (n+1)) (by unfold B at hv1;omega),u64add r (el v (n+1)) (by unfold B at hbr hv1;omega),e1]
    exact ih g1 (r+el v (n+1)) (by omega) (by omega) (by omega) e2
   ·rw [if_neg (by simp only [decide_eq_true_eq];omega)]
    have h4:=PL (rest:=r) hU hV hlv (by omega) hVB ht (by omega)
    refine ⟨g,rfl,hqg,?_,by omega⟩
    have h5:g*val v<(q+2)*val v:=by
     rw [show q+2=q+1+1 by omega,Nat.add_mul (q+1),Nat.one_mul]
     omega
    have:=Nat.lt_of_mul_lt_mul_right h5
    omega
theorem ntakes_l (x0 v:List Int) (hv:Dig v) (hs:x0.length<4294967296) (g:Nat) (hg:g<B):∀(d k n b c:Nat) (u:List Int),x0.length=k+d→d<n→b≤1→c<B→u.length=x0.length→Dig u→
  ∃(b' c':Nat) (u':List Int),FZ x0 v (g:Int) n (c:Int) (b:Int) (k:Int) u=some ((b':Int),u')∧b'≤1∧u'.length=u.length∧Dig u'∧B^d*c'≤c+g*val (v.drop k)∧val u' + B^k*(b+c+g*val (v.drop k))=val u+B^x0.length*(b' + c')+B^x0.length*(g*val (v.drop x0.length)):=by
 intro d
 induction d with
 | zero=>
  intro k n b c u hk hn hb hc hl hd
  obtain ⟨n,rfl⟩:∃j,n=j+1:=⟨n - 1,by omega⟩
  unfold FZ
  rw [if_neg (by omega)]
  refine ⟨b,c,u,rfl,hb,rfl,hd,by rw [Nat.pow_zero,Nat.one_mul];omega,?_⟩
  rw [show x0.length=k by omega]
  generalize B^k=P
  grind
 | succ d ih=>
  intro k n b c u hk hn hb hc hl hd
  obtain ⟨n,rfl⟩:∃j,n=j+1:=⟨n - 1,by omega⟩
  have h1:=Br hd k
  have h2:=Br hv k
  have h3:=Mf hg h2 hc (by decide:0<B)
  have h4:=NN hg h2 hc (by decide:0<B)
  rw [Nat.add_zero] at h3 h4
  have h5:(c+g*el v k)%B<B:=Nat.mod_lt _ (by decide)
  have ex:wu64 (wu64 (wu64 ((el u k:Nat):Int) - wu64 (wu32 (wu64 ((c:Int)+wu64 ((g:Int)*((el v k:Nat):Int)))))) - (b:Int))=(((el u k+18446744073709551616 - ((c+g*el v k)%B+b))%18446744073709551616:Nat):Int):=by
   rw [u64mul g (el v k) (by omega),u64add c (g*el v k) h3,u32,u64c ((c+g*el v k)%B) (by unfold B at h5 ⊢;omega),u64c (el u k) (by unfold B at h1;omega)]
   show IntKind.u64.wrap (IntKind.u64.wrap _ - _)=_
   rw [IntKind.wrap_u64,IntKind.wrap_u64]
   unfold B at *
   omega
  have ec:(wu64 ((c:Int)+wu64 ((g:Int)*((el v k:Nat):Int)))).fdiv (2^min (32:Int).toNat IntKind.u64.bits)=(((c+g*el v k)/B:Nat):Int):=by
   rw [u64mul g (el v k) (by omega),u64add c (g*el v k) h3,sh32]
  have eb:((((el u k+18446744073709551616 - ((c+g*el v k)%B+b))%18446744073709551616:Nat):Int)).fdiv (2^min (63:Int).toNat IntKind.u64.bits)=((if el u k<(c+g*el v k)%B+b then 1 else 0:Nat):Int):=by
   rw [show (63:Int)=((63:Nat):Int) from rfl,shN _ 63 (by decide)]
   congr 1
   unfold B at *
   split<;>omega
  have er:wu32 ((((el u k+18446744073709551616 - ((c+g*el v k)%B+b))%18446744073709551616:Nat):Int))=(((el u k+2*B - ((c+g*el v k)%B+b))%B:Nat):Int):=by
   rw [u32]
   congr 1
   unfold B at *
   omega
  unfold FZ
  rw [if_pos (by omega),nAt hv,sB,Bd hd (by omega),sB,sB,ex,ec,eb,er,w64n (n:=k+1) (by omega) (by omega),setn]
  obtain ⟨b',c',u',g3,g4,g6,g7,g9,g8⟩:=ih (k+1) n (if el u k<(c+g*el v k)%B+b then 1 else 0) ((c+g*el v k)/B) (u.set k (((el u k+2*B - ((c+g*el v k)%B+b))%B:Nat):Int)) (by omega) (by omega) (by split<;>omega) h4 (by simp;omega) (Fm hd (Nat.mod_lt _ (by decide)) k)
  have h8:=IS hd k ((el u k+2*B - ((c+g*el v k)%B+b))%B) (by omega)
  have h9:el u k+B*(if el u k<(c+g*el v k)%B+b then 1 else 0)=(el u k+2*B - ((c+g*el v k)%B+b))%B+((c+g*el v k)%B+b):=by
   unfold B at *
   split<;>omega
  have h10:=Nat.div_add_mod (c+g*el v k) B
  refine ⟨b',c',u',g3,g4,by rw [g6];simp,g7,?_,?_⟩
  ·rw [AK v k,pow_succ']
   have:=Nat.mul_le_mul_left B g9
   generalize (c+g*el v k)/B=hi at this h10
   generalize (c+g*el v k)%B=lo at h10
   generalize B^d=P at this ⊢
   have e:B*(hi+g*val (v.drop (k+1)))+lo=c+g*(el v k+B*val (v.drop (k+1))):=by grind
   have e2:P*B*c'=B*(P*c'):=by grind
   omega
  rw [AK v k]
  rw [pow_succ'] at g8
  generalize (if el u k<(c+g*el v k)%B+b then 1 else 0)=b1 at g8 h9
  generalize (el u k+2*B - ((c+g*el v k)%B+b))%B=r at g8 h8 h9
  generalize (c+g*el v k)%B=lo at h9 h10
  generalize (c+g*el v k)/B=hi at g8 h10
  generalize val (u.set k (r:Int))=V at g8 h8
  generalize B^k=P at g8 h8 ⊢
  generalize B^x0.length*(b' + c')=X1 at g8 ⊢
  generalize B^x0.length*(g*val (v.drop x0.length))=X2 at g8 ⊢
  have hgv:g*(el v k+B*val (v.drop (k+1)))=g*el v k+B*(g*val (v.drop (k+1))):=by rw [Nat.mul_add,←Nat.mul_assoc,Nat.mul_comm g B,Nat.mul_assoc]
  rw [hgv]
  generalize g*val (v.drop (k+1))=G at g8 ⊢
  generalize g*el v k=E at h10 ⊢
  have q1:P*(el u k+B*b1)=P*(r+(lo+b)):=by rw [h9]
  have q2:P*(B*hi+lo)=P*(c+E):=by rw [h10]
  rw [show P*B*(b1+hi+G)=P*(B*b1)+P*(B*hi)+P*(B*G) by grind] at g8
  rw [show P*(b+c+(E+B*G))=P*b+P*(c+E)+P*(B*G) by grind]
  rw [Nat.mul_add,Nat.mul_add,Nat.mul_add] at q1
  rw [Nat.mul_add] at q2
  omega
theorem nback_l (x0 v:List Int) (hv:Dig v) (hs:x0.length<4294967296):∀(d k n c:Nat) (u:List Int),x0.length=k+d→d<n→c≤1→u.length=x0.length→Dig u→
  ∃(c':Nat) (u':List Int),Er x0 v n (c:Int) (k:Int) u=some u'∧c'≤1∧u'.length=u.length∧Dig u'∧val u' + B^x0.length*c' + B^x0.length*val (v.drop x0.length)=val u+B^k*(c+val (v.drop k)):=by
 intro d
 induction d with
 | zero=>
  intro k n c u hk hn hc hl hd
  obtain ⟨n,rfl⟩:∃j,n=j+1:=⟨n - 1,by omega⟩
  unfold Er
  rw [if_neg (by omega)]
  refine ⟨c,u,rfl,hc,rfl,hd,?_⟩
  rw [show x0.length=k by omega]
  generalize B^k=P
  grind
 | succ d ih=>
  intro k n c u hk hn hc hl hd
  obtain ⟨n,rfl⟩:∃j,n=j+1:=⟨n - 1,by omega⟩
  have h1:=Br hd k
  have h2:=Br hv k
  have e1:wu64 ((c:Int)+wu64 (wu64 ((el u k:Nat):Int)+((el v k:Nat):Int)))=((c+(el u k+el v k):Nat):Int):=by
   rw [u64c (el u k) (by unfold B at h1;omega),u64add (el u k) (el v k) (by unfold B at h1 h2;omega),u64add c (el u k+el v k) (by unfold B at h1 h2;omega)]
  unfold Er
  rw [if_pos (by omega),Bd hd (by omega),sB,nAt hv,sB,sB,e1,sh32,u32,w64n (n:=k+1) (by omega) (by omega),setn]
  obtain ⟨c',u',g3,g4,g5,g6,g7⟩:=ih (k+1) n ((c+(el u k+el v k))/B) (u.set k (((c+(el u k+el v k))%B:Nat):Int)) (by omega) (by omega) (by unfold B at *;omega) (by simp;omega) (Fm hd (Nat.mod_lt _ (by decide)) k)
  refine ⟨c',u',g3,g4,by rw [g5];simp,g6,?_⟩
  have h8:=IS hd k ((c+(el u k+el v k))%B) (by omega)
  have h10:=Nat.div_add_mod (c+(el u k+el v k)) B
  rw [AK v k]
  rw [pow_succ'] at g7
  generalize (c+(el u k+el v k))%B=lo at g7 h8 h10
  generalize (c+(el u k+el v k))/B=hi at g7 h10
  generalize val (u.set k (lo:Int))=V at g7 h8
  generalize B^k=P at g7 h8 ⊢
  generalize B^x0.length=L at g7 ⊢
  generalize val (v.drop x0.length)=T at g7 ⊢
  generalize val (v.drop (k+1))=S at g7 ⊢
  grind
theorem min_ge {q x:Nat} (h1:q≤x) (h2:q<B):q≤min x 4294967295:=Nat.le_min.2 ⟨h1,by unfold B at h2;omega⟩
theorem min_B (x:Nat):min x 4294967295<B:=Nat.lt_of_le_of_lt (Nat.min_le_right _ _) (by decide)
theorem minI (x:Nat):min (x:Int) 4294967295=((min x 4294967295:Nat):Int):=by omega
theorem top_bor {x y:Nat} (hx:x<B) (hy:y<B):bor .u64 (wu64 (wu64 (x:Int)*2^min (32:Int).toNat IntKind.u64.bits)) (wu64 (y:Int))=((x*B+y:Nat):Int):=by
 rw [u64c x (by unfold B at hx;omega),ml32n,u64c (x*B) (by unfold B at hx ⊢;omega),u64c y (by unfold B at hy;omega),bor64 _ _ (by unfold B at hx ⊢;omega) (by unfold B at hy;omega),Nat.or_comm,B32]
 congr 1
 exact LV (s:=32) (by unfold B at hy;omega)
theorem nestimate {u v:List Int} (hu:Dig u) (hv:Dig v) (n:Nat) (hn:v.length=n+2) (hl:u.length=n+3) (hs:v.length<4294967295) (htop:2147483648≤el v (n+1)) (hlt:val u<B*val v) :
  ∃u',HX u v=some (((val u/val v:Nat):Int),u')∧u'.length=u.length∧Dig u'∧val u'=val u%val v:=by
 have hv1:=Br hv (n+1)
 have hu1:=Br hu (n+1)
 have hu0:=Br hu (n+2)
 have hVpos:0<val v:=by
  rcases Nat.eq_zero_or_pos (val v) with h | h
  ·rw [h] at hlt;omega
  ·exact h
 have hqB:val u/val v<B:=(Nat.div_lt_iff_lt_mul hVpos).2 hlt
 have hq1:val u/val v*val v≤val u:=Nat.div_mul_le_self _ _
 have hq2:val u<(val u/val v+1)*val v:=by
  have:=Nat.lt_div_mul_add (a:=val u) hVpos
  rw [Nat.add_mul,Nat.one_mul];exact this
 have htv:el u (n+2)≤el v (n+1):=by
  rcases Nat.lt_or_ge (el v (n+1)) (el u (n+2)) with h | h
  ·have h1:val v<(el v (n+1)+1)*(B*B^n):=by
    rw [Ly hn]
    have h2:=CW hv n
    have h3:=Nat.mul_le_mul_right (B^n) (show el v n+1≤B from Br hv n)
    rw [Nat.add_mul,Nat.one_mul] at h3
    rw [Nat.add_mul,Nat.add_mul,Nat.one_mul,Nat.mul_assoc]
    omega
   have h2:el u (n+2)*(B*(B*B^n))≤val u:=by
    rw [Gc u n (by omega),AK u (n+1),AK u (n+2),AB (by omega)]
    generalize B^n=P
    have e:val (u.take n)+P*(el u n+B*(el u (n+1)+B*(el u (n+2)+B*0)))=el u (n+2)*(B*(B*P))+(val (u.take n)+P*el u n+P*B*el u (n+1)):=by grind
    omega
   have h3:=Nat.mul_le_mul_right (B*(B*B^n)) h
   have h4:=Nat.mul_lt_mul_of_pos_left h1 (show 0<B by decide)
   have e:B*((el v (n+1)+1)*(B*B^n))=(el v (n+1)).succ*(B*(B*B^n)):=by generalize B^n=P;grind
   omega
  ·exact h
 have hg0:(el u (n+2)*B+el u (n+1))/el v (n+1)≤B+1:=by
  have h1:(el u (n+2)*B+el u (n+1))<(B+2)*el v (n+1):=by
   have h2:=Nat.mul_le_mul_right B htv
   have e:(B+2)*el v (n+1)=el v (n+1)*B+2*el v (n+1):=by grind
   unfold B at *;omega
  have:=(Nat.div_lt_iff_lt_mul (show 0<el v (n+1) by omega)).2 h1
  omega
 have hqg:val u/val v≤(el u (n+2)*B+el u (n+1))/el v (n+1):=by
  rw [Nat.le_div_iff_mul_le (by omega)]
  have hU':val u=(el u (n+2)*B+el u (n+1))*(B*B^n)+(el u n*B^n+val (u.take n)):=by
   rw [Gc u n (by omega),AK u (n+1),AK u (n+2),AB (by omega)]
   generalize B^n=P
   grind
  have hV':val v=el v (n+1)*(B*B^n)+(el v n*B^n+val (v.take n)):=by rw [Ly hn];generalize B^n=P;grind
  refine MU hU' hV' ?_ hq1
  have h2:=CW hu n
  have h3:=Nat.mul_le_mul_right (B^n) (show el u n+1≤B from Br hu n)
  rw [Nat.add_mul,Nat.one_mul] at h3
  omega
 have hgm:min ((el u (n+2)*B+el u (n+1))/el v (n+1)) 4294967295*el v (n+1)≤el u (n+2)*B+el u (n+1):=
  Nat.le_trans (Nat.mul_le_mul_right _ (Nat.min_le_left _ _)) (Nat.div_mul_le_self _ _)
 have hqm:val u/val v≤min ((el u (n+2)*B+el u (n+1))/el v (n+1)) 4294967295:=min_ge hqg hqB
 have hmB:min ((el u (n+2)*B+el u (n+1))/el v (n+1)) 4294967295<B:=min_B _
 have hq0:(el u (n+2)*B+el u (n+1))/el v (n+1)<18446744073709551616:=by unfold B at *;omega
 obtain ⟨g,g1,g2,g3,g4⟩:=nguess_l u v hu hv n hn hl (by omega) htop _ rfl (val u/val v) hq1 hq2 18446744073709551616 (min ((el u (n+2)*B+el u (n+1))/el v (n+1)) 4294967295) (el u (n+2)*B+el u (n+1) - min ((el u (n+2)*B+el u (n+1))/el v (n+1)) 4294967295*el v (n+1)) (Nat.lt_of_lt_of_le (Nat.lt_of_le_of_lt (Nat.min_le_right _ _) (by decide:4294967295<18446744073709551616)) (Nat.le_add_left _ _)) hqm hmB (by omega)
 obtain ⟨b',c',o1,k1,k2,k4,k5,k7,k6⟩:=ntakes_l u v hv (by omega) g g4 u.length 0 18446744073709551616 0 0 u (by omega) (by omega) (by omega) (by decide) rfl hu
 have k1':FZ u v (g:Int) 18446744073709551616 0 0 0 u=some ((b':Int),o1):=k1
 have hVl:=EJ hv
 rw [hn] at hVl
 have hgV:g*val v<B^(n+3):=by
  rw [show n+3=n+2+1 by omega,pow_succ',Nat.mul_comm g]
  rw [Nat.mul_comm (B^(n+2))]
  exact Nat.mul_lt_mul'' g4 hVl |> fun h=>by rw [Nat.mul_comm (val v)];exact h
 rw [List.drop_zero,Nat.zero_add,hl] at k7
 have hc':c'=0:=by
  rcases Nat.eq_zero_or_pos c' with h | h
  ·exact h
  ·have:=Nat.mul_le_mul_left (B^(n+3)) h
   omega
 subst hc'
 rw [Nat.pow_zero,Nat.one_mul,List.drop_zero,Nat.zero_add,Nat.add_zero,AB (show v.length≤u.length by omega),Nat.mul_zero,Nat.mul_zero,Nat.add_zero,hl] at k6
 have et:bor .u64 (wu64 (wu64 ((el u (n+2):Nat):Int)*2^min (32:Int).toNat IntKind.u64.bits)) (wu64 ((el u (n+1):Nat):Int))=((el u (n+2)*B+el u (n+1):Nat):Int):=top_bor hu0 hu1
 have ev:wu64 ((el v (n+1):Nat):Int)=((el v (n+1):Nat):Int):=u64c _ (by unfold B at hv1;omega)
 have eq:wu64 ((((el u (n+2)*B+el u (n+1):Nat)):Int).tdiv ((el v (n+1):Nat):Int))=(((el u (n+2)*B+el u (n+1))/el v (n+1):Nat):Int):=u64 rfl hq0
 have emn:min ((((el u (n+2)*B+el u (n+1))/el v (n+1):Nat)):Int) 4294967295=((min ((el u (n+2)*B+el u (n+1))/el v (n+1)) 4294967295:Nat):Int):=minI _
 have hT:el u (n+2)*B+el u (n+1)<18446744073709551616:=by unfold B at *;omega
 have er:wu64 (((el u (n+2)*B+el u (n+1):Nat):Int) - wu64 (((min ((el u (n+2)*B+el u (n+1))/el v (n+1)) 4294967295:Nat):Int)*((el v (n+1):Nat):Int)))=((el u (n+2)*B+el u (n+1) - min ((el u (n+2)*B+el u (n+1))/el v (n+1)) 4294967295*el v (n+1):Nat):Int):=by
  rw [u64mul _ (el v (n+1)) (by omega)]
  exact u64 (by omega) (by omega)
 have el1:wi64 ((List.length v:Int) - 1)=((n+1:Nat):Int):=w64n (by omega) (by omega)
 have elv:(List.length v:Int)=((n+2:Nat):Int):=by omega
 have kl:val o1<B^(n+3):=by
  have:=EJ k5
  rw [k4,hl] at this
  exact this
 have hdm:=Nat.div_add_mod (val u) (val v)
 unfold HX
 rw [el1,elv,Bd hu (by omega),sB,Bd hu (by omega),sB,Bd hv (by omega),sB,ev,gdB (by omega),sB,ev,et,eq,emn,er,g1,sB]
 unfold KH
 rw [k1',sB,sB]
 simp only
 rcases Nat.eq_zero_or_pos b' with hb | hb
 ·subst hb
  rw [if_neg (by simp),sB]
  have e8:val o1+g*val v=val u:=by rw [k6,Nat.mul_zero,Nat.add_zero]
  have hg1:g=val u/val v:=by
   have h:=Nat.lt_of_mul_lt_mul_right (a:=val v) (show g*val v<(val u/val v+1)*val v by omega)
   omega
  refine ⟨_,by rw [u32,Nat.mod_eq_of_lt g4,hg1],k4,k5,?_⟩
  rw [Nat.mul_comm] at hdm
  rw [hg1] at e8
  omega
 ·obtain rfl:b'=1:=by omega
  rw [Nat.mul_one] at k6
  have hgq:val u<g*val v:=by omega
  have hg1:g=val u/val v+1:=by
   rcases Nat.lt_or_ge (val u/val v) g with h | h
   ·omega
   ·have:=Nat.mul_le_mul_right (val v) h;omega
  have e6:wu64 ((g:Int) - 1)=((val u/val v:Nat):Int):=u64 (by omega) (by unfold B at hqB;omega)
  obtain ⟨c3,o2,j1,j2,j3,j4,j5⟩:=nback_l u v hv (by omega) u.length 0 18446744073709551616 0 o1 (by omega) (by omega) (by omega) k4 k5
  have j1':Er u v 18446744073709551616 0 0 o1=some o2:=j1
  rw [Nat.pow_zero,Nat.one_mul,List.drop_zero,Nat.zero_add,AB (show v.length≤u.length by omega),Nat.mul_zero,Nat.add_zero,hl] at j5
  have jl:=EJ j4
  rw [j3,k4,hl] at jl
  rw [if_pos (by simp),j1',sB,sB,e6]
  refine ⟨o2,by rw [u32,Nat.mod_eq_of_lt hqB],by rw [j3,k4],j4,?_⟩
  have hgv:g*val v=val u/val v*val v+val v:=by rw [hg1,Nat.add_mul,Nat.one_mul]
  have hmod:val u%val v<val v:=Nat.mod_lt _ hVpos
  rw [Nat.mul_comm] at hdm
  have hVl3:val v<B^(n+3):=by
   rw [show n+3=n+2+1 by omega,pow_succ']
   exact Nat.lt_of_lt_of_le hVl (Nat.le_mul_of_pos_right _ (by decide))
  generalize B^(n+3)=P at *
  rcases Nat.eq_zero_or_pos c3 with h | h
  ·subst h;omega
  ·obtain rfl:c3=1:=by omega
   omega
theorem nSize (n:Nat) (h:sz n<4294967296):GX (limbs n)=some ((bl n:Nat):Int):=by
 have h':(limbs n).length<4294967296:=h
 unfold GX
 by_cases h0:(limbs n).length=0
 ·rw [if_pos (by omega),GS h0];rfl
 ·obtain ⟨m,hm⟩:∃m,(limbs n).length=m+1:=⟨(limbs n).length - 1,by omega⟩
  obtain ⟨h1,h2⟩:=HQ hm
  have h3:=Br (As n) m
  unfold B at h3
  have h4:bl (el (limbs n) m)≤32:=Eb.2 (by omega)
  rw [if_neg (by omega),w64n (n:=m) (by omega) (by omega),Bd (As n) (by omega),sB]
  unfold HH
  rw [gdB (by omega),sB,Int.toNat_natCast,Mp _ (by omega),w64n (x:=32*(m:Int)) (n:=32*m) (by omega) (by omega),w64n (n:=bl n) (by omega) (by omega)]
theorem QT (xs:List Int) (q k:Nat):el (xs.drop q) k=el xs (k+q):=by
 unfold el
 rw [List.getD_eq_getElem?_getD,List.getD_eq_getElem?_getD,List.getElem?_drop,Nat.add_comm]
theorem mv_both {lo hi s:Nat} (hlo:lo<B) (hs:s<32):(lo+B*hi)/2^s%B=lo/2^s+2^(32 - s)*(hi%2^s):=by
 have hB:=Nc (s:=s) (by omega)
 have hp:0<2^s:=Nat.pow_pos (by decide)
 have h4:lo/2^s<2^(32 - s):=by
  rw [Nat.div_lt_iff_lt_mul hp,Nat.mul_comm,←hB];exact hlo
 have h1:(lo+B*hi)/2^s=lo/2^s+2^(32 - s)*hi:=by
  conv=>lhs;rw [hB,Nat.mul_assoc]
  rw [Nat.add_mul_div_left _ _ hp]
 have h2:2^(32 - s)*hi=B*(hi/2^s)+2^(32 - s)*(hi%2^s):=by
  conv=>lhs;rw [←Nat.div_add_mod hi (2^s)]
  rw [Nat.mul_add,hB,←Nat.mul_assoc,Nat.mul_comm (2^(32 - s)) (2^s)]
 have h3:=Nat.mul_le_mul_left (2^(32 - s)) (show hi%2^s+1≤2^s from Nat.mod_lt _ hp)
 rw [Nat.mul_add,Nat.mul_one,Nat.mul_comm (2^(32 - s)) (2^s),←hB] at h3
 rw [h1,h2,show lo/2^s+(B*(hi/2^s)+2^(32 - s)*(hi%2^s))=lo/2^s+2^(32 - s)*(hi%2^s)+B*(hi/2^s) by omega,Nat.add_mul_mod_self_left]
 exact Nat.mod_eq_of_lt (by omega)
theorem nshr_l (x:List Int) (i:Nat) (ha:Dig x) (hs:x.length<4294967296) (hi:i/32≤x.length):∀(d k n:Nat) (out:List Int),(x.drop (i/32)).length=k+d→d<n→out.length=(x.drop (i/32)).length→Dig out→
  ∃(out':List Int),DN x (i:Int) n (k:Int) out=some out'∧out'.length=(x.drop (i/32)).length∧Dig out'∧val out'=val (out.take k)+B^k*(val ((x.drop (i/32)).drop k)/2^(i%32)):=by
 have hla:(x.drop (i/32)).length=x.length - i/32:=by simp
 have hl:(((wi64 ((x.length:Int) - wi64 ((i:Int).tdiv 32))).toNat:Nat):Int)=((x.drop (i/32)).length:Int):=by
  rw [td32,w64n (x:=((i/32:Nat):Int)) (n:=i/32) rfl (by omega),w64n (n:=x.length - i/32) (by omega) (by omega),Int.toNat_natCast,hla]
 have hda:Dig (x.drop (i/32)):=HB ha _
 intro d
 induction d with
 | zero=>
  intro k n out hk hn ho hd
  obtain ⟨n,rfl⟩:∃j,n=j+1:=⟨n - 1,by omega⟩
  unfold DN
  rw [hl,if_neg (by omega)]
  exact ⟨out,rfl,by omega,hd,by rw [AB (by omega),Nat.zero_div,Nat.mul_zero,Nat.add_zero,List.take_of_length_le (by omega)]⟩
 | succ d ih=>
  intro k n out hk hn ho hd
  obtain ⟨n,rfl⟩:∃j,n=j+1:=⟨n - 1,by omega⟩
  have h1:=Br hda k
  have h2:=Br hda (k+1)
  have hm:i%32<32:=Nat.mod_lt i (by decide)
  have h3:=Sv hda hm k
  have eb:bor .u64 ((el (x.drop (i/32)) k:Nat):Int) (wu64 (((el (x.drop (i/32)) (k+1):Nat):Int)*2^min (32:Int).toNat IntKind.u64.bits))=((el (x.drop (i/32)) k+B*el (x.drop (i/32)) (k+1):Nat):Int):=by
   rw [ml32n,u64c _ (by unfold B at h2 ⊢;omega),bor64 _ _ (by unfold B at h1;omega) (by unfold B at h2 ⊢;omega)]
   congr 1
   rw [B32,LV (s:=32) (by unfold B at h1;omega),Nat.mul_comm,Nat.add_comm]
  have ew:wu32 (((el (x.drop (i/32)) k+B*el (x.drop (i/32)) (k+1):Nat):Int).fdiv (2^min ((i:Int).tmod 32).toNat IntKind.u64.bits))=((mv (x.drop (i/32)) (i%32) k:Nat):Int):=by
   rw [tm32,shN _ _ (by omega),u32,mv_both h1 hm];rfl
  unfold DN
  rw [hl,if_pos (by omega),td32,w64n (x:=((i/32:Nat):Int)) (n:=i/32) rfl (by omega),w64n (x:=(k:Int)+((i/32:Nat):Int)) (n:=k+i/32) (by omega) (by omega),w64n (x:=((k+i/32:Nat):Int)+1) (n:=k+1+i/32) (by omega) (by omega),nAt ha,sB,nAt ha,sB,←QT,←QT,gdB (by rw [tm32];omega),Bd hd (by omega),sB,eb,ew,setn,w64n (n:=k+1) (by omega) (by omega)]
  obtain ⟨out',h6,h7,h8,h9⟩:=ih (k+1) n (out.set k ((mv (x.drop (i/32)) (i%32) k:Nat):Int)) (by omega) (by omega) (by simp;omega) (Fm hd h3 k)
  refine ⟨out',h6,h7,h8,?_⟩
  rw [h9,Dl,List.take_set_of_le (Nat.le_refl _),IE _ _ _ (by omega),if_pos rfl,OO (by omega) k,pow_succ']
  generalize B^k=P
  grind
theorem nShr (a:Nat) (i:Nat) (hs:sz a<1073741824) (hi:i<9223372036854775808):EL (limbs a) (i:Int)=some (limbs (a/2^i)):=by
 have hs':(limbs a).length<1073741824:=hs
 have ha:=As a
 have e:a/2^i=val ((limbs a).drop (i/32))/2^(i%32):=by
  conv=>lhs;rw [←Ax a]
  rw [pow32 i,←Nat.div_div_eq_div_mul,KF ha]
 unfold EL
 rw [nSize a (by omega),sB]
 by_cases h:bl a≤i
 ·rw [if_pos (by omega),Nat.div_eq_of_lt (Nat.lt_of_lt_of_le (Eb.1 (Nat.le_refl _)) (Nat.pow_le_pow_right (by decide) h)),BE]
 ·have hb:=Fi (n:=a) (k:=(limbs a).length) (Nat.le_refl _)
  have hq:i/32≤(limbs a).length:=by omega
  obtain ⟨out',h5,h7,h8,h9⟩:=nshr_l (limbs a) i ha (by omega) hq ((limbs a).drop (i/32)).length 0 18446744073709551616 (List.replicate ((limbs a).drop (i/32)).length 0) (by omega) (by simp;omega) (by simp) (GH _)
  have hla:((limbs a).drop (i/32)).length=(limbs a).length - i/32:=by simp
  have h5':DN (limbs a) (i:Int) 18446744073709551616 0 (List.replicate ((limbs a).drop (i/32)).length 0)=some out':=h5
  rw [hla] at h5'
  rw [if_neg (by omega),td32,w64n (x:=((i/32:Nat):Int)) (n:=i/32) rfl (by omega),w64n (n:=(limbs a).length - i/32) (by omega) (by omega),gdB (by omega),Int.toNat_natCast,h5',sB,nTrim h8 (by rw [h7];simp;omega),sB,h9,e]
  simp [val]
theorem QU {xs:List Int} (h:Dig xs) (k:Nat):xs.getD k 0=((el xs k:Nat):Int):=by
 unfold el
 rcases Nat.lt_or_ge k xs.length with hk | hk
 ·rw [List.getD_eq_getElem?_getD,List.getElem?_eq_getElem hk]
  have:=h _ (List.getElem_mem hk)
  simp only [Option.getD_some]
  omega
 ·rw [List.getD_eq_getElem?_getD,List.getElem?_eq_none hk];rfl
theorem PF {a b:List Int} (ha:Dig a) (hb:Dig b):∀k,cmpl a b k=sgnc (val (a.take k)) (val (b.take k))
 | 0=>by simp [cmpl,sgnc,val]
 | k+1=>by
  unfold cmpl
  rw [QU ha,QU hb,PF ha hb k]
  obtain ⟨h1,h2⟩:=LZ ha hb k
  by_cases h:el a k=el b k
  ·rw [if_neg (by omega),if_neg (by omega),Nr ha hb k h]
  ·rcases Nat.lt_or_gt_of_ne h with h3 | h3
   ·rw [if_pos (by omega),h1 h3]
   ·rw [if_neg (by omega),if_pos (by omega),h2 h3]
theorem nCmp (a b:Nat):CQ (limbs a) (limbs b)=some (sgnc a b):=by
 unfold CQ
 congr 1
 by_cases h1:(limbs a).length<(limbs b).length
 ·have:=CC (a:=a) (b:=b) h1
  rw [if_pos h1];unfold sgnc;rw [if_pos this]
 ·rw [if_neg h1]
  by_cases h2:(limbs b).length<(limbs a).length
  ·have:=CC (a:=b) (b:=a) h2
   rw [if_pos h2];unfold sgnc;rw [if_neg (by omega),if_pos this]
  ·rw [if_neg h2,PF (As a) (As b),←Mn _ _ (Nat.le_refl _),←Mn (limbs b) _ (by omega),Ax,Ax]
theorem nlong_l (x0 x1 v:List Int) (hv:Dig v) (n:Nat) (hn:v.length=n+2) (hs:v.length<4294967295) (htop:2147483648≤el v (n+1)):∀(k f:Nat) (qs u:List Int),k<f→k≤qs.length→k+v.length≤u.length→u.length<4294967297→Dig qs→Dig u→val (u.drop k)<val v→
  ∃(Q:Nat) (qs' u':List Int),Ed x0 x1 v f ((k:Int) - 1) qs u=some (qs',u')∧qs'.length=qs.length∧u'.length=u.length∧Dig qs'∧Dig u'∧val u=val v*Q+val u'∧val u' < val v∧val qs'=Q+B^k*val (qs.drop k):=by
 intro k
 induction k with
 | zero=>
  intro f qs u hf hq hl hlu hdq hdu hlt
  obtain ⟨f,rfl⟩:∃j,f=j+1:=⟨f - 1,by omega⟩
  unfold Ed
  rw [if_neg (by omega)]
  rw [List.drop_zero] at hlt
  exact ⟨0,qs,u,rfl,rfl,rfl,hdq,hdu,by simp,hlt,by simp⟩
 | succ k ih=>
  intro f qs u hf hq hl hlu hdq hdu hlt
  obtain ⟨f,rfl⟩:∃j,f=j+1:=⟨f - 1,by omega⟩
  have ehi:wi64 (wi64 ((k:Int)+(List.length v:Int))+1)=((k+v.length+1:Nat):Int):=by
   rw [w64n (x:=(k:Int)+(List.length v:Int)) (n:=k+v.length) (by omega) (by omega),w64n (n:=k+v.length+1) (by omega) (by omega)]
  have hwd:Dig ((u.drop k).take (n+3)):=It (HB hdu k) _
  have hwl:((u.drop k).take (n+3)).length=n+3:=by simp;omega
  have hdr:val (u.drop k)<B*val v:=by
   rw [AK]
   have h1:=Br hdu k
   have h2:=Nat.mul_le_mul_left B (show val (u.drop (k+1))+1≤val v from hlt)
   rw [Nat.mul_add,Nat.mul_one] at h2
   omega
  have hvb:=EJ hv
  rw [hn] at hvb
  have hw3:val (u.drop k)<B^(n+3):=by
   rw [show n+3=n+2+1 by omega,pow_succ',Nat.mul_comm]
   exact Nat.lt_trans hdr (Nat.mul_lt_mul_of_pos_left hvb (by decide))
  obtain ⟨hw1,hw2⟩:=Jc (HB hdu k) hw3
  obtain ⟨r,g1,g2,g3,g4⟩:=nestimate hwd hv n hn hwl hs htop (by rw [hw1];exact hdr)
  rw [hw1] at g1 g4
  have hVpos:0<val v:=by omega
  have hqB:val (u.drop k)/val v<B:=(Nat.div_lt_iff_lt_mul hVpos).2 hdr
  have hdu1:Dig (u.take k++r++u.drop (k+v.length+1)):=by
   rw [Hp,Hp]
   exact ⟨⟨It hdu k,g3⟩,HB hdu _⟩
  have hlk:(u.take k).length=k:=by simp;omega
  have hdrop:(u.take k++r++u.drop (k+v.length+1)).drop k=r++u.drop (k+v.length+1):=by
   rw [List.append_assoc,List.drop_append_of_le_length (by omega),List.drop_eq_nil_of_le (by omega),List.nil_append]
  have hz:val (u.drop (k+v.length+1))=0:=by
   rw [List.drop_drop] at hw2
   rw [show k+v.length+1=k+(n+3) by omega]
   exact hw2
  have hval1:val ((u.take k++r++u.drop (k+v.length+1)).drop k)=val (u.drop k)%val v:=by
   rw [hdrop,HR,hz,Nat.mul_zero,Nat.add_zero,g4]
  obtain ⟨Q,qs',u',j1,j2,j3,j4,j5,j6,j7,j8⟩:=ih f (qs.set k ((val (u.drop k)/val v:Nat):Int)) (u.take k++r++u.drop (k+v.length+1)) (by omega) (by simp;omega) (by simp;omega) (by simp;omega) (Fm hdq hqB k) hdu1 (by rw [hval1];exact Nat.mod_lt _ hVpos)
  unfold Ed
  rw [show (((k+1:Nat):Int) - 1)=(k:Int) by omega,if_pos (by omega),ehi,gdB (by omega),Int.toNat_natCast,Int.toNat_natCast,show k+v.length+1 - k=n+3 by omega,g1,sB,Bd hdq (by omega),sB]
  simp only
  rw [w64 (by omega) (by omega),j1]
  refine ⟨Q+B^k*(val (u.drop k)/val v),qs',u',rfl,by rw [j2];simp,by rw [j3];simp;omega,j4,j5,?_,j7,?_⟩
  ·have e1:val (u.take k++r++u.drop (k+v.length+1))=val (u.take k)+B^k*(val (u.drop k)%val v):=by
    rw [Hy _ k (by simp;omega),hval1]
    congr 2
    rw [List.append_assoc,List.take_append_of_le_length (by omega),List.take_of_length_le (by omega)]
   rw [e1] at j6
   rw [Hy u k (by omega)]
   have hdm:=Nat.div_add_mod (val (u.drop k)) (val v)
   generalize val (u.drop k)/val v=q at *
   generalize val (u.drop k)%val v=m at *
   generalize B^k=P at *
   grind
  ·rw [j8,AK,IE _ _ _ (by omega),if_pos rfl,List.drop_set_of_lt (by omega),pow_succ']
   generalize B^k=P
   grind
theorem nLong (a b:Nat) (hb:b≠0) (ha:sz a<1073741824) (hbs:sz b<1073741824):BP (limbs a) (limbs b)=some (limbs (a/b),limbs (a%b)):=by
 have ha':(limbs a).length<1073741824:=ha
 have hb':(limbs b).length<1073741824:=hbs
 unfold BP
 have hb0:(limbs b).length≠0:=fun h=>hb (GS h)
 by_cases h1:(limbs b).length=1
 ·obtain ⟨h2,h3⟩:=HQ (n:=b) (m:=0) h1
  have e:b=el (limbs b) 0:=by
   conv=>lhs;rw [←Ax b,←List.drop_zero (l:=limbs b),AK,AB (by omega),Nat.mul_zero,Nat.add_zero]
  rw [if_pos (by omega)]
  have e0:nth (limbs b) 0=some ((el (limbs b) 0:Nat):Int):=Bd (As b) (k:=0) (by omega)
  rw [e0,sB,nShort (As a) (by omega) _ (Br (As b) 0) h3,sB,Ax,←e]
 ·rw [if_neg (by omega),nCmp a b,sB]
  by_cases hlt:a<b
  ·rw [if_pos (by unfold sgnc;rw [if_pos hlt];decide),Nat.div_eq_of_lt hlt,Nat.mod_eq_of_lt hlt,BE]
  rw [if_neg (by unfold sgnc;rw [if_neg hlt];split<;>decide)]
  have hab:(limbs b).length≤(limbs a).length:=by
   rcases Nat.lt_or_ge (limbs a).length (limbs b).length with h | h
   ·exact absurd (CC (a:=a) (b:=b) h) hlt
   ·exact h
  obtain ⟨n,hn⟩:∃n,(limbs b).length=n+2:=⟨(limbs b).length - 2,by omega⟩
  have h3:=Br (As b) (n+1)
  have h4:bl (el (limbs b) (n+1))≤32:=Eb.2 (by rw [←B32];exact h3)
  obtain ⟨h5,h6⟩:=Nj (b:=b) (n:=n+1) hn
  have hLZ:Bf ((el (limbs b) (n+1):Nat):Int)=some ((32 - bl (el (limbs b) (n+1)):Nat):Int):=by
   unfold Bf
   rw [gdB (by unfold B at h3;omega),Int.toNat_natCast,Mp _ (by unfold B at h3;omega)]
   congr 1
   omega
  rw [w64n (n:=n+1) (by omega) (by omega),Bd (As b) (by omega),sB,hLZ,sB]
  generalize hsd:32 - bl (el (limbs b) (n+1))=s at *
  have hs:s≤32:=by omega
  rw [nShl (As b) s (by omega) (by omega),sB,Ax,nShl (As a) s (by omega) (by omega),Ax]
  have hla:(limbs (a*2^s)).length≤(limbs a).length+1:=by
   rcases Nat.eq_zero_or_pos a with h0 | h0
   ·omega
   ·refine EF ?_
    rw [Le (by omega)]
    have:=Fi (n:=a) (k:=(limbs a).length) (Nat.le_refl _)
    omega
  obtain ⟨hp1,hp2⟩:=QN (limbs (a*2^s)) ((limbs a).length+1) hla
  rw [w64n (x:=(((limbs a).length:Int)+1)) (n:=(limbs a).length+1) (by omega) (by omega),gdB (by omega),sB,Int.toNat_natCast,h5,w64n (x:=((((limbs a).length+1:Nat):Int)) - ((n+1+1:Nat):Int)) (n:=(limbs a).length - (n+1)) (by omega) (by omega),gdB (by omega),Int.toNat_natCast]
  have hpd:Dig ((limbs (a*2^s)).take (List.length (List.replicate ((limbs a).length+1) (0:Int)))++(List.replicate ((limbs a).length+1) (0:Int)).drop (List.length (limbs (a*2^s)))):=by
   rw [Hp]
   exact ⟨It (As _) _,HB (GH _) _⟩
  generalize hU:((limbs (a*2^s)).take (List.length (List.replicate ((limbs a).length+1) (0:Int)))++(List.replicate ((limbs a).length+1) (0:Int)).drop (List.length (limbs (a*2^s))))=U at *
  rw [Ax] at hp2
  have hvv:=Ax (b*2^s)
  have hV1:val (limbs (b*2^s))<B^(n+2):=by have:=EJ (As (b*2^s));rw [h5] at this;exact this
  have hfirst:val (U.drop ((limbs a).length - (n+1)))<val (limbs (b*2^s)):=by
   rw [←KF hpd,hp2,hvv,Nat.div_lt_iff_lt_mul (LX _)]
   have hA:=EJ (As a)
   rw [Ax] at hA
   have hB1:B^(n+1)≤b:=by
    have:=HQ hn
    rcases Nat.lt_or_ge b (B^(n+1)) with h | h
    ·have h7:(limbs b).length≤n+1:=BF.2 h
     omega
    ·exact h
   have e1:B^(limbs a).length=B^(n+1)*B^((limbs a).length - (n+1)):=by rw [←Nat.pow_add];congr 1;omega
   have h7:a<b*B^((limbs a).length - (n+1)):=by
    rw [e1] at hA
    exact Nat.lt_of_lt_of_le hA (Nat.mul_le_mul_right _ hB1)
   rw [Nat.mul_right_comm]
   exact Nat.mul_lt_mul_of_pos_right h7 (Nat.pow_pos (by decide))
  obtain ⟨Q,qs',u',j1,j2,j3,j4,j5,j6,j7,j8⟩:=nlong_l (limbs a) (limbs b) (limbs (b*2^s)) (As _) n (by omega) (by omega) h6 ((limbs a).length - (n+1)) 18446744073709551616 (List.replicate ((limbs a).length - (n+1)) 0) U (by omega) (by simp) (by omega) (by omega) (GH _) hpd hfirst
  rw [w64 (by omega) (by omega),j1,sB]
  simp only
  rw [AB (by simp),Nat.mul_zero,Nat.add_zero] at j8
  rw [hp2,hvv] at j6
  rw [hvv] at j7
  obtain ⟨e1,e2⟩:=Qa (Nat.pow_pos (by decide)) j6 j7
  rw [nTrim j4 (by rw [j2];simp;omega),sB,j8,e1,nTrim j5 (by omega),sB,nShr _ s (by
   have h8:val u' < B^(n+2):=by rw [hvv] at hV1;exact Nat.lt_trans j7 hV1
   have h9:=(BF (n:=val u') (k:=n+2)).2 h8
   show (limbs (val u')).length<_
   omega) (by omega),sB,e2]
theorem nadd_l (a b:List Int) (ha:Dig a) (hb:Dig b) (m:Nat) (hm:m=max a.length b.length) (hs:m<4294967296):∀(d k n c:Nat) (out:List Int),m+1=k+d→d<n→c≤1→out.length=m+1→Dig out→
  ∃(c':Nat) (out':List Int),DO a b n (c:Int) (k:Int) out=some out'∧out'.length=m+1∧Dig out'∧val out' + B^(m+1)*c'=val (out.take k)+B^k*(c+val (a.drop k)+val (b.drop k)):=by
 have hl:(((wi64 ((max (a.length:Int) (b.length:Int))+1)).toNat:Nat):Int)=((m+1:Nat):Int):=by
  rw [w64n (n:=m+1) (by omega) (by omega),Int.toNat_natCast]
 intro d
 induction d with
 | zero=>
  intro k n c out hk hn hc ho hd
  obtain ⟨n,rfl⟩:∃j,n=j+1:=⟨n - 1,by omega⟩
  unfold DO
  rw [hl,if_neg (by omega)]
  exact ⟨c,out,rfl,by omega,hd,by rw [AB (by omega),AB (by omega),hk,Nat.add_zero,Nat.add_zero,List.take_of_length_le (by omega)]⟩
 | succ d ih=>
  intro k n c out hk hn hc ho hd
  obtain ⟨n,rfl⟩:∃j,n=j+1:=⟨n - 1,by omega⟩
  have h1:=Br ha k
  have h2:=Br hb k
  unfold B at h1 h2
  unfold DO
  rw [hl,if_pos (by omega),nAt ha,sB,nAt hb,sB,u64add (el a k) (el b k) (by omega),u64add c (el a k+el b k) (by omega),Bd hd (by omega),sB,u32,sh32,setn,w64n (n:=k+1) (by omega) (by omega)]
  obtain ⟨c',out',h3,h5,h6,h7⟩:=ih (k+1) n ((c+(el a k+el b k))/B) (out.set k ((((c+(el a k+el b k))%B:Nat)):Int)) (by omega) (by omega) (by unfold B;omega) (by simp;omega) (Fm hd (Nat.mod_lt _ (by decide)) k)
  refine ⟨c',out',h3,h5,h6,?_⟩
  rw [h7,Dl,List.take_set_of_le (Nat.le_refl _),IE _ _ _ (by omega),if_pos rfl,AK a k,AK b k,pow_succ']
  have h8:=Nat.div_add_mod (c+(el a k+el b k)) B
  generalize (c+(el a k+el b k))/B=q at h8 ⊢
  generalize (c+(el a k+el b k))%B=r at h8 ⊢
  generalize B^k=P
  grind
theorem nAdd (a b:Nat) (hla:sz a<1073741824) (hlb:sz b<1073741824):DW (limbs a) (limbs b)=some (limbs (a+b)):=by
 have hla':(limbs a).length<1073741824:=hla
 have hlb':(limbs b).length<1073741824:=hlb
 have ha:=As a
 have hb:=As b
 obtain ⟨c',out',h3,h5,h6,h7⟩:=nadd_l (limbs a) (limbs b) ha hb _ rfl (by omega) (max (limbs a).length (limbs b).length+1) 0 18446744073709551616 0 (List.replicate (max (limbs a).length (limbs b).length+1) 0) (by omega) (by omega) (by omega) (by simp) (GH _)
 have h3':DO (limbs a) (limbs b) 18446744073709551616 0 0 (List.replicate (max (limbs a).length (limbs b).length+1) 0)=some out':=h3
 rw [List.take_zero,show val []=0 from rfl,Nat.pow_zero,List.drop_zero,List.drop_zero,Nat.zero_add,Nat.zero_add,Nat.one_mul,Ax,Ax] at h7
 have hA:=Nat.lt_of_lt_of_le (EJ ha) (Lq (show (limbs a).length≤max (limbs a).length (limbs b).length by omega))
 have hB:=Nat.lt_of_lt_of_le (EJ hb) (Lq (show (limbs b).length≤max (limbs a).length (limbs b).length by omega))
 rw [Ax] at hA hB
 have hc:=Py h7 (by rw [pow_succ'];generalize B^max (limbs a).length (limbs b).length=P at hA hB;unfold B;omega)
 rw [hc,Nat.mul_zero,Nat.add_zero] at h7
 have hl:wi64 ((max ((limbs a).length:Int) ((limbs b).length:Int))+1)=((max (limbs a).length (limbs b).length+1:Nat):Int):=w64n (by omega) (by omega)
 unfold DW
 rw [hl,gdB (by omega),Int.toNat_natCast,h3',sB,nTrim h6 (by omega),sB,h7]
theorem nsub_l (a b:List Int) (ha:Dig a) (hb:Dig b) (hs:a.length<4294967296) (hl:b.length≤a.length):∀(d k n c:Nat) (out:List Int),a.length=k+d→d<n→c≤1→out.length=a.length→Dig out→
  ∃(c':Nat) (out':List Int),DK a b n (c:Int) (k:Int) out=some out'∧out'.length=a.length∧Dig out'∧val out' + B^k*(c+val (b.drop k))=val (out.take k)+B^k*val (a.drop k)+B^a.length*c':=by
 have hl2:((((a.length:Int)).toNat:Nat):Int)=(a.length:Int):=by rw [Int.toNat_natCast]
 intro d
 induction d with
 | zero=>
  intro k n c out hk hn hc ho hd
  obtain ⟨n,rfl⟩:∃j,n=j+1:=⟨n - 1,by omega⟩
  unfold DK
  rw [if_neg (by omega)]
  exact ⟨c,out,rfl,by omega,hd,by rw [AB (by omega),AB (by omega),hk,Nat.add_zero,Nat.add_zero,Nat.mul_zero,Nat.add_zero,List.take_of_length_le (by omega)]⟩
 | succ d ih=>
  intro k n c out hk hn hc ho hd
  obtain ⟨n,rfl⟩:∃j,n=j+1:=⟨n - 1,by omega⟩
  have h1:=Br ha k
  have h2:=Br hb k
  unfold B at h1 h2
  have hr:wu64 (wu64 (((el a k:Nat):Int) - ((el b k:Nat):Int)) - (c:Int))=(((el a k+18446744073709551616 - (c+el b k))%18446744073709551616:Nat):Int):=by
   show IntKind.u64.wrap (IntKind.u64.wrap _ - _)=_
   rw [IntKind.wrap_u64,IntKind.wrap_u64]
   omega
  unfold DK
  rw [if_pos (by omega),nAt ha,sB,nAt hb,sB,hr,Bd hd (by omega),sB,u32,sh63,setn,w64n (n:=k+1) (by omega) (by omega)]
  obtain ⟨c',out',h3,h5,h6,h7⟩:=ih (k+1) n ((el a k+18446744073709551616 - (c+el b k))%18446744073709551616/9223372036854775808) (out.set k (((el a k+18446744073709551616 - (c+el b k))%18446744073709551616%B:Nat):Int)) (by omega) (by omega) (by omega) (by simp;omega) (Fm hd (Nat.mod_lt _ (by decide)) k)
  refine ⟨c',out',h3,h5,h6,?_⟩
  have h9:el a k+B*((el a k+18446744073709551616 - (c+el b k))%18446744073709551616/9223372036854775808)=(el a k+18446744073709551616 - (c+el b k))%18446744073709551616%B+(c+el b k):=by
   unfold B
   omega
  rw [Dl,List.take_set_of_le (Nat.le_refl _),IE _ _ _ (by omega),if_pos rfl,pow_succ'] at h7
  rw [AK b k,AK a k]
  generalize (el a k+18446744073709551616 - (c+el b k))%18446744073709551616/9223372036854775808=c1 at h7 h9
  generalize (el a k+18446744073709551616 - (c+el b k))%18446744073709551616%B=r at h7 h9
  generalize B^k=P at h7 ⊢
  generalize B^a.length=L at h7 ⊢
  grind
theorem nSub (a b:Nat) (hla:sz a<1073741824) (hv:b≤a):DV (limbs a) (limbs b)=some (limbs (a - b)):=by
 have hla':(limbs a).length<1073741824:=hla
 have ha:=As a
 have hb:=As b
 have hl:(limbs b).length≤(limbs a).length:=BF.2 (Nat.lt_of_le_of_lt hv ((BF (n:=a) (k:=(limbs a).length)).1 (Nat.le_refl _)))
 obtain ⟨c',out',h3,h5,h6,h7⟩:=nsub_l (limbs a) (limbs b) ha hb (by omega) hl (limbs a).length 0 18446744073709551616 0 (List.replicate (limbs a).length 0) (by omega) (by omega) (by omega) (by simp) (GH _)
 have h3':DK (limbs a) (limbs b) 18446744073709551616 0 0 (List.replicate (limbs a).length 0)=some out':=h3
 have hlt:=EJ h6
 rw [h5] at hlt
 rw [Nat.pow_zero,List.drop_zero,List.drop_zero,Nat.zero_add,Nat.one_mul,Nat.one_mul,List.take_zero,show val []=0 from rfl,Nat.zero_add,Ax,Ax] at h7
 have hc:c'=0:=by
  rcases Nat.eq_zero_or_pos c' with h0 | h0
  ·exact h0
  ·have:=Nat.mul_le_mul_left (B^(limbs a).length) h0
   omega
 rw [hc,Nat.mul_zero,Nat.add_zero] at h7
 unfold DV
 rw [gdB (by omega),Int.toNat_natCast,h3',sB,nTrim h6 (by omega),sB,show val out'=a - b by omega]
theorem nSchool_2 (x0 x1:List Int) (v u:Int):∀(n:Nat) (c j:Int) (out:List Int),Ev x0 x1 v u n c j out=CU x0 x1 v u n c j out:=by
 intro n
 induction n with
 | zero=>intro c j out;rfl
 | succ n ih=>
  intro c j out
  unfold Ev CU
  simp only [ih]
theorem nSchool_1 (x0 x1:List Int):∀(n:Nat) (k:Int) (out:List Int),Es x0 x1 n k out=Cw x0 x1 n k out:=by
 intro n
 induction n with
 | zero=>intro k out;rfl
 | succ n ih=>
  intro k out
  unfold Es Cw
  simp only [ih,nSchool_2]
theorem nSchool (x y:Nat) (hx:sz x<1073741824) (hy:sz y<1073741824):CD (limbs x) (limbs y)=some (limbs (x*y)):=by
 have hx':(limbs x).length<1073741824:=hx
 have hy':(limbs y).length<1073741824:=hy
 obtain ⟨out',g1,g2,g3,g4⟩:=QJ (limbs x) (limbs y) (As x) (As y) (by omega) (limbs x).length 0 18446744073709551616 (List.replicate ((limbs x).length+(limbs y).length) 0) (by omega) (by omega) (by simp) (GH _) (fun p _=>by simp [el,List.getD,List.getElem?_replicate];split<;>simp)
 have g1':Cw (limbs x) (limbs y) 18446744073709551616 0 (List.replicate ((limbs x).length+(limbs y).length) 0)=some out':=g1
 unfold CD
 rw [w64n (n:=(limbs x).length+(limbs y).length) (by omega) (by omega),gdB (by omega),Int.toNat_natCast,nSchool_1,g1',sB,nTrim g3 (by rw [g2];simp;omega),sB,g4,Mk,Nat.pow_zero,List.drop_zero,Nat.zero_add,Nat.one_mul,Ax,Ax]
end Go.Proofs.Lf
