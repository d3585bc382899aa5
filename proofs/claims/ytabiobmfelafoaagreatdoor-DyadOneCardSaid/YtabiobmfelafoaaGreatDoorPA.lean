import Derived.Test.YtabiobmfelafoaaGreatDoorGenBase
namespace Go.Proofs.Pq
set_option linter.unusedVariables false
set_option linter.unusedSimpArgs false
set_option maxRecDepth 4000
open Go.Proofs Go.Sb Go.Proofs.Sbn Go.Proofs.Lf
def Sm (n:Nat):Prop:=bl n≤1000000
theorem Sm.sz {n:Nat} (h:Sm n):sz n<1073741824:=by
 have h1:Sbn.sz n≤31250:=GK (by unfold Sm at h;omega)
 show Sbn.sz n<_
 omega
theorem PE {n k:Nat} (h:n<2^k) (hk:k≤1000000):Sm n:=Nat.le_trans (Fe.2 h) hk
theorem bl_mono {a b:Nat} (h:a≤b):bl a≤bl b:=Fe.2 (Nat.lt_of_le_of_lt h (Fe.1 (Nat.le_refl _)))
theorem NS (a b:Nat):bl (a*b)≤bl a+bl b:=by rw [Fe,Nat.pow_add];exact Nat.mul_lt_mul'' (Fe.1 (Nat.le_refl _)) (Fe.1 (Nat.le_refl _))
theorem Jq {a b:Nat} (h:a≤b) (hb:Sm b):Sm a:=Nat.le_trans (bl_mono h) hb
theorem sz0 (n:Nat):((Sbn.sz n:Int)=0)=(n=0):=by
 apply propext;constructor
 ·intro h;exact Fa (by have:(limbs n).length=Sbn.sz n:=rfl;omega)
 ·intro h;rw [h];rfl
theorem Mq (n:Nat):(0<(Sbn.sz n:Int))=(n≠0):=by
 have:=sz0 n
 apply propext;constructor
 ·intro h h0;rw [h0] at h;exact absurd h (by decide)
 ·intro h;have h2:¬(Sbn.sz n:Int)=0:=by rw [this];exact h
  omega
theorem wZeros {x:Nat} (h:Sm x):Cv x=some (tz x:Int):=by unfold Cv;exact gdB h.sz _
theorem wShr {x k:Nat} (h:Sm x) (hk:k<9223372036854775808):Ch x (k:Int)=some (x/2^k):=by
 unfold Ch;rw [gdB ⟨h.sz,by omega,by omega⟩];rfl
theorem wShl {x k:Nat} (h:Sm x) (hk:k<34359738368):Bp x (k:Int)=some (x*2^k):=by
 unfold Bp;rw [gdB ⟨h.sz,by omega,by omega⟩];rfl
theorem wSub {x y:Nat} (h:Sm x) (hy:y≤x):Cg x y=some (x - y):=by
 unfold Cg;exact gdB ⟨h.sz,(Jq hy h).sz,hy⟩ _
theorem wCmp {x y:Nat} (h:Sm x) (hy:Sm y):Cf x y=some (cmpw x y):=by
 unfold Cf;exact gdB ⟨h.sz,hy.sz⟩ _
theorem wAdd {x y:Nat} (h:Sm x) (hy:Sm y):Cq x y=some (x+y):=by
 unfold Cq;exact gdB ⟨h.sz,hy.sz⟩ _
theorem wMul {x y:Nat} (h:Sm x) (hy:Sm y):CL x y=some (x*y):=by
 unfold CL;exact gdB ⟨h.sz,hy.sz⟩ _
theorem wDiv {x y:Nat} (h:Sm x) (hy:Sm y) (h0:y≠0):CN x y=some (x/y,x%y):=by
 unfold CN;exact gdB ⟨h.sz,hy.sz,h0⟩ _
theorem wBits {x:Nat} (h:Sm x):Bm x=some (bl x:Int):=by unfold Bm;exact gdB h.sz _
theorem wClone {x:Nat} (h:Sm x):CE x=some x:=by unfold CE;exact gdB h.sz _
theorem rZeros {x:Nat} (h:Sm x):BC x=some (tz x:Int):=by unfold BC;exact gdB h.sz _
theorem rShr {x k:Nat} (h:Sm x) (hk:k<9223372036854775808):BG x (k:Int)=some (x/2^k):=by
 unfold BG;rw [gdB ⟨h.sz,by omega,by omega⟩];rfl
theorem rShl {x k:Nat} (h:Sm x) (hk:k<34359738368):BJ x (k:Int)=some (x*2^k):=by
 unfold BJ;rw [gdB ⟨h.sz,by omega,by omega⟩];rfl
theorem rCmp {x y:Nat} (h:Sm x) (hy:Sm y):Dn x y=some (sgnc x y):=by
 unfold Dn;exact gdB ⟨h.sz,hy.sz⟩ _
theorem rAdd {x y:Nat} (h:Sm x) (hy:Sm y):Dq x y=some (x+y):=by
 unfold Dq;exact gdB ⟨h.sz,hy.sz⟩ _
theorem rDiv {x y:Nat} (h:Sm x) (hy:Sm y) (h0:y≠0):BV x y=some ⟨x/y,x%y⟩:=by
 unfold BV;exact gdB ⟨h.sz,hy.sz,h0⟩ _
theorem PG {x:Nat} (h:Sm x):DL x=some (bl x:Int):=by unfold DL;exact gdB h.sz _
def nz (s:Bool) (n:Nat) (e:Int):An:=if n=0 then ⟨⟨false,0⟩,0⟩ else ⟨⟨s,n/2^tz n⟩,e+tz n⟩
def toD (x:An):Al:=⟨x.m,x.e⟩
theorem PD {n:Nat} (h:Sm n):tz n≤1000000:=by
 by_cases h0:n=0
 ·subst h0;decide
 ·obtain ⟨m,_,h1⟩:=Hz h0;unfold Sm at h;omega
theorem OG (n:Nat):∃q,n=q*2^tz n:=by
 by_cases h0:n=0
 ·exact ⟨0,by simp [h0]⟩
 ·obtain ⟨m,h1,_⟩:=Hz h0;exact ⟨2*m+1,by rw [Nat.mul_comm];exact h1⟩
theorem normal (s:Bool) (n:Nat) (e:Int) (h:Sm n) (he : -1000000000000≤e) (he':e≤1000000000000):Cj ⟨s,n⟩ e=some (nz s n e):=by
 have hz:=PD h
 unfold Cj nz
 simp only [sz0]
 split
 ·rfl
 ·rw [wZeros h,sB,wShr h (by omega),sB,w64 (by omega) (by omega)]
theorem refOf (s:Bool) (n:Nat) (e:Int) (h:Sm n) (he : -1000000000000≤e) (he':e≤1000000000000):DI ⟨s,n⟩ e=some (toD (nz s n e)):=by
 have hz:=PD h
 unfold DI nz toD
 simp only [sz0]
 split
 ·rfl
 ·rw [rZeros h,sB,rShr h (by omega),sB,w64 (by omega) (by omega)]
end Go.Proofs.Pq
namespace Go.Proofs.Pq
set_option linter.unusedVariables false
set_option linter.unusedSimpArgs false
set_option maxRecDepth 4000
open Go.Proofs Go.Sb Go.Proofs.Sbn Go.Proofs.Lf
def up (z:Bool) (h:Int) (o s:Bool) (dir:Int):Bool:=
 if z then false else if dir=1 then (decide (0<h) || (decide (h=0) && o)) else if dir=2 then decide (0≤h) else if dir=4 then !s else if dir=5 then s else false
theorem away (z:Bool) (h:Int) (o s:Bool) (dir:Int):Ib z h o s dir=some (up z h o s dir):=by
 unfold Ib up
 by_cases h1:0<h<;>by_cases h2:h=0<;>by_cases h3:(0:Int)≤h<;>cases z<;>cases o<;>cases s<;>(by_cases d1:dir=1)<;>(by_cases d2:dir=2)<;>(by_cases d4:dir=4)<;>(by_cases d5:dir=5)<;>simp_all<;>first | omega | rfl | (rw [if_neg (by omega),decide_eq_false (by omega)])
def rn (s:Bool) (N D:Nat) (e:Int) (dir:Int):An:=
 nz s (N/D+if up (decide (N%D=0)) (sgnc (2*(N%D)) D) (decide (N/D%2=1)) s dir=true then 1 else 0) e
theorem sgnc_mul {a b c:Nat} (h:0<c):sgnc (a*c) (b*c)=sgnc a b:=by
 unfold sgnc
 simp only [Nat.mul_lt_mul_right h]
end Go.Proofs.Pq
namespace Go.Proofs.Pq
set_option linter.unusedVariables false
set_option linter.unusedSimpArgs false
set_option maxRecDepth 4000
open Go.Proofs Go.Sb Go.Proofs.Sbn Go.Proofs.Lf
theorem up_congr {z:Bool} {h h':Int} {o s:Bool} {dir:Int} (h1:0<h↔0<h') (h2:h=0↔h'=0):up z h o s dir=up z h' o s dir:=by
 have h3:0≤h↔0≤h':=by omega
 unfold up
 simp only [h1,h2,h3]
theorem nth0 (x:Int) (l:List Int):nth (x::l) 0=some x:=by
 unfold nth;rw [if_pos ⟨by omega,by simp only [List.length_cons];omega⟩];rfl
theorem odd_w (q:Nat):(if 0<(Sbn.sz q:Int) then (nth (limbs q) 0).bind fun u=>some (decide (u%2=1)) else some false)=some (decide (q%2=1)):=by
 simp only [Mq]
 by_cases h:q=0
 ·subst h;rfl
 ·rw [if_pos h,Eu h,nth0]
  show some (decide (((q%4294967296:Nat):Int)%2=1))=_
  congr 1
  apply decide_eq_decide.2
  omega
theorem odd_r (q:Nat):(if 0<(Sbn.sz q:Int) then (nth (limbs q) 0).bind fun u=>some (decide (u.tmod 2=1)) else some false)=some (decide (q%2=1)):=by
 simp only [Mq]
 by_cases h:q=0
 ·subst h;rfl
 ·rw [if_pos h,Eu h,nth0]
  show some (decide (((q%4294967296%2:Nat):Int)=1))=_
  congr 1
  apply decide_eq_decide.2
  omega
theorem half_lt {N D n d:Nat} (hD:0<D) (hn:n=N/D) (hd:1≤d) :
  (0<(if cmpw (n%2^d) (2^(d - 1))=0∧N%D≠0 then 1 else cmpw (n%2^d) (2^(d - 1)))↔0<sgnc (2*(N%(D*2^d))) (D*2^d))∧
  ((if cmpw (n%2^d) (2^(d - 1))=0∧N%D≠0 then 1 else cmpw (n%2^d) (2^(d - 1)))=0↔sgnc (2*(N%(D*2^d))) (D*2^d)=0):=by
 have hc1:=@Kh (n%2^d) (2^(d - 1))
 have hc2:=@cmpw_pos (n%2^d) (2^(d - 1))
 have hm:N%(D*2^d)=N%D+D*(n%2^d):=by rw [Nat.mod_mul,hn]
 have hp:2^d=2^(d - 1)*2:=by rw [←Nat.pow_succ];congr 1;omega
 have hr:=Nat.mod_lt N hD
 rw [hm]
 rw [show D*2^d=D*2^(d - 1)*2 by rw [hp,Nat.mul_assoc],show 2*(N%D+D*(n%2^d))=(N%D+D*(n%2^d))*2 from Nat.mul_comm _ _,sgnc_mul (by omega)]
 generalize cmpw (n%2^d) (2^(d - 1))=c at *
 generalize n%2^d=r at *
 generalize 2^(d - 1)=P at *
 generalize N%D=t at *
 have hlt:r<P→t+D*r<D*P:=by
  intro h
  have:D*(r+1)≤D*P:=Nat.mul_le_mul_left _ h
  rw [Nat.mul_add] at this;omega
 have hgt:P<r→D*P<t+D*r:=by
  intro h
  have:D*(P+1)≤D*r:=Nat.mul_le_mul_left _ h
  rw [Nat.mul_add] at this;omega
 rcases Nat.lt_trichotomy r P with h | h | h
 ·have:=hlt h
  have hs:sgnc (t+D*r) (D*P) = -1:=by unfold sgnc;rw [if_pos this]
  have:c<0:=hc1.2 h
  rw [hs,if_neg (by omega)];omega
 ·subst h
  have hc:c=0:=by have:=hc1.1;have:=hc2.1;omega
  subst hc
  by_cases h0:t=0
  ·subst h0
   have hs:sgnc (0+D*r) (D*r)=0:=by unfold sgnc;rw [if_neg (by omega),if_neg (by omega)]
   rw [hs];simp
  ·have hs:sgnc (t+D*r) (D*r)=1:=by unfold sgnc;rw [if_neg (by omega),if_pos (by omega)]
   rw [hs,if_pos ⟨rfl,h0⟩];omega
 ·have:=hgt h
  have hs:sgnc (t+D*r) (D*P)=1:=by unfold sgnc;rw [if_neg (by omega),if_pos this]
  have:0<c:=hc2.2 h
  rw [hs,if_neg (by omega)];omega
theorem sm1:Sm 1:=by unfold Sm;decide
theorem round_st (s:Bool) (n:Nat) (e:Int) (b:Nat) (dir:Int) (N D:Nat) (hn:Sm n) (hD:0<D) (hN:n=N/D) (hb:1≤b) (hb2:b+2≤bl n)
  (he : -100000000000≤e) (he':e≤100000000000) :
  CR ⟨⟨s,n⟩,e⟩ (b:Int) dir (decide (N%D≠0))=some (rn s N (D*2^(bl n - b)) (e+((bl n - b:Nat):Int)) dir):=by
 have hbn:bl n≤1000000:=hn
 obtain ⟨d,hd⟩:∃d,d=bl n - b:=⟨_,rfl⟩
 have hw:wi64 ((bl n:Int) - (b:Int))=(d:Int):=w64n (by omega) (by omega)
 have hdd:bl n - b=d:=hd.symm
 have hp:=Nat.two_pow_pos d
 have hq1:n/2^d≤n:=Nat.div_le_self _ _
 have hqs:Sm (n/2^d):=Jq hq1 hn
 have hqq:n/2^d*2^d≤n:=Nat.div_mul_le_self _ _
 have hr:n - n/2^d*2^d=n%2^d:=by have:=Nat.div_add_mod n (2^d);rw [Nat.mul_comm] at this;omega
 have hrs:Sm (n%2^d):=Jq (Nat.mod_le _ _) hn
 have hps:Sm (2^(d - 1)):=PE (k:=d) (Nat.pow_lt_pow_right (by decide) (by omega)) (by omega)
 have hm:N%(D*2^d)=N%D+D*(n%2^d):=by rw [Nat.mod_mul,hN]
 have hz:(decide (N%(D*2^d)=0))=(if n%2^d=0 then decide (¬decide (N%D≠0)=true) else false):=by
  rw [hm]
  by_cases h1:n%2^d=0
  ·simp [h1]
  ·rw [if_neg h1,decide_eq_false]
   have:0<D*(n%2^d):=Nat.mul_pos hD (by omega)
   omega
 have hh:=half_lt hD hN (show 1≤d by omega)
 unfold CR
 rw [wBits hn,sB]
 simp only [hw]
 rw [if_neg (by omega),sB,if_neg (by decide),if_neg (by omega),sB]
 rw [wShr hn (by omega),sB,wShl hqs (by omega),sB,wSub hn hqq,sB,hr]
 simp only [sz0]
 have e1:(if n%2^d=0 then some (decide (¬decide (N%D≠0)=true)) else some false)=some (decide (N%(D*2^d)=0)):=by
  rw [hz];split<;>rfl
 have e2:wi64 ((d:Int) - 1)=((d - 1:Nat):Int):=w64n (by omega) (by omega)
 rw [e1,sB,e2,wShl sm1 (by omega),sB,Nat.one_mul,wCmp hrs hps,sB]
 have e3:(if cmpw (n%2^d) (2^(d - 1))=0 then some (decide (N%D≠0)) else some false)=some (decide (cmpw (n%2^d) (2^(d - 1))=0∧N%D≠0)):=by
  split<;>simp_all
 rw [e3,sB]
 have e4:(if decide (cmpw (n%2^d) (2^(d - 1))=0∧N%D≠0)=true then some (1:Int) else some (cmpw (n%2^d) (2^(d - 1))))=some (if cmpw (n%2^d) (2^(d - 1))=0∧N%D≠0 then 1 else cmpw (n%2^d) (2^(d - 1))):=by
  simp only [decide_eq_true_eq];split<;>rfl
 rw [e4,sB,odd_w,sB,away,sB,up_congr hh.1 hh.2]
 have e5:wi64 (e+(d:Int))=e+d:=w64 (by omega) (by omega)
 rw [e5]
 have hqe:n/2^d=N/(D*2^d):=by rw [hN,Nat.div_div_eq_div_mul]
 rw [hqe,hdd]
 have hqs2:Sm (n/2^d+1):=by
  apply PE (k:=bl n) _ hbn
  have h1:=Fe.1 (Nat.le_refl (bl n))
  have:2^1≤2^d:=Nat.pow_le_pow_right (by decide) (by omega)
  have h0:n/2^d≤n/2:=Nat.div_le_div_left (by omega) (by decide)
  have:n≠0:=by intro h;rw [h] at hb2;rw [KX] at hb2;omega
  omega
 unfold rn
 rw [hqe] at hqs hqs2
 split
 ·rename_i hu
  rw [wAdd hqs sm1,sB,sB,normal _ _ _ hqs2 (by omega) (by omega),sB]
 ·rename_i hu
  rw [sB,normal _ _ _ hqs (by omega) (by omega),sB]
  rfl
end Go.Proofs.Pq
namespace Go.Proofs.Pq
set_option linter.unusedVariables false
set_option linter.unusedSimpArgs false
set_option maxRecDepth 4000
open Go.Proofs Go.Sb Go.Proofs.Sbn Go.Proofs.Lf
theorem rounded (q r den:Nat) (s:Bool) (dir:Int) (hq:Sm q) (hr:Sm r) (hr2:Sm (r+r)) (hd:Sm den) :
    Gc q r den s dir=some (q+if up (decide (r=0)) (sgnc (2*r) den) (decide (q%2=1)) s dir=true then 1 else 0):=by
  unfold Gc
  simp only [sz0]
  by_cases h0:r=0
  · rw [if_pos h0];unfold up;simp [h0]
  · rw [if_neg h0]
    simp only [rAdd hr hr,rCmp hr2 hd,Dr,rAdd hq sm1,sB]
    rw [odd_r]
    rw [show r+r=2*r by omega]
    unfold up
    simp only [decide_eq_false h0]
    generalize sgnc (2*r) den=h
    generalize hgo:decide (q%2=1)=o
    by_cases h1:0<h<;>by_cases h2:h=0<;>by_cases h3:(0:Int)≤h<;>cases o<;>cases s<;>(by_cases d1:dir=1)<;>(by_cases d2:dir=2)<;>(by_cases d4:dir=4)<;>(by_cases d5:dir=5)<;>simp_all [sB]<;>first | omega | rfl | (rw [if_neg (show ¬0<h by omega),if_neg (show ¬0<h by omega)];rfl) | (rw [if_neg (show ¬0<h by omega),if_neg (show ¬0≤h by omega)];rfl)
theorem signed_pos (s:Bool) {m:Nat} (h:m≠0):Cc s m=some ⟨s,m⟩:=by
  unfold Cc
  simp only [Mq]
  cases s
  · rfl
  · rw [if_pos rfl,decide_eq_true h];rfl
theorem part (N D:Nat) (s:Bool) (dir e:Int) (hD:0<D) (hN:Sm N) (hDs:Sm (D+D)) (h1:N/D≠0) (he : -100000000000≤e) (he':e≤100000000000) (hq1:Sm (N/D+1)) :
    Iz (N/D) (N%D) D s dir e=some (toD (rn s N D e dir)):=by
  have hm:=Nat.mod_lt N hD
  unfold Iz
  rw [rounded _ _ _ _ _ (Jq (Nat.div_le_self _ _) hN) (Jq (Nat.mod_le _ _) hN) (Jq (by omega) hDs) (Jq (by omega) hDs),sB,signed_pos,sB,refOf,sB]
  · rfl
  · apply Jq _ hq1;split<;>omega
  · omega
  · omega
  · exact Nat.ne_of_gt (Nat.lt_of_lt_of_le (Nat.pos_of_ne_zero h1) (Nat.le_add_right _ _))
theorem Fi {n:Nat} (h:n≠0):2^(bl n - 1)≤n∧n<2^bl n∧1≤bl n:=by
  obtain ⟨k,h1,h2,h3⟩:=LZ h
  rw [h1];exact ⟨h2,h3,by omega⟩
theorem floor_ge {n d u v b:Nat} (hd:d≠0) (hn:n≠0) (hb:1≤b) (h:b+bl d+v=bl n+u):2^(b - 1)≤n*2^u/(d*2^v):=by
  obtain ⟨a1,a2,a3⟩:=Fi hn
  obtain ⟨b1,b2,b3⟩:=Fi hd
  rw [Nat.le_div_iff_mul_le (Nat.mul_pos (by omega) (Nat.two_pow_pos v))]
  calc 2^(b - 1)*(d*2^v)≤2^(b - 1)*(2^bl d*2^v):=Nat.mul_le_mul_left _ (Nat.mul_le_mul_right _ (by omega))
    _=2^(bl n - 1)*2^u:=by rw [←Nat.pow_add,←Nat.pow_add,←Nat.pow_add];congr 1;omega
    _≤n*2^u:=Nat.mul_le_mul_right _ a1
theorem bl_mul (n k:Nat):bl (n*2^k)≤bl n+k:=by
  rw [Fe,Nat.pow_add];exact Nat.mul_lt_mul_of_pos_right (Fe.1 (Nat.le_refl _)) (Nat.two_pow_pos k)
theorem NG {n k a:Nat} (h:bl n≤a) (h2:a+k≤1000000):Sm (n*2^k):=by have:=bl_mul n k;unfold Sm;omega
end Go.Proofs.Pq
namespace Go.Proofs.Pq
set_option linter.unusedVariables false
set_option linter.unusedSimpArgs false
set_option maxRecDepth 4000
open Go.Proofs Go.Sb Go.Proofs.Sbn Go.Proofs.Lf
theorem sign (s:Bool) (n:Nat) (e:Int):Bz ⟨⟨s,n⟩,e⟩=some (if n=0 then 0 else if s=true then -1 else 1):=by
 unfold Bz Hh
 simp only [sz0]
 split
 ·rfl
 ·split<;>rfl
theorem quotient (s t:Bool) (n d:Nat) (e f:Int) (b:Nat) (dir:Int) (hn:n≠0) (hd:d≠0) (hb:1≤b) (hb':b≤10000) (hns:bl n≤100000) (hds:bl d≤100000)
  (he : -1000000≤e) (he':e≤1000000) (hf : -1000000≤f) (hf':f≤1000000) :
  ∃u v:Nat,CO ⟨⟨s,n⟩,e⟩ ⟨⟨t,d⟩,f⟩ (b:Int) dir=some (rn (decide (¬s=t)) (n*2^u) (d*2^v) (e - f+v - u) dir)∧
   n*2^u/(d*2^v)<2^b∧2^(b - 1)≤n*2^u/(d*2^v):=by
 obtain ⟨k,hk⟩:∃k:Nat,max 0 (wi64 (wi64 (wi64 ((b:Int)+2)+(bl d:Int)) - (bl n:Int)))=(k:Int):=⟨(max 0 (wi64 (wi64 (wi64 ((b:Int)+2)+(bl d:Int)) - (bl n:Int)))).toNat,by omega⟩
 have hk2:max 0 ((b:Int)+2+(bl d:Int) - (bl n:Int))=(k:Int):=by
  rwa [w64 (x:=(b:Int)+2) (by omega) (by omega),w64 (x:=(b:Int)+2+(bl d:Int)) (by omega) (by omega),w64 (x:=(b:Int)+2+(bl d:Int) - (bl n:Int)) (by omega) (by omega)] at hk
 have hn1:Sm n:=by unfold Sm;omega
 have hd1:Sm d:=by unfold Sm;omega
 have hNs:Sm (n*2^k):=NG hns (by omega)
 obtain ⟨b',hb2⟩:∃b',b' + bl d=bl n+k:=⟨bl n+k - bl d,by omega⟩
 have hg:=floor_ge (b:=b') (u:=k) (v:=0) hd hn (by omega) (by omega)
 rw [Nat.pow_zero,Nat.mul_one] at hg
 have hQs:Sm (n*2^k/d):=Jq (Nat.div_le_self _ _) hNs
 have hbQ:b+2≤bl (n*2^k/d):=by
  refine Nat.le_of_not_lt fun h=>?_
  have h2:=Fe.1 (show bl (n*2^k/d)≤b' - 1 by omega)
  omega
 have hbd:=Fi (n:=n*2^k/d) (by intro h;rw [h,KX] at hbQ;omega)
 have hQn:bl (n*2^k/d)≤1000000:=hQs
 refine ⟨k,bl (n*2^k/d) - b,?_,?_,?_⟩
 ·unfold CO
  rw [sign,sB,if_neg (by rw [if_neg hn];split<;>decide),wBits hd1,sB,wBits hn1,sB]
  simp only [hk]
  rw [wShl hn1 (by omega),sB,wDiv hNs hd1 hd,sB]
  simp only [Mq]
  rw [w64 (x:=e - f) (by omega) (by omega),w64 (x:=e - f - k) (by omega) (by omega)]
  rw [round_st _ _ _ b dir (n*2^k) d hQs (by omega) rfl hb hbQ (by omega) (by omega),sB]
  congr 2
  omega
 ·rw [←Nat.div_div_eq_div_mul,Nat.div_lt_iff_lt_mul (Nat.two_pow_pos _),←Nat.pow_add,show b+(bl (n*2^k/d) - b)=bl (n*2^k/d) by omega]
  exact hbd.2.1
 ·rw [←Nat.div_div_eq_div_mul,Nat.le_div_iff_mul_le (Nat.two_pow_pos _),←Nat.pow_add,show b - 1+(bl (n*2^k/d) - b)=bl (n*2^k/d) - 1 by omega]
  exact hbd.1
theorem same (a b:Nat) (h:Sm a):AM (limbs a) (limbs b)=some (decide (a=b)):=by
 have hs:=h.sz
 have hl:(limbs a).length<4294967296:=by show Sbn.sz a<_;omega
 show Lf.AM _ _=_
 rw [Pi (Ao a) (Ao b) hl]
 simp only [Az]
 congr 1
 apply decide_eq_decide.2
 constructor
 ·exact fun h=>h.2
 ·intro h;subst h;exact ⟨rfl,rfl⟩
theorem PJ (x y:Nat):∀(f a b:Nat),b≤a→bl a+bl b<f→Sm a→CH x y f a b=some (Nat.gcd a b):=by
 intro f
 induction f with
 | zero=>intro a b _ h;omega
 | succ f ih=>
  intro a b hab hf hs
  show (if 0<(Sbn.sz b:Int) then (BV a b).bind fun r=>CH x y f b r.R else some a)=_
  simp only [Mq]
  by_cases hb:b=0
  ·subst hb;rw [if_neg (by simp),Nat.gcd_zero_right]
  ·have hbs:Sm b:=Jq hab hs
   have hm:=Nat.mod_lt a (Nat.pos_of_ne_zero hb)
   rw [if_pos hb,rDiv hs hbs hb,sB,ih b (a%b) (by omega) ?_ hbs]
   ·rw [Nat.gcd_comm b,←Nat.gcd_rec,Nat.gcd_comm]
   ·have h2:2*(a%b)<a:=by
     have h3:=Nat.div_add_mod a b
     have h4:b*1≤b*(a/b):=Nat.mul_le_mul_left _ (Nat.div_pos hab (by omega))
     omega
    obtain ⟨h5,h6,h7⟩:=Fi (n:=a) (by omega)
    have:bl (a%b)≤bl a - 1:=by
     rw [Fe]
     have:2^bl a=2^(bl a - 1)*2:=by rw [←Nat.pow_succ];congr 1;omega
     omega
    omega
theorem gcd (a b:Nat) (ha:bl a≤100000) (hb:bl b≤100000):Hn a b=some (Nat.gcd a b):=by
 have key:CH a b 18446744073709551616 a b=some (Nat.gcd a b):=by
  by_cases h:b≤a
  ·exact PJ a b _ a b h (by omega) (by unfold Sm;omega)
  ·obtain ⟨f,hf⟩:∃f,18446744073709551616=f+1:=⟨_,rfl⟩
   rw [hf]
   show (if 0<(Sbn.sz b:Int) then (BV a b).bind fun r=>CH a b f b r.R else some a)=_
   simp only [Mq]
   rw [if_pos (by omega),rDiv (by unfold Sm;omega) (by unfold Sm;omega) (by omega),sB,Nat.mod_eq_of_lt (by omega)]
   show CH a b f b a=_
   rw [PJ a b f b a (by omega) (by omega) (by unfold Sm;omega),Nat.gcd_comm]
 unfold Hn
 rw [key];rfl
def Cs (s:Bool) (n:Nat):Prop:=n=0→s=false
theorem Cs.and {s:Bool} {n m:Nat} (h:Cs s n) (hm:m=0→n=0):(s && decide (m≠0))=s:=by
 cases s
 ·rfl
 ·have:m≠0:=fun h0=>by have:=h (hm h0);cases this
  simp [this]
end Go.Proofs.Pq
namespace Go.Proofs.Pq
set_option linter.unusedVariables false
set_option linter.unusedSimpArgs false
set_option maxRecDepth 4000
open Go.Proofs Go.Sb Go.Proofs.Sbn Go.Proofs.Lf
theorem bl_div (n k:Nat):bl (n/k)≤bl n:=Fe.2 (Nat.lt_of_le_of_lt (Nat.div_le_self _ _) (Fe.1 (Nat.le_refl _)))
end Go.Proofs.Pq
namespace Go.Proofs.Pq
set_option linter.unusedVariables false
set_option linter.unusedSimpArgs false
set_option maxRecDepth 4000
open Go.Proofs Go.Sb Go.Proofs.Sbn Go.Proofs.Lf
def Z (s:Bool) (n:Nat):Int:=if s=true then -(n:Int) else n
def sv (s:Bool) (n:Nat):Int:=if n=0 then 0 else if s=true then -1 else 1
theorem sign_nz (s:Bool) (n:Nat) (e:Int):Bz (nz s n e)=some (sv s n):=by
 unfold nz
 by_cases h:n=0
 ·rw [if_pos h,sign];unfold sv;rw [if_pos h];rfl
 ·rw [if_neg h,sign]
  obtain ⟨m,h1,_⟩:=Hz h
  have hp:=Nat.two_pow_pos (tz n)
  have:n/2^tz n=2*m+1:=by
   generalize tz n=k at *
   rw [h1,Nat.mul_div_cancel_left _ hp]
  rw [this];unfold sv;rw [if_neg h,if_neg (by omega)]
theorem Mt {n m a c i j:Nat} (h:(a:Int) - c=(i:Int) - j):n*2^a<m*2^c↔n*2^i<m*2^j:=by
 have key:∀ {a c k:Nat},n*2^(a+k)<m*2^(c+k)↔n*2^a<m*2^c:=by
  intro a c k
  rw [Nat.pow_add,Nat.pow_add,←Nat.mul_assoc,←Nat.mul_assoc,Nat.mul_lt_mul_right (Nat.two_pow_pos k)]
 rw [←key (k:=i),←key (a:=i) (c:=j) (k:=a),Nat.add_comm i a,show c+i=j+a by omega]
theorem MX {n m i j:Nat} {e f:Int} (hn:n≠0) (h:e - f=(i:Int) - j) (ht:(bl n:Int)+e<bl m+f) (hm:m≠0):n*2^i<m*2^j:=by
 obtain ⟨a1,a2,a3⟩:=Fi hn
 obtain ⟨b1,b2,b3⟩:=Fi hm
 calc n*2^i<2^bl n*2^i:=Nat.mul_lt_mul_of_pos_right a2 (Nat.two_pow_pos i)
  _=2^(bl n+i):=by rw [Nat.pow_add]
  _≤2^(bl m - 1+j):=Nat.pow_le_pow_right (by decide) (by omega)
  _=2^(bl m - 1)*2^j:=by rw [Nat.pow_add]
  _≤m*2^j:=Nat.mul_le_mul_right _ b1
theorem plus_minus (s:Bool) (n m:Nat) (e f:Int) (hn:n≠0) (hm:m≠0) (hns:bl n≤20000) (hms:bl m≤20000) (hd:e - f≤100000) (hd':f - e≤100000)
  (he : -1000000≤e) (he':e≤1000000) (hf : -1000000≤f) (hf':f≤1000000) (A C:Nat) (hA:A=n*2^(e - min e f).toNat) (hC:C=m*2^(f - min e f).toNat) :
  Gn ⟨⟨s,n⟩,e⟩ ⟨⟨!s,m⟩,f⟩=some (if C≤A then nz s (A - C) (min e f) else nz (!s) (C - A) (min e f)):=by
 obtain ⟨a,ha⟩:∃a:Nat,e - min e f=(a:Int):=⟨(e - min e f).toNat,by omega⟩
 obtain ⟨c,hc⟩:∃c:Nat,f - min e f=(c:Int):=⟨(f - min e f).toNat,by omega⟩
 rw [ha] at hA;rw [hc] at hC
 rw [Int.toNat_natCast] at hA hC
 have hsA:Sm A:=by rw [hA];exact NG hns (by omega)
 have hsC:Sm C:=by rw [hC];exact NG hms (by omega)
 unfold Gn CG
 simp only [sz0,Mq]
 rw [if_neg hn,sB,if_neg hm,sB,if_pos hn,if_pos hm]
 rw [w64 (x:=e - min e f) (by omega) (by omega),w64 (x:=f - min e f) (by omega) (by omega),ha,hc]
 unfold FS
 simp only
 rw [wShl (by unfold Sm;omega) (by omega),sB,sB,sB,wShl (by unfold Sm;omega) (by omega),sB,sB,sB,←hA,←hC]
 unfold Gw HG
 simp only
 rw [if_neg (by cases s<;>decide),wCmp hsA hsC,sB]
 by_cases h:C≤A
 ·have:¬cmpw A C<0:=fun h2=>by have:=Kh.1 h2;omega
  rw [if_pos (by omega),wSub hsA h,sB,sB,normal _ _ _ (Jq (Nat.sub_le _ _) hsA) (by omega) (by omega),if_pos h];rfl
 ·have:cmpw A C<0:=Kh.2 (by omega)
  rw [if_neg (by omega),wSub hsC (by omega),sB,sB,normal _ _ _ (Jq (Nat.sub_le _ _) hsC) (by omega) (by omega),if_neg h];rfl
theorem cmp (s t:Bool) (n m:Nat) (e f:Int) (hns:bl n≤20000) (hms:bl m≤20000)
  (he : -1000000≤e) (he':e≤1000000) (hf : -1000000≤f) (hf':f≤1000000) :
  ∃c,Bq ⟨⟨s,n⟩,e⟩ ⟨⟨t,m⟩,f⟩=some c∧∀i j:Nat,e - f=(i:Int) - j→
   (c<0↔Z s n*(2^i:Nat)<Z t m*(2^j:Nat))∧(0<c↔Z t m*(2^j:Nat)<Z s n*(2^i:Nat)):=by
 have hsv:∀(s:Bool) (n i:Nat),(sv s n=0↔Z s n*(2^i:Nat)=0)∧(sv s n<0↔Z s n*(2^i:Nat)<0)∧(0<sv s n↔0<Z s n*(2^i:Nat))∧sv s n≤1∧-1≤sv s n:=by
  intro s n i
  have hp:=Nat.two_pow_pos i
  unfold sv Z
  by_cases h0:n=0
  ·subst h0;cases s<;>simp
  ·have hnp:0<n*2^i:=Nat.mul_pos (by omega) hp
   have hcast:(n:Int)*(2^i:Nat)=((n*2^i:Nat):Int):=by rw [Int.natCast_mul]
   rw [if_neg h0]
   cases s
   ·rw [if_neg (by decide),if_neg (by decide),hcast];omega
   ·rw [if_pos rfl,if_pos rfl,Int.neg_mul,hcast];omega
 have hcmp:∀(a b:Int),FX a b=some (if a<b then -1 else if b<a then 1 else 0):=by
  intro a b;unfold FX;split<;>(try split)<;>rfl
 have hsg:∀(s:Bool) (n:Nat) (e:Int),Bz ⟨⟨s,n⟩,e⟩=some (sv s n):=fun s n e=>sign s n e
 unfold Bq
 rw [hsg,sB,hsg,sB]
 by_cases h1:sv s n=sv t m
 ·rw [if_neg (by simp [h1]),sB]
  by_cases h2:sv s n=0
  ·rw [if_pos (by simp [h2]),hcmp,sB]
   refine ⟨_,rfl,fun i j hij=>?_⟩
   have:=hsv s n i
   have:=hsv t m j
   rw [if_neg (by omega),if_neg (by omega)]
   omega
  ·rw [if_neg (by simp [h2])]
   have hn0:n≠0:=by intro h;apply h2;unfold sv;rw [if_pos h]
   have hm0:m≠0:=by intro h;apply h2;rw [h1];unfold sv;rw [if_pos h]
   have hst:s=t:=by unfold sv at h1;rw [if_neg hn0,if_neg hm0] at h1;cases s<;>cases t<;>simp_all
   subst hst
   unfold EU
   simp only
   rw [wBits (show Sm n by unfold Sm;omega),sB,sB,wBits (show Sm m by unfold Sm;omega),sB,sB]
   obtain ⟨_,_,b1⟩:=Fi hn0
   obtain ⟨_,_,b2⟩:=Fi hm0
   rw [w64 (x:=(bl n:Int) - 1) (by omega) (by omega),w64 (x:=(bl n:Int) - 1+e) (by omega) (by omega),w64 (x:=(bl m:Int) - 1) (by omega) (by omega),w64 (x:=(bl m:Int) - 1+f) (by omega) (by omega)]
   have hZ:∀(i j:Nat),(Z s n*(2^i:Nat)<Z s m*(2^j:Nat)↔if s=true then m*2^j<n*2^i else n*2^i<m*2^j)∧(Z s m*(2^j:Nat)<Z s n*(2^i:Nat)↔if s=true then n*2^i<m*2^j else m*2^j<n*2^i):=by
    intro i j
    have c1:(n:Int)*(2^i:Nat)=((n*2^i:Nat):Int):=by rw [Int.natCast_mul]
    have c2:(m:Int)*(2^j:Nat)=((m*2^j:Nat):Int):=by rw [Int.natCast_mul]
    unfold Z
    cases s
    ·simp only [Bool.false_eq_true,if_false];rw [c1,c2];omega
    ·simp only [if_true];rw [Int.neg_mul,Int.neg_mul,c1,c2];omega
   have hsvv:sv s n=if s=true then -1 else 1:=by unfold sv;rw [if_neg hn0]
   by_cases h3:(bl n:Int) - 1+e=(bl m:Int) - 1+f
   ·rw [if_neg (by simp [h3])]
    unfold GY GW
    simp only [sB]
    have hnot:(decide (¬s=true)) = !s:=by cases s<;>rfl
    rw [hnot,plus_minus s n m e f hn0 hm0 hns hms (by omega) (by omega) he he' hf hf' _ _ rfl rfl,sB]
    obtain ⟨a,ha⟩:∃a:Nat,(e - min e f).toNat=a:=⟨_,rfl⟩
    obtain ⟨c,hc⟩:∃c:Nat,(f - min e f).toNat=c:=⟨_,rfl⟩
    rw [ha,hc]
    have hx:∀i j:Nat,e - f=(i:Int) - j→((n*2^a<m*2^c↔n*2^i<m*2^j)∧(m*2^c<n*2^a↔m*2^j<n*2^i)):=by
     intro i j hij
     exact ⟨Mt (by omega),Mt (by omega)⟩
    refine ⟨_,by rw [show (if m*2^c≤n*2^a then nz s (n*2^a - m*2^c) (min e f) else nz (!s) (m*2^c - n*2^a) (min e f))=nz (if m*2^c≤n*2^a then s else !s) (if m*2^c≤n*2^a then n*2^a - m*2^c else m*2^c - n*2^a) (min e f) by split<;>rfl,sign_nz,sB],fun i j hij=>?_⟩
    obtain ⟨g1,g2⟩:=hx i j hij
    rw [(hZ i j).1,(hZ i j).2,←g1,←g2]
    generalize n*2^a=A
    generalize m*2^c=C
    unfold sv
    by_cases h4:C≤A
    ·simp only [if_pos h4]
     by_cases h5:A - C=0
     ·rw [if_pos h5];cases s<;>simp<;>omega
     ·rw [if_neg h5];cases s<;>simp<;>omega
    ·simp only [if_neg h4]
     rw [if_neg (by omega)];cases s<;>simp<;>omega
   ·rw [if_pos (by simp [h3]),sB,hcmp,sB]
    refine ⟨_,rfl,fun i j hij=>?_⟩
    rw [(hZ i j).1,(hZ i j).2,hsvv,w64 (by split<;>split<;>(try split)<;>decide) (by split<;>split<;>(try split)<;>decide)]
    by_cases h4:(bl n:Int) - 1+e<(bl m:Int) - 1+f
    ·have:=MX (m:=m) hn0 hij (by omega) hm0
     rw [if_pos h4]
     cases s<;>simp<;>omega
    ·have:=MX (m:=n) (i:=j) (j:=i) hm0 (show f - e=(j:Int) - i by omega) (by omega) hn0
     rw [if_neg h4,if_pos (show (bl m:Int) - 1+f<(bl n:Int) - 1+e by omega)]
     cases s<;>simp<;>omega
 ·rw [if_pos (by simp [h1]),sB,if_pos rfl,hcmp,sB]
  refine ⟨_,rfl,fun i j hij=>?_⟩
  have:=hsv s n i
  have:=hsv t m j
  generalize Z s n*(2^i:Nat)=X at *
  generalize Z t m*(2^j:Nat)=Y at *
  split
  ·omega
  ·split<;>omega
end Go.Proofs.Pq
namespace Go.Proofs.Pq
set_option linter.unusedVariables false
set_option linter.unusedSimpArgs false
set_option maxRecDepth 4000
open Go.Proofs Go.Sb Go.Proofs.Sbn Go.Proofs.Lf
theorem Pn (s:Bool) (n:Nat):Z s n=0↔n=0:=by unfold Z;cases s<;>simp
end Go.Proofs.Pq
namespace Go.Proofs.Pq
set_option linter.unusedVariables false
set_option linter.unusedSimpArgs false
set_option maxRecDepth 4000
open Go.Proofs Go.Sb Go.Proofs.Sbn Go.Proofs.Lf
theorem KD {X Y:Int} {a c i j:Nat} (h:(a:Int) - c=(i:Int) - j):X*(2^a:Nat)≤Y*(2^c:Nat)↔X*(2^i:Nat)≤Y*(2^j:Nat):=by
 have key:∀ {a c k:Nat},X*(2^(a+k):Nat)≤Y*(2^(c+k):Nat)↔X*(2^a:Nat)≤Y*(2^c:Nat):=by
  intro a c k
  have hk:(0:Int)<(2^k:Nat):=by have:=Nat.two_pow_pos k;omega
  rw [Nat.pow_add,Nat.pow_add,Int.natCast_mul,Int.natCast_mul,←Int.mul_assoc,←Int.mul_assoc]
  constructor
  ·intro h;exact Int.le_of_mul_le_mul_right h hk
  ·intro h;exact Int.mul_le_mul_of_nonneg_right h (Int.le_of_lt hk)
 rw [←key (k:=i),←key (a:=i) (c:=j) (k:=a),Nat.add_comm i a,show c+i=j+a by omega]
def LeV (r r':An):Prop:=∀i j:Nat,r.e - r'.e=(i:Int) - j→Z r.m.Neg r.m.Abs*(2^i:Nat)≤Z r'.m.Neg r'.m.Abs*(2^j:Nat)
theorem Mh (s:Bool) (n k:Nat):Z s (n*k)=Z s n*k:=by unfold Z;split<;>simp [Int.natCast_mul,Int.neg_mul]
theorem Z_inj {s t:Bool} {A C:Nat} (hA:0<A) (hC:0<C) (h:Z s A=Z t C):s=t∧A=C:=by
 cases s<;>cases t<;>simp only [Z,if_true,Bool.false_eq_true,if_false] at h
 ·exact ⟨rfl,by omega⟩
 ·omega
 ·omega
 ·exact ⟨rfl,by omega⟩
theorem nz_eq {s t:Bool} {M M':Nat} {e e':Int} (h:LeV (nz s M e) (nz t M' e')) (h':LeV (nz t M' e') (nz s M e)):nz s M e=nz t M' e':=by
 obtain ⟨i,j,hij⟩:∃i j:Nat,(nz s M e).e - (nz t M' e').e=(i:Int) - j:=⟨((nz s M e).e - (nz t M' e').e).toNat,(-((nz s M e).e - (nz t M' e').e)).toNat,by omega⟩
 have hq:=Int.le_antisymm (h i j hij) (h' j i (by omega))
 have hp:=Nat.two_pow_pos
 unfold nz at *
 by_cases h0:M=0<;>by_cases h1:M'=0
 ·rw [if_pos h0,if_pos h1]
 ·exfalso
  rw [if_pos h0,if_neg h1] at hq
  obtain ⟨m,hm,_⟩:=Hz h1
  have:M' / 2^tz M'=2*m+1:=by generalize tz M'=z at *;rw [hm,Nat.mul_div_cancel_left _ (hp z)]
  rw [this] at hq
  simp only at hq
  rw [←Mh,←Mh,Nat.zero_mul,show Z false 0=0 from rfl] at hq
  have h3:=(Pn _ _).1 hq.symm
  rcases Nat.mul_eq_zero.1 h3 with h3 | h3
  ·omega
  ·have:=hp j;omega
 ·exfalso
  rw [if_neg h0,if_pos h1] at hq
  obtain ⟨m,hm,_⟩:=Hz h0
  have:M/2^tz M=2*m+1:=by generalize tz M=z at *;rw [hm,Nat.mul_div_cancel_left _ (hp z)]
  rw [this] at hq
  simp only at hq
  rw [←Mh,←Mh,Nat.zero_mul,show Z false 0=0 from rfl] at hq
  have h3:=(Pn _ _).1 hq
  rcases Nat.mul_eq_zero.1 h3 with h3 | h3
  ·omega
  ·have:=hp i;omega
 ·rw [if_neg h0,if_neg h1] at hq hij ⊢
  simp only at hq hij
  obtain ⟨m,hm,_⟩:=Hz h0
  obtain ⟨m',hm',_⟩:=Hz h1
  have e1:M/2^tz M=2*m+1:=by generalize tz M=z at *;rw [hm,Nat.mul_div_cancel_left _ (hp z)]
  have e2:M' / 2^tz M'=2*m' + 1:=by generalize tz M'=z at *;rw [hm',Nat.mul_div_cancel_left _ (hp z)]
  rw [e1,e2] at hq ⊢
  rw [←Mh,←Mh] at hq
  have hpos1:0<(2*m+1)*2^i:=Nat.mul_pos (by omega) (hp i)
  have hpos2:0<(2*m' + 1)*2^j:=Nat.mul_pos (by omega) (hp j)
  have hst:s=t∧(2*m+1)*2^i=(2*m' + 1)*2^j:=Z_inj hpos1 hpos2 hq
  obtain ⟨rfl,hmm⟩:=hst
  have hi:i=j:=by
   have a1:=Mm (n:=(2*m+1)*2^i) (k:=i) (m:=m) (Nat.mul_comm _ _)
   have a2:=Mm (n:=(2*m' + 1)*2^j) (k:=j) (m:=m') (Nat.mul_comm _ _)
   rw [hmm] at a1;omega
  subst hi
  have:=Nat.eq_of_mul_eq_mul_right (hp i) hmm
  rw [this]
  congr 1
  omega
end Go.Proofs.Pq
