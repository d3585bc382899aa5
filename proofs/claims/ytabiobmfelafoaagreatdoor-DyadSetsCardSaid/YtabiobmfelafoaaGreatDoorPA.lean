import Derived.Test.YtabiobmfelafoaaGreatDoorGenBase
namespace Go.Proofs.Pq
set_option linter.unusedVariables false
set_option linter.unusedSimpArgs false
set_option maxRecDepth 4000
open Go.Proofs Go.Sb Go.Proofs.Sbn Go.Proofs.Lf
def Sm (n:Nat):Prop:=bl n≤1000000
theorem Sm.sz {n:Nat} (h:Sm n):sz n<1073741824:=by
 have h1:Sbn.sz n≤31250:=JN (by unfold Sm at h;omega)
 show Sbn.sz n<_
 omega
theorem NK {n k:Nat} (h:n<2^k) (hk:k≤1000000):Sm n:=Nat.le_trans (ER.2 h) hk
theorem Oc {a b:Nat} (h:a≤b):bl a≤bl b:=ER.2 (Nat.lt_of_le_of_lt h (ER.1 (Nat.le_refl _)))
theorem Lz (a b:Nat):bl (a*b)≤bl a+bl b:=by rw [ER,Nat.pow_add];exact Nat.mul_lt_mul'' (ER.1 (Nat.le_refl _)) (ER.1 (Nat.le_refl _))
theorem PO {a b k:Nat} (ha:bl a≤k) (hb:bl b≤k):bl (a+b)≤k+1:=by
 have h1:=ER.1 ha
 have h2:=ER.1 hb
 rw [ER,Nat.pow_succ];omega
theorem Ig {a b:Nat} (h:a≤b) (hb:Sm b):Sm a:=Nat.le_trans (Oc h) hb
theorem sz0 (n:Nat):((Sbn.sz n:Int)=0)=(n=0):=by
 apply propext;constructor
 ·intro h;exact HV (by have:(limbs n).length=Sbn.sz n:=rfl;omega)
 ·intro h;rw [h];rfl
theorem LN (n:Nat):(0<(Sbn.sz n:Int))=(n≠0):=by
 have:=sz0 n
 apply propext;constructor
 ·intro h h0;rw [h0] at h;exact absurd h (by decide)
 ·intro h;have h2:¬(Sbn.sz n:Int)=0:=by rw [this];exact h
  omega
theorem wZeros {x:Nat} (h:Sm x):Dn x=some (tz x:Int):=by unfold Dn;exact gdB h.sz _
theorem wShr {x k:Nat} (h:Sm x) (hk:k<9223372036854775808):CU x (k:Int)=some (x/2^k):=by
 unfold CU;rw [gdB ⟨h.sz,by omega,by omega⟩];rfl
theorem wShl {x k:Nat} (h:Sm x) (hk:k<34359738368):BP x (k:Int)=some (x*2^k):=by
 unfold BP;rw [gdB ⟨h.sz,by omega,by omega⟩];rfl
theorem wSub {x y:Nat} (h:Sm x) (hy:y≤x):CS x y=some (x - y):=by
 unfold CS;exact gdB ⟨h.sz,(Ig hy h).sz,hy⟩ _
theorem wCmp {x y:Nat} (h:Sm x) (hy:Sm y):CR x y=some (cmpw x y):=by
 unfold CR;exact gdB ⟨h.sz,hy.sz⟩ _
theorem wAdd {x y:Nat} (h:Sm x) (hy:Sm y):Dk x y=some (x+y):=by
 unfold Dk;exact gdB ⟨h.sz,hy.sz⟩ _
theorem wMul {x y:Nat} (h:Sm x) (hy:Sm y):DL x y=some (x*y):=by
 unfold DL;exact gdB ⟨h.sz,hy.sz⟩ _
theorem wDiv {x y:Nat} (h:Sm x) (hy:Sm y) (h0:y≠0):DG x y=some (x/y,x%y):=by
 unfold DG;exact gdB ⟨h.sz,hy.sz,h0⟩ _
theorem wBits {x:Nat} (h:Sm x):BW x=some (bl x:Int):=by unfold BW;exact gdB h.sz _
theorem wClone {x:Nat} (h:Sm x):Dz x=some x:=by unfold Dz;exact gdB h.sz _
theorem rZeros {x:Nat} (h:Sm x):Ce x=some (tz x:Int):=by unfold Ce;exact gdB h.sz _
theorem rShr {x k:Nat} (h:Sm x) (hk:k<9223372036854775808):Cj x (k:Int)=some (x/2^k):=by
 unfold Cj;rw [gdB ⟨h.sz,by omega,by omega⟩];rfl
theorem rShl {x k:Nat} (h:Sm x) (hk:k<34359738368):AU x (k:Int)=some (x*2^k):=by
 unfold AU;rw [gdB ⟨h.sz,by omega,by omega⟩];rfl
theorem rSub {x y:Nat} (h:Sm x) (hy:y≤x):Ci x y=some (x - y):=by
 unfold Ci;exact gdB ⟨h.sz,(Ig hy h).sz,hy⟩ _
theorem rCmp {x y:Nat} (h:Sm x) (hy:Sm y):Bz x y=some (sgnc x y):=by
 unfold Bz;exact gdB ⟨h.sz,hy.sz⟩ _
theorem rAdd {x y:Nat} (h:Sm x) (hy:Sm y):BU x y=some (x+y):=by
 unfold BU;exact gdB ⟨h.sz,hy.sz⟩ _
theorem rMul {x y:Nat} (h:Sm x) (hy:Sm y):CK x y=some (x*y):=by
 unfold CK;exact gdB ⟨h.sz,hy.sz⟩ _
theorem rDiv {x y:Nat} (h:Sm x) (hy:Sm y) (h0:y≠0):Bd x y=some ⟨x/y,x%y⟩:=by
 unfold Bd;exact gdB ⟨h.sz,hy.sz,h0⟩ _
theorem rBits {x:Nat} (h:Sm x):Bn x=some (bl x:Int):=by unfold Bn;exact gdB h.sz _
def nz (s:Bool) (n:Nat) (e:Int):Al:=if n=0 then ⟨⟨false,0⟩,0⟩ else ⟨⟨s,n/2^tz n⟩,e+tz n⟩
def toD (x:Al):Ae:=⟨x.m,x.e⟩
theorem RM {n:Nat} (h:Sm n):tz n≤1000000:=by
 by_cases h0:n=0
 ·subst h0;decide
 ·obtain ⟨m,_,h1⟩:=GQ h0;unfold Sm at h;omega
theorem Mp (n:Nat):∃q,n=q*2^tz n:=by
 by_cases h0:n=0
 ·exact ⟨0,by simp [h0]⟩
 ·obtain ⟨m,h1,_⟩:=GQ h0;exact ⟨2*m+1,by rw [Nat.mul_comm];exact h1⟩
theorem normal (s:Bool) (n:Nat) (e:Int) (h:Sm n) (he : -1000000000000≤e) (he':e≤1000000000000):CX ⟨s,n⟩ e=some (nz s n e):=by
 have hz:=RM h
 unfold CX nz
 simp only [sz0]
 split
 ·rfl
 ·rw [wZeros h,sB,wShr h (by omega),sB,w64 (by omega) (by omega)]
theorem refOf (s:Bool) (n:Nat) (e:Int) (h:Sm n) (he : -1000000000000≤e) (he':e≤1000000000000):EU ⟨s,n⟩ e=some (toD (nz s n e)):=by
 have hz:=RM h
 unfold EU nz toD
 simp only [sz0]
 split
 ·rfl
 ·rw [rZeros h,sB,rShr h (by omega),sB,w64 (by omega) (by omega)]
theorem tz_mul {n k:Nat} (h:n≠0):tz (n*2^k)=tz n+k:=by
 obtain ⟨m,h1,_⟩:=GQ h
 apply PT (m:=m)
 rw [Nat.pow_add,Nat.mul_right_comm,Nat.mul_comm (2^tz n*_),←h1]<;>simp [Nat.mul_comm,Nat.mul_left_comm,Nat.mul_assoc]
theorem nz_shl (s:Bool) (n k:Nat) (e:Int):nz s (n*2^k) (e - k)=nz s n e:=by
 unfold nz
 have hp:0<2^k:=Nat.two_pow_pos k
 by_cases h:n=0
 ·subst h;simp
 ·have h2:n*2^k≠0:=by
   intro h3;rcases Nat.mul_eq_zero.1 h3 with h4 | h4
   ·exact h h4
   ·omega
  rw [if_neg h,if_neg h2,tz_mul h,Nat.pow_add,Nat.mul_div_mul_right _ _ hp]
  congr 1
  omega
theorem nz_shl' (s:Bool) (n k:Nat) (e e':Int) (h:e' + k=e):nz s (n*2^k) e'=nz s n e:=by
 rw [←nz_shl s n k e];congr 1;omega
def up (z:Bool) (h:Int) (o s:Bool) (dir:Int):Bool:=
 if z then false else if dir=1 then (decide (0<h) || (decide (h=0) && o)) else if dir=2 then decide (0≤h) else if dir=4 then !s else if dir=5 then s else false
theorem away (z:Bool) (h:Int) (o s:Bool) (dir:Int):Jl z h o s dir=some (up z h o s dir):=by
 unfold Jl up
 by_cases h1:0<h<;>by_cases h2:h=0<;>by_cases h3:(0:Int)≤h<;>cases z<;>cases o<;>cases s<;>(by_cases d1:dir=1)<;>(by_cases d2:dir=2)<;>(by_cases d4:dir=4)<;>(by_cases d5:dir=5)<;>simp_all<;>first | omega | rfl | (rw [if_neg (by omega),decide_eq_false (by omega)])
def rn (s:Bool) (N D:Nat) (e:Int) (dir:Int):Al:=
 nz s (N/D+if up (decide (N%D=0)) (sgnc (2*(N%D)) D) (decide (N/D%2=1)) s dir=true then 1 else 0) e
theorem Nd {a b c:Nat} (h:0<c):sgnc (a*c) (b*c)=sgnc a b:=by
 unfold sgnc
 simp only [Nat.mul_lt_mul_right h]
theorem NN {s:Bool} {N D N' D':Nat} (e dir:Int) (hD:0<D) (hD':0<D') (h:N*D'=N' * D):rn s N D e dir=rn s N' D' e dir:=by
 have hq:N/D=N' / D':=by
  rw [←Nat.mul_div_mul_right N D hD',h,Nat.mul_comm D D',Nat.mul_div_mul_right _ _ hD]
 have hr:N%D*D'=N' % D' * D:=by
  rw [←Nat.mul_mod_mul_right,h,Nat.mul_comm D D',Nat.mul_mod_mul_right]
 have hz:(N%D=0)=(N' % D'=0):=by
  apply propext;constructor
  ·intro h0;rw [h0,Nat.zero_mul] at hr;rcases Nat.mul_eq_zero.1 hr.symm with h1 | h1
   ·exact h1
   ·omega
  ·intro h0;rw [h0,Nat.zero_mul] at hr;rcases Nat.mul_eq_zero.1 hr with h1 | h1
   ·exact h1
   ·omega
 have hs:sgnc (2*(N%D)) D=sgnc (2*(N' % D')) D':=by
  rw [←Nd hD',←Nd (a:=2*(N' % D')) hD,Nat.mul_assoc,Nat.mul_assoc,hr,Nat.mul_comm D D']
 unfold rn
 rw [hq,hs]
 simp only [hz]
theorem PL {N D N' D' b k:Nat} (hD:0<D) (hD':0<D') (hb:0<b) (h1:N/D<2^b) (h2:2^(b - 1)≤N' / D') (h:N*D'=N' * D*2^(k+1)):False:=by
 have a1:N<2^b*D:=by rwa [Nat.div_lt_iff_lt_mul hD] at h1
 have a2:2^(b - 1)*D'≤N':=by rwa [Nat.le_div_iff_mul_le hD'] at h2
 have a3:2^b=2^(b - 1)*2:=by rw [←Nat.pow_succ];congr 1;omega
 have a4:N*D' < 2^b*D*D':=Nat.mul_lt_mul_of_pos_right a1 hD'
 have a5:2^(b - 1)*D' * D*2≤N' * D*2^(k+1):=by
  apply Nat.mul_le_mul (Nat.mul_le_mul_right _ a2)
  rw [Nat.pow_succ];have:=Nat.two_pow_pos k;omega
 rw [←h] at a5
 rw [a3] at a4
 generalize 2^(b - 1)=P at *
 have:P*2*D*D'=P*D' * D*2:=by
  rw [Nat.mul_right_comm P 2 D,Nat.mul_right_comm (P*D) 2 D',Nat.mul_right_comm P D D']
 omega
theorem rn_eq {s:Bool} {N D N' D' b:Nat} {e e':Int} (dir:Int) (hD:0<D) (hD':0<D') (hb:0<b) (k k':Nat)
  (h1:N/D<2^b) (h2:2^(b - 1)≤N/D) (h1':N' / D' < 2^b) (h2':2^(b - 1)≤N' / D')
  (he:e - k=e' - k') (h:N*D' * 2^k=N' * D*2^k'):rn s N D e dir=rn s N' D' e' dir:=by
 have hE:e=e':=by
  rcases Int.lt_trichotomy e e' with hl | hl | hl
  ·exfalso
   obtain ⟨j,hj⟩:∃j:Nat,k'=k+(j+1):=⟨k' - k - 1,by omega⟩
   rw [hj,Nat.pow_add,Nat.mul_comm (2^k) (2^(j+1)),←Nat.mul_assoc] at h
   exact PL hD hD' hb h1 h2' (Nat.eq_of_mul_eq_mul_right (Nat.two_pow_pos k) h)
  ·exact hl
  ·exfalso
   obtain ⟨j,hj⟩:∃j:Nat,k=k' + (j+1):=⟨k - k' - 1,by omega⟩
   rw [hj,Nat.pow_add,Nat.mul_comm (2^k') (2^(j+1)),←Nat.mul_assoc] at h
   exact PL hD' hD hb h1' h2 (Nat.eq_of_mul_eq_mul_right (Nat.two_pow_pos k') h).symm
 subst hE
 have hk:k=k':=by omega
 subst hk
 exact NN e dir hD hD' (Nat.eq_of_mul_eq_mul_right (Nat.two_pow_pos k) h)
theorem up_congr {z:Bool} {h h':Int} {o s:Bool} {dir:Int} (h1:0<h↔0<h') (h2:h=0↔h'=0):up z h o s dir=up z h' o s dir:=by
 have h3:0≤h↔0≤h':=by omega
 unfold up
 simp only [h1,h2,h3]
theorem nth0 (x:Int) (l:List Int):nth (x::l) 0=some x:=by
 unfold nth;rw [if_pos ⟨by omega,by simp only [List.length_cons];omega⟩];rfl
theorem odd_w (q:Nat):(if 0<(Sbn.sz q:Int) then (nth (limbs q) 0).bind fun u=>some (decide (u%2=1)) else some false)=some (decide (q%2=1)):=by
 simp only [LN]
 by_cases h:q=0
 ·subst h;rfl
 ·rw [if_pos h,FU h,nth0]
  show some (decide (((q%4294967296:Nat):Int)%2=1))=_
  congr 1
  apply decide_eq_decide.2
  omega
theorem odd_r (q:Nat):(if 0<(Sbn.sz q:Int) then (nth (limbs q) 0).bind fun u=>some (decide (u.tmod 2=1)) else some false)=some (decide (q%2=1)):=by
 simp only [LN]
 by_cases h:q=0
 ·subst h;rfl
 ·rw [if_pos h,FU h,nth0]
  show some (decide (((q%4294967296%2:Nat):Int)=1))=_
  congr 1
  apply decide_eq_decide.2
  omega
theorem half_lt {N D n d:Nat} (hD:0<D) (hn:n=N/D) (hd:1≤d) :
  (0<(if cmpw (n%2^d) (2^(d - 1))=0∧N%D≠0 then 1 else cmpw (n%2^d) (2^(d - 1)))↔0<sgnc (2*(N%(D*2^d))) (D*2^d))∧
  ((if cmpw (n%2^d) (2^(d - 1))=0∧N%D≠0 then 1 else cmpw (n%2^d) (2^(d - 1)))=0↔sgnc (2*(N%(D*2^d))) (D*2^d)=0):=by
 have hc1:=@Js (n%2^d) (2^(d - 1))
 have hc2:=@cmpw_pos (n%2^d) (2^(d - 1))
 have hm:N%(D*2^d)=N%D+D*(n%2^d):=by rw [Nat.mod_mul,hn]
 have hp:2^d=2^(d - 1)*2:=by rw [←Nat.pow_succ];congr 1;omega
 have hr:=Nat.mod_lt N hD
 rw [hm]
 rw [show D*2^d=D*2^(d - 1)*2 by rw [hp,Nat.mul_assoc],show 2*(N%D+D*(n%2^d))=(N%D+D*(n%2^d))*2 from Nat.mul_comm _ _,Nd (by omega)]
 generalize cmpw (n%2^d) (2^(d - 1))=c at *
 generalize n%2^d=r at *
 generalize 2^(d - 1)=P at *
 generalize N%D=t at *
 have hlt:r<P→t+D*r<D*P:=by
  intro h
  have:D*(r+1)≤D*P:=Nat.mul_le_mul_left _ h
  rw [Nat.mul_add] at this;omega
 have hgt:P<r→D*P<t+D*r:=by
  intro h
  have:D*(P+1)≤D*r:=Nat.mul_le_mul_left _ h
  rw [Nat.mul_add] at this;omega
 rcases Nat.lt_trichotomy r P with h | h | h
 ·have:=hlt h
  have hs:sgnc (t+D*r) (D*P) = -1:=by unfold sgnc;rw [if_pos this]
  have:c<0:=hc1.2 h
  rw [hs,if_neg (by omega)];omega
 ·subst h
  have hc:c=0:=by have:=hc1.1;have:=hc2.1;omega
  subst hc
  by_cases h0:t=0
  ·subst h0
   have hs:sgnc (0+D*r) (D*r)=0:=by unfold sgnc;rw [if_neg (by omega),if_neg (by omega)]
   rw [hs];simp
  ·have hs:sgnc (t+D*r) (D*r)=1:=by unfold sgnc;rw [if_neg (by omega),if_pos (by omega)]
   rw [hs,if_pos ⟨rfl,h0⟩];omega
 ·have:=hgt h
  have hs:sgnc (t+D*r) (D*P)=1:=by unfold sgnc;rw [if_neg (by omega),if_pos this]
  have:0<c:=hc2.2 h
  rw [hs,if_neg (by omega)];omega
theorem sm1:Sm 1:=by unfold Sm;decide
theorem Ox (s:Bool) (n:Nat) (e:Int) (b:Nat) (dir:Int) (N D:Nat) (hn:Sm n) (hD:0<D) (hN:n=N/D) (hb:1≤b) (hb2:b+2≤bl n)
  (he : -100000000000≤e) (he':e≤100000000000) :
  Bt ⟨⟨s,n⟩,e⟩ (b:Int) dir (decide (N%D≠0))=some (rn s N (D*2^(bl n - b)) (e+((bl n - b:Nat):Int)) dir):=by
 have hbn:bl n≤1000000:=hn
 obtain ⟨d,hd⟩:∃d,d=bl n - b:=⟨_,rfl⟩
 have hw:wi64 ((bl n:Int) - (b:Int))=(d:Int):=w64n (by omega) (by omega)
 have hdd:bl n - b=d:=hd.symm
 have hp:=Nat.two_pow_pos d
 have hq1:n/2^d≤n:=Nat.div_le_self _ _
 have hqs:Sm (n/2^d):=Ig hq1 hn
 have hqq:n/2^d*2^d≤n:=Nat.div_mul_le_self _ _
 have hr:n - n/2^d*2^d=n%2^d:=by have:=Nat.div_add_mod n (2^d);rw [Nat.mul_comm] at this;omega
 have hrs:Sm (n%2^d):=Ig (Nat.mod_le _ _) hn
 have hps:Sm (2^(d - 1)):=NK (k:=d) (Nat.pow_lt_pow_right (by decide) (by omega)) (by omega)
 have hm:N%(D*2^d)=N%D+D*(n%2^d):=by rw [Nat.mod_mul,hN]
 have hz:(decide (N%(D*2^d)=0))=(if n%2^d=0 then decide (¬decide (N%D≠0)=true) else false):=by
  rw [hm]
  by_cases h1:n%2^d=0
  ·simp [h1]
  ·rw [if_neg h1,decide_eq_false]
   have:0<D*(n%2^d):=Nat.mul_pos hD (by omega)
   omega
 have hh:=half_lt hD hN (show 1≤d by omega)
 unfold Bt
 rw [wBits hn,sB]
 simp only [hw]
 rw [if_neg (by omega),sB,if_neg (by decide),if_neg (by omega),sB]
 rw [wShr hn (by omega),sB,wShl hqs (by omega),sB,wSub hn hqq,sB,hr]
 simp only [sz0]
 have e1:(if n%2^d=0 then some (decide (¬decide (N%D≠0)=true)) else some false)=some (decide (N%(D*2^d)=0)):=by
  rw [hz];split<;>rfl
 have e2:wi64 ((d:Int) - 1)=((d - 1:Nat):Int):=w64n (by omega) (by omega)
 rw [e1,sB,e2,wShl sm1 (by omega),sB,Nat.one_mul,wCmp hrs hps,sB]
 have e3:(if cmpw (n%2^d) (2^(d - 1))=0 then some (decide (N%D≠0)) else some false)=some (decide (cmpw (n%2^d) (2^(d - 1))=0∧N%D≠0)):=by
  split<;>simp_all
 rw [e3,sB]
 have e4:(if decide (cmpw (n%2^d) (2^(d - 1))=0∧N%D≠0)=true then some (1:Int) else some (cmpw (n%2^d) (2^(d - 1))))=some (if cmpw (n%2^d) (2^(d - 1))=0∧N%D≠0 then 1 else cmpw (n%2^d) (2^(d - 1))):=by
  simp only [decide_eq_true_eq];split<;>rfl
 rw [e4,sB,odd_w,sB,away,sB,up_congr hh.1 hh.2]
 have e5:wi64 (e+(d:Int))=e+d:=w64 (by omega) (by omega)
 rw [e5]
 have hqe:n/2^d=N/(D*2^d):=by rw [hN,Nat.div_div_eq_div_mul]
 rw [hqe,hdd]
 have hqs2:Sm (n/2^d+1):=by
  apply NK (k:=bl n) _ hbn
  have h1:=ER.1 (Nat.le_refl (bl n))
  have:2^1≤2^d:=Nat.pow_le_pow_right (by decide) (by omega)
  have h0:n/2^d≤n/2:=Nat.div_le_div_left (by omega) (by decide)
  have:n≠0:=by intro h;rw [h] at hb2;rw [HU] at hb2;omega
  omega
 unfold rn
 rw [hqe] at hqs hqs2
 split
 ·rename_i hu
  rw [wAdd hqs sm1,sB,sB,normal _ _ _ hqs2 (by omega) (by omega),sB]
 ·rename_i hu
  rw [sB,normal _ _ _ hqs (by omega) (by omega),sB]
  rfl
theorem rounded (q r den:Nat) (s:Bool) (dir:Int) (hq:Sm q) (hr:Sm r) (hr2:Sm (r+r)) (hd:Sm den) :
    EV q r den s dir=some (q+if up (decide (r=0)) (sgnc (2*r) den) (decide (q%2=1)) s dir=true then 1 else 0):=by
  unfold EV
  simp only [sz0]
  by_cases h0:r=0
  · rw [if_pos h0];unfold up;simp [h0]
  · rw [if_neg h0]
    simp only [rAdd hr hr,rCmp hr2 hd,BT,rAdd hq sm1,sB]
    rw [odd_r]
    rw [show r+r=2*r by omega]
    unfold up
    simp only [decide_eq_false h0]
    generalize sgnc (2*r) den=h
    generalize hgo:decide (q%2=1)=o
    by_cases h1:0<h<;>by_cases h2:h=0<;>by_cases h3:(0:Int)≤h<;>cases o<;>cases s<;>(by_cases d1:dir=1)<;>(by_cases d2:dir=2)<;>(by_cases d4:dir=4)<;>(by_cases d5:dir=5)<;>simp_all [sB]<;>first | omega | rfl | (rw [if_neg (show ¬0<h by omega),if_neg (show ¬0<h by omega)];rfl) | (rw [if_neg (show ¬0<h by omega),if_neg (show ¬0≤h by omega)];rfl)
theorem signed_pos (s:Bool) {m:Nat} (h:m≠0):AM s m=some ⟨s,m⟩:=by
  unfold AM
  simp only [LN]
  cases s
  · rfl
  · rw [if_pos rfl,decide_eq_true h];rfl
theorem part (N D:Nat) (s:Bool) (dir e:Int) (hD:0<D) (hN:Sm N) (hDs:Sm (D+D)) (h1:N/D≠0) (he : -100000000000≤e) (he':e≤100000000000) (hq1:Sm (N/D+1)) :
    Dv (N/D) (N%D) D s dir e=some (toD (rn s N D e dir)):=by
  have hm:=Nat.mod_lt N hD
  unfold Dv
  rw [rounded _ _ _ _ _ (Ig (Nat.div_le_self _ _) hN) (Ig (Nat.mod_le _ _) hN) (Ig (by omega) hDs) (Ig (by omega) hDs),sB,signed_pos,sB,refOf,sB]
  · rfl
  · apply Ig _ hq1;split<;>omega
  · omega
  · omega
  · exact Nat.ne_of_gt (Nat.lt_of_lt_of_le (Nat.pos_of_ne_zero h1) (Nat.le_add_right _ _))
theorem FV {n:Nat} (h:n≠0):2^(bl n - 1)≤n∧n<2^bl n∧1≤bl n:=by
  obtain ⟨k,h1,h2,h3⟩:=No h
  rw [h1];exact ⟨h2,h3,by omega⟩
theorem OI {n d u v b:Nat} (hd:d≠0) (hn:n≠0) (hb:1≤b) (h:b+bl d+v=bl n+u):2^(b - 1)≤n*2^u/(d*2^v):=by
  obtain ⟨a1,a2,a3⟩:=FV hn
  obtain ⟨b1,b2,b3⟩:=FV hd
  rw [Nat.le_div_iff_mul_le (Nat.mul_pos (by omega) (Nat.two_pow_pos v))]
  calc 2^(b - 1)*(d*2^v)≤2^(b - 1)*(2^bl d*2^v):=Nat.mul_le_mul_left _ (Nat.mul_le_mul_right _ (by omega))
    _=2^(bl n - 1)*2^u:=by rw [←Nat.pow_add,←Nat.pow_add,←Nat.pow_add];congr 1;omega
    _≤n*2^u:=Nat.mul_le_mul_right _ a1
theorem floor_lt {n d u v b:Nat} (hd:d≠0) (hn:n≠0) (h:b+bl d+v=bl n+u+1):n*2^u/(d*2^v)<2^b:=by
  obtain ⟨a1,a2,a3⟩:=FV hn
  obtain ⟨b1,b2,b3⟩:=FV hd
  rw [Nat.div_lt_iff_lt_mul (Nat.mul_pos (by omega) (Nat.two_pow_pos v))]
  calc n*2^u<2^bl n*2^u:=Nat.mul_lt_mul_of_pos_right a2 (Nat.two_pow_pos u)
    _=2^b*(2^(bl d - 1)*2^v):=by rw [←Nat.pow_add,←Nat.pow_add,←Nat.pow_add];congr 1;omega
    _≤2^b*(d*2^v):=Nat.mul_le_mul_left _ (Nat.mul_le_mul_right _ b1)
theorem floor_next {n d u v u' v' b:Nat} (hd:d≠0) (h:2^b≤n*2^u/(d*2^v)) (hb:1≤b) (he:u+v'=u' + v+1):2^(b - 1)≤n*2^u' / (d*2^v'):=by
  rw [Nat.le_div_iff_mul_le (Nat.mul_pos (by omega) (Nat.two_pow_pos v))] at h
  rw [Nat.le_div_iff_mul_le (Nat.mul_pos (by omega) (Nat.two_pow_pos v'))]
  have h2:2^(b - 1)*(d*2^v')*2^(v+1)≤n*2^u' * 2^(v+1):=by
    calc 2^(b - 1)*(d*2^v')*2^(v+1)=2^b*(d*2^v)*2^v':=by
          rw [show 2^b=2^(b - 1)*2 by rw [←Nat.pow_succ];congr 1;omega,Nat.pow_succ]
          simp only [Nat.mul_assoc,Nat.mul_comm,Nat.mul_left_comm]
      _≤n*2^u*2^v':=Nat.mul_le_mul_right _ h
      _=n*2^u' * 2^(v+1):=by rw [Nat.mul_assoc,Nat.mul_assoc,←Nat.pow_add,←Nat.pow_add,he,Nat.add_assoc]
  exact Nat.le_of_mul_le_mul_right h2 (Nat.two_pow_pos _)
theorem KP (n k:Nat):bl (n*2^k)≤bl n+k:=by
  rw [ER,Nat.pow_add];exact Nat.mul_lt_mul_of_pos_right (ER.1 (Nat.le_refl _)) (Nat.two_pow_pos k)
theorem KM {n k a:Nat} (h:bl n≤a) (h2:a+k≤1000000):Sm (n*2^k):=by have:=KP n k;unfold Sm;omega
theorem sm_dbl {n:Nat} (h:bl n≤999999):Sm (n+n):=by
  have:=KM (k:=1) h (by omega);rwa [show n*2^1=n+n by omega] at this
theorem fromRat (s:Bool) (n d b:Nat) (dir:Int) (hn:n≠0) (hd:d≠0) (hb:1≤b) (hb':b≤10000) (hns:bl n≤100000) (hds:bl d≤100000) :
    ∃u v:Nat,Cc ⟨⟨s,n⟩,d⟩ (b:Int) dir=some (toD (rn s (n*2^u) (d*2^v) ((v:Int) - u) dir))∧
      n*2^u/(d*2^v)<2^b∧2^(b - 1)≤n*2^u/(d*2^v)∧u≤200000∧v≤200000:=by
  unfold Cc
  simp only [sz0]
  rw [if_neg hn,rBits (by unfold Sm;omega),sB,rBits (by unfold Sm;omega),sB]
  have hb1:(1:Nat)≤2^(b - 1):=Nat.two_pow_pos _
  have key:∀(u v:Nat) (e:Int),u≤200000→v≤200000→e=(v:Int) - u→n*2^u/(d*2^v)<2^b→2^(b - 1)≤n*2^u/(d*2^v)→
      Dv (n*2^u/(d*2^v)) (n*2^u%(d*2^v)) (d*2^v) s dir e=some (toD (rn s (n*2^u) (d*2^v) e dir)):=by
    intro u v e hu hv he h1 h2
    have hp1:bl (d*2^v)≤300000:=by have:=KP d v;omega
    refine part _ _ _ _ _ (Nat.mul_pos (by omega) (Nat.two_pow_pos v)) (KM hns (by omega)) (sm_dbl (by omega)) ?_ (by omega) (by omega) (NK (k:=b+1) ?_ (by omega))
    · omega
    · rw [Nat.pow_succ];omega
  have hw:∀(x:Int),-1000000≤x→x≤1000000→wi64 x=x:=fun x h1 h2=>w64 (by omega) (by omega)
  obtain ⟨u0,hu0⟩:∃u0:Nat,max 0 (wi64 (0 - wi64 (wi64 ((bl n:Int) - (bl d:Int)) - (b:Int))))=(u0:Int):=⟨(max 0 (wi64 (0 - wi64 (wi64 ((bl n:Int) - (bl d:Int)) - (b:Int))))).toNat,by omega⟩
  obtain ⟨v0,hv0⟩:∃v0:Nat,max 0 (wi64 (wi64 ((bl n:Int) - (bl d:Int)) - (b:Int)))=(v0:Int):=⟨(max 0 (wi64 (wi64 ((bl n:Int) - (bl d:Int)) - (b:Int)))).toNat,by omega⟩
  obtain ⟨u1,hu1⟩:∃u1:Nat,max 0 (wi64 (0 - wi64 (wi64 (wi64 ((bl n:Int) - (bl d:Int)) - (b:Int))+1)))=(u1:Int):=⟨(max 0 (wi64 (0 - wi64 (wi64 (wi64 ((bl n:Int) - (bl d:Int)) - (b:Int))+1)))).toNat,by omega⟩
  obtain ⟨v1,hv1⟩:∃v1:Nat,max 0 (wi64 (wi64 (wi64 ((bl n:Int) - (bl d:Int)) - (b:Int))+1))=(v1:Int):=⟨(max 0 (wi64 (wi64 (wi64 ((bl n:Int) - (bl d:Int)) - (b:Int))+1))).toNat,by omega⟩
  rw [hu0,hv0,hu1,hv1]
  rw [hw ((bl n:Int) - (bl d:Int)) (by omega) (by omega),hw ((bl n:Int) - (bl d:Int) - (b:Int)) (by omega) (by omega)] at *
  rw [hw ((bl n:Int) - (bl d:Int) - (b:Int)+1) (by omega) (by omega)] at *
  rw [hw (0 - ((bl n:Int) - (bl d:Int) - (b:Int))) (by omega) (by omega)] at hu0
  rw [hw (0 - ((bl n:Int) - (bl d:Int) - (b:Int)+1)) (by omega) (by omega)] at hu1
  have hg:=OI (b:=b) (u:=u0) (v:=v0) hd hn hb (by omega)
  have hd0:d*2^v0≠0:=by have:=Nat.mul_pos (show 0<d by omega) (Nat.two_pow_pos v0);omega
  have hd1:d*2^v1≠0:=by have:=Nat.mul_pos (show 0<d by omega) (Nat.two_pow_pos v1);omega
  have hN0:Sm (n*2^u0):=KM hns (by omega)
  have hN1:Sm (n*2^u1):=KM hns (by omega)
  rw [rShl (by unfold Sm;omega) (by omega),sB,rShl (by unfold Sm;omega) (by omega),sB,rDiv hN0 (KM hds (by omega)) hd0,sB]
  simp only
  rw [rBits (Ig (Nat.div_le_self _ _) hN0),sB]
  split
  · rename_i h
    refine ⟨u0,v0,?_,?_,hg,by omega,by omega⟩
    · rw [key u0 v0 _ (by omega) (by omega) (by omega) (ER.1 (by omega)) hg,sB]
      congr 3;omega
    · exact ER.1 (by omega)
  · rename_i h
    have hh:2^b≤n*2^u0/(d*2^v0):=by
      refine Nat.le_of_not_lt fun h2=>?_
      have:=ER.2 h2;omega
    have hn2:=floor_next (u':=u1) (v':=v1) hd hh hb (by omega)
    have hl2:=floor_lt (b:=b) (u:=u1) (v:=v1) hd hn (by omega)
    rw [rShl (by unfold Sm;omega) (by omega),sB,rShl (by unfold Sm;omega) (by omega),sB,rDiv hN1 (KM hds (by omega)) hd1,sB]
    simp only
    rw [rBits (Ig (Nat.div_le_self _ _) hN1),sB,if_pos (by have:=ER.2 hl2;omega)]
    refine ⟨u1,v1,?_,hl2,hn2,by omega,by omega⟩
    rw [key u1 v1 _ (by omega) (by omega) (by omega) hl2 hn2,sB]
    congr 3;omega
theorem sign (s:Bool) (n:Nat) (e:Int):Ba ⟨⟨s,n⟩,e⟩=some (if n=0 then 0 else if s=true then -1 else 1):=by
 unfold Ba Ik
 simp only [sz0]
 split
 ·rfl
 ·split<;>rfl
theorem quotient (s t:Bool) (n d:Nat) (e f:Int) (b:Nat) (dir:Int) (hn:n≠0) (hd:d≠0) (hb:1≤b) (hb':b≤10000) (hns:bl n≤100000) (hds:bl d≤100000)
  (he : -1000000≤e) (he':e≤1000000) (hf : -1000000≤f) (hf':f≤1000000) :
  ∃u v:Nat,Cx ⟨⟨s,n⟩,e⟩ ⟨⟨t,d⟩,f⟩ (b:Int) dir=some (rn (decide (¬s=t)) (n*2^u) (d*2^v) (e - f+v - u) dir)∧
   n*2^u/(d*2^v)<2^b∧2^(b - 1)≤n*2^u/(d*2^v):=by
 obtain ⟨k,hk⟩:∃k:Nat,max 0 (wi64 (wi64 (wi64 ((b:Int)+2)+(bl d:Int)) - (bl n:Int)))=(k:Int):=⟨(max 0 (wi64 (wi64 (wi64 ((b:Int)+2)+(bl d:Int)) - (bl n:Int)))).toNat,by omega⟩
 have hk2:max 0 ((b:Int)+2+(bl d:Int) - (bl n:Int))=(k:Int):=by
  rwa [w64 (x:=(b:Int)+2) (by omega) (by omega),w64 (x:=(b:Int)+2+(bl d:Int)) (by omega) (by omega),w64 (x:=(b:Int)+2+(bl d:Int) - (bl n:Int)) (by omega) (by omega)] at hk
 have hn1:Sm n:=by unfold Sm;omega
 have hd1:Sm d:=by unfold Sm;omega
 have hNs:Sm (n*2^k):=KM hns (by omega)
 obtain ⟨b',hb2⟩:∃b',b' + bl d=bl n+k:=⟨bl n+k - bl d,by omega⟩
 have hg:=OI (b:=b') (u:=k) (v:=0) hd hn (by omega) (by omega)
 rw [Nat.pow_zero,Nat.mul_one] at hg
 have hQs:Sm (n*2^k/d):=Ig (Nat.div_le_self _ _) hNs
 have hbQ:b+2≤bl (n*2^k/d):=by
  refine Nat.le_of_not_lt fun h=>?_
  have h2:=ER.1 (show bl (n*2^k/d)≤b' - 1 by omega)
  omega
 have hbd:=FV (n:=n*2^k/d) (by intro h;rw [h,HU] at hbQ;omega)
 have hQn:bl (n*2^k/d)≤1000000:=hQs
 refine ⟨k,bl (n*2^k/d) - b,?_,?_,?_⟩
 ·unfold Cx
  rw [sign,sB,if_neg (by rw [if_neg hn];split<;>decide),wBits hd1,sB,wBits hn1,sB]
  simp only [hk]
  rw [wShl hn1 (by omega),sB,wDiv hNs hd1 hd,sB]
  simp only [LN]
  rw [w64 (x:=e - f) (by omega) (by omega),w64 (x:=e - f - k) (by omega) (by omega)]
  rw [Ox _ _ _ b dir (n*2^k) d hQs (by omega) rfl hb hbQ (by omega) (by omega),sB]
  congr 2
  omega
 ·rw [←Nat.div_div_eq_div_mul,Nat.div_lt_iff_lt_mul (Nat.two_pow_pos _),←Nat.pow_add,show b+(bl (n*2^k/d) - b)=bl (n*2^k/d) by omega]
  exact hbd.2.1
 ·rw [←Nat.div_div_eq_div_mul,Nat.le_div_iff_mul_le (Nat.two_pow_pos _),←Nat.pow_add,show b - 1+(bl (n*2^k/d) - b)=bl (n*2^k/d) - 1 by omega]
  exact hbd.1
theorem same (a b:Nat) (h:Sm a):Bm (limbs a) (limbs b)=some (decide (a=b)):=by
 have hs:=h.sz
 have hl:(limbs a).length<4294967296:=by show Sbn.sz a<_;omega
 show Lf.Bm _ _=_
 rw [RS (Ap a) (Ap b) hl]
 simp only [Ax]
 congr 1
 apply decide_eq_decide.2
 constructor
 ·exact fun h=>h.2
 ·intro h;subst h;exact ⟨rfl,rfl⟩
theorem RQ (x y:Nat):∀(f a b:Nat),b≤a→bl a+bl b<f→Sm a→CG x y f a b=some (Nat.gcd a b):=by
 intro f
 induction f with
 | zero=>intro a b _ h;omega
 | succ f ih=>
  intro a b hab hf hs
  show (if 0<(Sbn.sz b:Int) then (Bd a b).bind fun r=>CG x y f b r.R else some a)=_
  simp only [LN]
  by_cases hb:b=0
  ·subst hb;rw [if_neg (by simp),Nat.gcd_zero_right]
  ·have hbs:Sm b:=Ig hab hs
   have hm:=Nat.mod_lt a (Nat.pos_of_ne_zero hb)
   rw [if_pos hb,rDiv hs hbs hb,sB,ih b (a%b) (by omega) ?_ hbs]
   ·rw [Nat.gcd_comm b,←Nat.gcd_rec,Nat.gcd_comm]
   ·have h2:2*(a%b)<a:=by
     have h3:=Nat.div_add_mod a b
     have h4:b*1≤b*(a/b):=Nat.mul_le_mul_left _ (Nat.div_pos hab (by omega))
     omega
    obtain ⟨h5,h6,h7⟩:=FV (n:=a) (by omega)
    have:bl (a%b)≤bl a - 1:=by
     rw [ER]
     have:2^bl a=2^(bl a - 1)*2:=by rw [←Nat.pow_succ];congr 1;omega
     omega
    omega
theorem gcd (a b:Nat) (ha:bl a≤100000) (hb:bl b≤100000):Fw a b=some (Nat.gcd a b):=by
 have key:CG a b 18446744073709551616 a b=some (Nat.gcd a b):=by
  by_cases h:b≤a
  ·exact RQ a b _ a b h (by omega) (by unfold Sm;omega)
  ·obtain ⟨f,hf⟩:∃f,18446744073709551616=f+1:=⟨_,rfl⟩
   rw [hf]
   show (if 0<(Sbn.sz b:Int) then (Bd a b).bind fun r=>CG a b f b r.R else some a)=_
   simp only [LN]
   rw [if_pos (by omega),rDiv (by unfold Sm;omega) (by unfold Sm;omega) (by omega),sB,Nat.mod_eq_of_lt (by omega)]
   show CG a b f b a=_
   rw [RQ a b f b a (by omega) (by omega) (by unfold Sm;omega),Nat.gcd_comm]
 unfold Fw
 rw [key];rfl
theorem signed (s:Bool) (m:Nat):AM s m=some ⟨s && decide (m≠0),m⟩:=by
 unfold AM
 simp only [LN]
 cases s<;>rfl
def Cs (s:Bool) (n:Nat):Prop:=n=0→s=false
theorem Cs.and {s:Bool} {n m:Nat} (h:Cs s n) (hm:m=0→n=0):(s && decide (m≠0))=s:=by
 cases s
 ·rfl
 ·have:m≠0:=fun h0=>by have:=h (hm h0);cases this
  simp [this]
theorem Ld (n k:Nat):bl (n/k)≤bl n:=ER.2 (Nat.lt_of_le_of_lt (Nat.div_le_self _ _) (ER.1 (Nat.le_refl _)))
def IsR (b:Nat) (dir:Int) (s:Bool) (n d:Nat) (r:Al):Prop:=
 (n=0∧r=⟨⟨false,0⟩,0⟩)∨(n≠0∧∃u v:Nat,r=rn s (n*2^u) (d*2^v) ((v:Int) - u) dir∧n*2^u/(d*2^v)<2^b∧2^(b - 1)≤n*2^u/(d*2^v)∧u≤200000∧v≤200000)
theorem Pw (s t:Bool) (n d n' d' i j:Nat) (e f:Int) (b:Nat) (dir:Int) (sg:Bool) (hsg:sg=(decide (¬s=t) && decide (n≠0))) (hd:d≠0) (hb:1≤b) (hb':b≤10000) (hn:bl n≤20000) (hds:bl d≤20000)
  (he : -5000≤e) (he':e≤5000) (hf : -5000≤f) (hf':f≤5000) (hd':d'≠0) (hn':n'=0↔n=0)
  (hij:e - f=(i:Int) - j) (h:n' * d*2^j=n*d' * 2^i) (hbn:bl n'≤30000) (hbd:bl d'≤30000) :
  ∃r,Cx ⟨⟨s,n⟩,e⟩ ⟨⟨t,d⟩,f⟩ (b:Int) dir=some r∧Cc ⟨⟨sg,n'⟩,d'⟩ (b:Int) dir=some (toD r)∧IsR b dir sg n' d' r:=by
 by_cases h0:n=0
 ·have h0':=hn'.2 h0
  subst h0 h0'
  refine ⟨⟨⟨false,0⟩,0⟩,?_,?_,Or.inl ⟨rfl,rfl⟩⟩
  ·unfold Cx;rw [sign,sB];rfl
  ·unfold Cc;rfl
 ·have h0':n'≠0:=fun h=>h0 (hn'.1 h)
  obtain ⟨u,v,hp,h1,h2⟩:=quotient s t n d e f b dir h0 hd hb hb' (by omega) (by omega) (by omega) (by omega) (by omega) (by omega)
  obtain ⟨u',v',hp',h1',h2',hu',hv'⟩:=fromRat sg n' d' b dir h0' hd' hb hb' (by omega) (by omega)
  have hs:sg=decide (¬s=t):=by rw [hsg];simp [h0]
  have key:rn sg (n' * 2^u') (d' * 2^v') ((v':Int) - u') dir=rn (decide (¬s=t)) (n*2^u) (d*2^v) (e - f+v - u) dir:=?_
  ·exact ⟨_,hp,by rw [hp',key],Or.inr ⟨h0',u',v',key.symm,h1',h2',hu',hv'⟩⟩
  rw [hs]
  refine (rn_eq dir (Nat.mul_pos (by omega) (Nat.two_pow_pos _)) (Nat.mul_pos (by omega) (Nat.two_pow_pos _)) hb (i+u' + v) (j+u+v') h1 h2 h1' h2' (by omega) ?_).symm
  simp only [Nat.pow_add]
  generalize 2^i=I at *
  generalize 2^j=J at *
  generalize 2^u=U at *
  generalize 2^v=V at *
  generalize 2^u'=U' at *
  generalize 2^v'=V' at *
  calc n*U*(d' * V')*(I*U' * V)=n*d' * I*(U*V' * U' * V):=by simp only [Nat.mul_assoc,Nat.mul_comm,Nat.mul_left_comm]
   _=n' * d*J*(U*V' * U' * V):=by rw [h]
   _=n' * U' * (d*V)*(J*U*V'):=by simp only [Nat.mul_assoc,Nat.mul_comm,Nat.mul_left_comm]
def Z (s:Bool) (n:Nat):Int:=if s=true then -(n:Int) else n
def sv (s:Bool) (n:Nat):Int:=if n=0 then 0 else if s=true then -1 else 1
theorem PR (s:Bool) (n:Nat) (e:Int):Ba (nz s n e)=some (sv s n):=by
 unfold nz
 by_cases h:n=0
 ·rw [if_pos h,sign];unfold sv;rw [if_pos h];rfl
 ·rw [if_neg h,sign]
  obtain ⟨m,h1,_⟩:=GQ h
  have hp:=Nat.two_pow_pos (tz n)
  have:n/2^tz n=2*m+1:=by
   generalize tz n=k at *
   rw [h1,Nat.mul_div_cancel_left _ hp]
  rw [this];unfold sv;rw [if_neg h,if_neg (by omega)]
theorem NJ {n m a c i j:Nat} (h:(a:Int) - c=(i:Int) - j):n*2^a<m*2^c↔n*2^i<m*2^j:=by
 have key:∀ {a c k:Nat},n*2^(a+k)<m*2^(c+k)↔n*2^a<m*2^c:=by
  intro a c k
  rw [Nat.pow_add,Nat.pow_add,←Nat.mul_assoc,←Nat.mul_assoc,Nat.mul_lt_mul_right (Nat.two_pow_pos k)]
 rw [←key (k:=i),←key (a:=i) (c:=j) (k:=a),Nat.add_comm i a,show c+i=j+a by omega]
theorem OL {n m i j:Nat} {e f:Int} (hn:n≠0) (h:e - f=(i:Int) - j) (ht:(bl n:Int)+e<bl m+f) (hm:m≠0):n*2^i<m*2^j:=by
 obtain ⟨a1,a2,a3⟩:=FV hn
 obtain ⟨b1,b2,b3⟩:=FV hm
 calc n*2^i<2^bl n*2^i:=Nat.mul_lt_mul_of_pos_right a2 (Nat.two_pow_pos i)
  _=2^(bl n+i):=by rw [Nat.pow_add]
  _≤2^(bl m - 1+j):=Nat.pow_le_pow_right (by decide) (by omega)
  _=2^(bl m - 1)*2^j:=by rw [Nat.pow_add]
  _≤m*2^j:=Nat.mul_le_mul_right _ b1
theorem plus_minus (s:Bool) (n m:Nat) (e f:Int) (hn:n≠0) (hm:m≠0) (hns:bl n≤20000) (hms:bl m≤20000) (hd:e - f≤100000) (hd':f - e≤100000)
  (he : -1000000≤e) (he':e≤1000000) (hf : -1000000≤f) (hf':f≤1000000) (A C:Nat) (hA:A=n*2^(e - min e f).toNat) (hC:C=m*2^(f - min e f).toNat) :
  CA ⟨⟨s,n⟩,e⟩ ⟨⟨!s,m⟩,f⟩=some (if C≤A then nz s (A - C) (min e f) else nz (!s) (C - A) (min e f)):=by
 obtain ⟨a,ha⟩:∃a:Nat,e - min e f=(a:Int):=⟨(e - min e f).toNat,by omega⟩
 obtain ⟨c,hc⟩:∃c:Nat,f - min e f=(c:Int):=⟨(f - min e f).toNat,by omega⟩
 rw [ha] at hA;rw [hc] at hC
 rw [Int.toNat_natCast] at hA hC
 have hsA:Sm A:=by rw [hA];exact KM hns (by omega)
 have hsC:Sm C:=by rw [hC];exact KM hms (by omega)
 unfold CA BC
 simp only [sz0,LN]
 rw [if_neg hn,sB,if_neg hm,sB,if_pos hn,if_pos hm]
 rw [w64 (x:=e - min e f) (by omega) (by omega),w64 (x:=f - min e f) (by omega) (by omega),ha,hc]
 unfold Eo
 simp only
 rw [wShl (by unfold Sm;omega) (by omega),sB,sB,sB,wShl (by unfold Sm;omega) (by omega),sB,sB,sB,←hA,←hC]
 unfold Ei FN
 simp only
 rw [if_neg (by cases s<;>decide),wCmp hsA hsC,sB]
 by_cases h:C≤A
 ·have:¬cmpw A C<0:=fun h2=>by have:=Js.1 h2;omega
  rw [if_pos (by omega),wSub hsA h,sB,sB,normal _ _ _ (Ig (Nat.sub_le _ _) hsA) (by omega) (by omega),if_pos h];rfl
 ·have:cmpw A C<0:=Js.2 (by omega)
  rw [if_neg (by omega),wSub hsC (by omega),sB,sB,normal _ _ _ (Ig (Nat.sub_le _ _) hsC) (by omega) (by omega),if_neg h];rfl
theorem cmp (s t:Bool) (n m:Nat) (e f:Int) (hns:bl n≤20000) (hms:bl m≤20000)
  (he : -1000000≤e) (he':e≤1000000) (hf : -1000000≤f) (hf':f≤1000000) :
  ∃c,AI ⟨⟨s,n⟩,e⟩ ⟨⟨t,m⟩,f⟩=some c∧∀i j:Nat,e - f=(i:Int) - j→
   (c<0↔Z s n*(2^i:Nat)<Z t m*(2^j:Nat))∧(0<c↔Z t m*(2^j:Nat)<Z s n*(2^i:Nat)):=by
 have hsv:∀(s:Bool) (n i:Nat),(sv s n=0↔Z s n*(2^i:Nat)=0)∧(sv s n<0↔Z s n*(2^i:Nat)<0)∧(0<sv s n↔0<Z s n*(2^i:Nat))∧sv s n≤1∧-1≤sv s n:=by
  intro s n i
  have hp:=Nat.two_pow_pos i
  unfold sv Z
  by_cases h0:n=0
  ·subst h0;cases s<;>simp
  ·have hnp:0<n*2^i:=Nat.mul_pos (by omega) hp
   have hcast:(n:Int)*(2^i:Nat)=((n*2^i:Nat):Int):=by rw [Int.natCast_mul]
   rw [if_neg h0]
   cases s
   ·rw [if_neg (by decide),if_neg (by decide),hcast];omega
   ·rw [if_pos rfl,if_pos rfl,Int.neg_mul,hcast];omega
 have hcmp:∀(a b:Int),FP a b=some (if a<b then -1 else if b<a then 1 else 0):=by
  intro a b;unfold FP;split<;>(try split)<;>rfl
 have hsg:∀(s:Bool) (n:Nat) (e:Int),Ba ⟨⟨s,n⟩,e⟩=some (sv s n):=fun s n e=>sign s n e
 unfold AI
 rw [hsg,sB,hsg,sB]
 by_cases h1:sv s n=sv t m
 ·rw [if_neg (by simp [h1]),sB]
  by_cases h2:sv s n=0
  ·rw [if_pos (by simp [h2]),hcmp,sB]
   refine ⟨_,rfl,fun i j hij=>?_⟩
   have:=hsv s n i
   have:=hsv t m j
   rw [if_neg (by omega),if_neg (by omega)]
   omega
  ·rw [if_neg (by simp [h2])]
   have hn0:n≠0:=by intro h;apply h2;unfold sv;rw [if_pos h]
   have hm0:m≠0:=by intro h;apply h2;rw [h1];unfold sv;rw [if_pos h]
   have hst:s=t:=by unfold sv at h1;rw [if_neg hn0,if_neg hm0] at h1;cases s<;>cases t<;>simp_all
   subst hst
   unfold FK
   simp only
   rw [wBits (show Sm n by unfold Sm;omega),sB,sB,wBits (show Sm m by unfold Sm;omega),sB,sB]
   obtain ⟨_,_,b1⟩:=FV hn0
   obtain ⟨_,_,b2⟩:=FV hm0
   rw [w64 (x:=(bl n:Int) - 1) (by omega) (by omega),w64 (x:=(bl n:Int) - 1+e) (by omega) (by omega),w64 (x:=(bl m:Int) - 1) (by omega) (by omega),w64 (x:=(bl m:Int) - 1+f) (by omega) (by omega)]
   have hZ:∀(i j:Nat),(Z s n*(2^i:Nat)<Z s m*(2^j:Nat)↔if s=true then m*2^j<n*2^i else n*2^i<m*2^j)∧(Z s m*(2^j:Nat)<Z s n*(2^i:Nat)↔if s=true then n*2^i<m*2^j else m*2^j<n*2^i):=by
    intro i j
    have c1:(n:Int)*(2^i:Nat)=((n*2^i:Nat):Int):=by rw [Int.natCast_mul]
    have c2:(m:Int)*(2^j:Nat)=((m*2^j:Nat):Int):=by rw [Int.natCast_mul]
    unfold Z
    cases s
    ·simp only [Bool.false_eq_true,if_false];rw [c1,c2];omega
    ·simp only [if_true];rw [Int.neg_mul,Int.neg_mul,c1,c2];omega
   have hsvv:sv s n=if s=true then -1 else 1:=by unfold sv;rw [if_neg hn0]
   by_cases h3:(bl n:Int) - 1+e=(bl m:Int) - 1+f
   ·rw [if_neg (by simp [h3])]
    unfold Fs GR
    simp only [sB]
    have hnot:(decide (¬s=true)) = !s:=by cases s<;>rfl
    rw [hnot,plus_minus s n m e f hn0 hm0 hns hms (by omega) (by omega) he he' hf hf' _ _ rfl rfl,sB]
    obtain ⟨a,ha⟩:∃a:Nat,(e - min e f).toNat=a:=⟨_,rfl⟩
    obtain ⟨c,hc⟩:∃c:Nat,(f - min e f).toNat=c:=⟨_,rfl⟩
    rw [ha,hc]
    have hx:∀i j:Nat,e - f=(i:Int) - j→((n*2^a<m*2^c↔n*2^i<m*2^j)∧(m*2^c<n*2^a↔m*2^j<n*2^i)):=by
     intro i j hij
     exact ⟨NJ (by omega),NJ (by omega)⟩
    refine ⟨_,by rw [show (if m*2^c≤n*2^a then nz s (n*2^a - m*2^c) (min e f) else nz (!s) (m*2^c - n*2^a) (min e f))=nz (if m*2^c≤n*2^a then s else !s) (if m*2^c≤n*2^a then n*2^a - m*2^c else m*2^c - n*2^a) (min e f) by split<;>rfl,PR,sB],fun i j hij=>?_⟩
    obtain ⟨g1,g2⟩:=hx i j hij
    rw [(hZ i j).1,(hZ i j).2,←g1,←g2]
    generalize n*2^a=A
    generalize m*2^c=C
    unfold sv
    by_cases h4:C≤A
    ·simp only [if_pos h4]
     by_cases h5:A - C=0
     ·rw [if_pos h5];cases s<;>simp<;>omega
     ·rw [if_neg h5];cases s<;>simp<;>omega
    ·simp only [if_neg h4]
     rw [if_neg (by omega)];cases s<;>simp<;>omega
   ·rw [if_pos (by simp [h3]),sB,hcmp,sB]
    refine ⟨_,rfl,fun i j hij=>?_⟩
    rw [(hZ i j).1,(hZ i j).2,hsvv,w64 (by split<;>split<;>(try split)<;>decide) (by split<;>split<;>(try split)<;>decide)]
    by_cases h4:(bl n:Int) - 1+e<(bl m:Int) - 1+f
    ·have:=OL (m:=m) hn0 hij (by omega) hm0
     rw [if_pos h4]
     cases s<;>simp<;>omega
    ·have:=OL (m:=n) (i:=j) (j:=i) hm0 (show f - e=(j:Int) - i by omega) (by omega) hn0
     rw [if_neg h4,if_pos (show (bl m:Int) - 1+f<(bl n:Int) - 1+e by omega)]
     cases s<;>simp<;>omega
 ·rw [if_pos (by simp [h1]),sB,if_pos rfl,hcmp,sB]
  refine ⟨_,rfl,fun i j hij=>?_⟩
  have:=hsv s n i
  have:=hsv t m j
  generalize Z s n*(2^i:Nat)=X at *
  generalize Z t m*(2^j:Nat)=Y at *
  split
  ·omega
  ·split<;>omega
theorem Ot (s:Bool) (n c:Nat) (hn:Sm n) (hc:Sm c):Em ⟨s,n⟩ ⟨false,c⟩=some ⟨s && decide (n*c≠0),n*c⟩:=by
 unfold Em
 simp only
 rw [rMul hn hc,sB,signed,sB]
 cases s<;>rfl
theorem refCmp (s t:Bool) (n d m c:Nat) (hn:bl n≤30000) (hd:bl d≤30000) (hm:bl m≤30000) (hc:bl c≤30000) :
  ∃k,CE ⟨⟨s,n⟩,d⟩ ⟨⟨t,m⟩,c⟩=some k∧(k<0↔Z s n*c<Z t m*d)∧(0<k↔Z t m*d<Z s n*c):=by
 have hmul:∀ {a b:Nat},bl a≤30000→bl b≤30000→Sm (a*b):=by
  intro a b ha hb
  have:=Lz a b
  unfold Sm;omega
 unfold CE
 simp only
 rw [signed,sB]
 simp only [Bool.false_and]
 rw [Ot s n c (by unfold Sm;omega) (by unfold Sm;omega),sB,signed,sB]
 simp only [Bool.false_and]
 rw [Ot t m d (by unfold Sm;omega) (by unfold Sm;omega),sB]
 have h1:=hmul hn hc
 have h2:=hmul hm hd
 have c1:Z s n*c=Z s (n*c):=by unfold Z;split<;>simp [Int.natCast_mul,Int.neg_mul]
 have c2:Z t m*d=Z t (m*d):=by unfold Z;split<;>simp [Int.natCast_mul,Int.neg_mul]
 rw [c1,c2]
 generalize n*c=A at *
 generalize m*d=C at *
 unfold Fp
 simp only
 rw [rCmp h1 h2,sB,sB]
 have hs : -1≤sgnc A C∧sgnc A C≤1∧(sgnc A C<0↔A<C)∧(0<sgnc A C↔C<A):=by unfold sgnc;split<;>(try split)<;>omega
 by_cases hA:A=0<;>by_cases hC:C=0<;>cases s<;>cases t<;>simp [hA,hC,Z,sB]<;>(try (rw [w64 (by omega) (by omega)]))<;>(try simp [hA,hC] at hs)<;>(try omega)<;>(try (refine ⟨_,rfl,?_⟩))<;>omega
theorem JV {X Y:Int} {a c i j:Nat} (h:(a:Int) - c=(i:Int) - j):X*(2^a:Nat)≤Y*(2^c:Nat)↔X*(2^i:Nat)≤Y*(2^j:Nat):=by
 have key:∀ {a c k:Nat},X*(2^(a+k):Nat)≤Y*(2^(c+k):Nat)↔X*(2^a:Nat)≤Y*(2^c:Nat):=by
  intro a c k
  have hk:(0:Int)<(2^k:Nat):=by have:=Nat.two_pow_pos k;omega
  rw [Nat.pow_add,Nat.pow_add,Int.natCast_mul,Int.natCast_mul,←Int.mul_assoc,←Int.mul_assoc]
  constructor
  ·intro h;exact Int.le_of_mul_le_mul_right h hk
  ·intro h;exact Int.mul_le_mul_of_nonneg_right h (Int.le_of_lt hk)
 rw [←key (k:=i),←key (a:=i) (c:=j) (k:=a),Nat.add_comm i a,show c+i=j+a by omega]
def LeV (r r':Al):Prop:=∀i j:Nat,r.e - r'.e=(i:Int) - j→Z r.m.Neg r.m.Abs*(2^i:Nat)≤Z r'.m.Neg r'.m.Abs*(2^j:Nat)
theorem QU (s:Bool) (n k:Nat):Z s (n*k)=Z s n*k:=by unfold Z;split<;>simp [Int.natCast_mul,Int.neg_mul]
end Go.Proofs.Pq
