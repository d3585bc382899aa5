import Derived.Test.YtabiobmfelafoaaGreatDoorGenBase
namespace Go.Proofs.Pq
set_option linter.unusedVariables false
set_option linter.unusedSimpArgs false
set_option maxRecDepth 4000
open Go.Proofs Go.Sb Go.Proofs.Sbn Go.Proofs.Lf
def Sm (n:Nat):Prop:=bl n≤1000000
theorem Sm.sz {n:Nat} (h:Sm n):sz n<1073741824:=by
 have h1:Sbn.sz n≤31250:=EF (by unfold Sm at h;omega)
 show Sbn.sz n<_
 omega
theorem QE {n k:Nat} (h:n<2^k) (hk:k≤1000000):Sm n:=Nat.le_trans (Eb.2 h) hk
theorem KE {a b:Nat} (h:a≤b):bl a≤bl b:=Eb.2 (Nat.lt_of_le_of_lt h (Eb.1 (Nat.le_refl _)))
theorem MT (a b:Nat):bl (a*b)≤bl a+bl b:=by rw [Eb,Nat.pow_add];exact Nat.mul_lt_mul'' (Eb.1 (Nat.le_refl _)) (Eb.1 (Nat.le_refl _))
theorem NL {a b k:Nat} (ha:bl a≤k) (hb:bl b≤k):bl (a+b)≤k+1:=by
 have h1:=Eb.1 ha
 have h2:=Eb.1 hb
 rw [Eb,Nat.pow_succ];omega
theorem Im {a b:Nat} (h:a≤b) (hb:Sm b):Sm a:=Nat.le_trans (KE h) hb
theorem sz0 (n:Nat):((Sbn.sz n:Int)=0)=(n=0):=by
 apply propext;constructor
 ·intro h;exact GS (by have:(limbs n).length=Sbn.sz n:=rfl;omega)
 ·intro h;rw [h];rfl
theorem Mt (n:Nat):(0<(Sbn.sz n:Int))=(n≠0):=by
 have:=sz0 n
 apply propext;constructor
 ·intro h h0;rw [h0] at h;exact absurd h (by decide)
 ·intro h;have h2:¬(Sbn.sz n:Int)=0:=by rw [this];exact h
  omega
theorem wZeros {x:Nat} (h:Sm x):CS x=some (tz x:Int):=by unfold CS;exact gdB h.sz _
theorem wShr {x k:Nat} (h:Sm x) (hk:k<9223372036854775808):Ct x (k:Int)=some (x/2^k):=by
 unfold Ct;rw [gdB ⟨h.sz,by omega,by omega⟩];rfl
theorem wShl {x k:Nat} (h:Sm x) (hk:k<34359738368):Bq x (k:Int)=some (x*2^k):=by
 unfold Bq;rw [gdB ⟨h.sz,by omega,by omega⟩];rfl
theorem wSub {x y:Nat} (h:Sm x) (hy:y≤x):Ch x y=some (x - y):=by
 unfold Ch;exact gdB ⟨h.sz,(Im hy h).sz,hy⟩ _
theorem wCmp {x y:Nat} (h:Sm x) (hy:Sm y):Cv x y=some (cmpw x y):=by
 unfold Cv;exact gdB ⟨h.sz,hy.sz⟩ _
theorem wAdd {x y:Nat} (h:Sm x) (hy:Sm y):CJ x y=some (x+y):=by
 unfold CJ;exact gdB ⟨h.sz,hy.sz⟩ _
theorem wMul {x y:Nat} (h:Sm x) (hy:Sm y):Ds x y=some (x*y):=by
 unfold Ds;exact gdB ⟨h.sz,hy.sz⟩ _
theorem wDiv {x y:Nat} (h:Sm x) (hy:Sm y) (h0:y≠0):Dp x y=some (x/y,x%y):=by
 unfold Dp;exact gdB ⟨h.sz,hy.sz,h0⟩ _
theorem wBits {x:Nat} (h:Sm x):Bu x=some (bl x:Int):=by unfold Bu;exact gdB h.sz _
theorem wClone {x:Nat} (h:Sm x):Dh x=some x:=by unfold Dh;exact gdB h.sz _
theorem rZeros {x:Nat} (h:Sm x):BO x=some (tz x:Int):=by unfold BO;exact gdB h.sz _
theorem rShr {x k:Nat} (h:Sm x) (hk:k<9223372036854775808):BW x (k:Int)=some (x/2^k):=by
 unfold BW;rw [gdB ⟨h.sz,by omega,by omega⟩];rfl
theorem rCmp {x y:Nat} (h:Sm x) (hy:Sm y):Ee x y=some (sgnc x y):=by
 unfold Ee;exact gdB ⟨h.sz,hy.sz⟩ _
theorem rAdd {x y:Nat} (h:Sm x) (hy:Sm y):Ef x y=some (x+y):=by
 unfold Ef;exact gdB ⟨h.sz,hy.sz⟩ _
theorem rDiv {x y:Nat} (h:Sm x) (hy:Sm y) (h0:y≠0):Ck x y=some ⟨x/y,x%y⟩:=by
 unfold Ck;exact gdB ⟨h.sz,hy.sz,h0⟩ _
theorem SM {x:Nat} (h:Sm x):BZ x=some (bl x:Int):=by unfold BZ;exact gdB h.sz _
def nz (s:Bool) (n:Nat) (e:Int):Aj:=if n=0 then ⟨⟨false,0⟩,0⟩ else ⟨⟨s,n/2^tz n⟩,e+tz n⟩
def toD (x:Aj):Al:=⟨x.m,x.e⟩
theorem SQ {n:Nat} (h:Sm n):tz n≤1000000:=by
 by_cases h0:n=0
 ·subst h0;decide
 ·obtain ⟨m,_,h1⟩:=Hn h0;unfold Sm at h;omega
theorem LU (n:Nat):∃q,n=q*2^tz n:=by
 by_cases h0:n=0
 ·exact ⟨0,by simp [h0]⟩
 ·obtain ⟨m,h1,_⟩:=Hn h0;exact ⟨2*m+1,by rw [Nat.mul_comm];exact h1⟩
theorem normal (s:Bool) (n:Nat) (e:Int) (h:Sm n) (he : -1000000000000≤e) (he':e≤1000000000000):Cz ⟨s,n⟩ e=some (nz s n e):=by
 have hz:=SQ h
 unfold Cz nz
 simp only [sz0]
 split
 ·rfl
 ·rw [wZeros h,sB,wShr h (by omega),sB,w64 (by omega) (by omega)]
theorem refOf (s:Bool) (n:Nat) (e:Int) (h:Sm n) (he : -1000000000000≤e) (he':e≤1000000000000):FM ⟨s,n⟩ e=some (toD (nz s n e)):=by
 have hz:=SQ h
 unfold FM nz toD
 simp only [sz0]
 split
 ·rfl
 ·rw [rZeros h,sB,rShr h (by omega),sB,w64 (by omega) (by omega)]
theorem tz_mul {n k:Nat} (h:n≠0):tz (n*2^k)=tz n+k:=by
 obtain ⟨m,h1,_⟩:=Hn h
 apply QG (m:=m)
 rw [Nat.pow_add,Nat.mul_right_comm,Nat.mul_comm (2^tz n*_),←h1]<;>simp [Nat.mul_comm,Nat.mul_left_comm,Nat.mul_assoc]
theorem nz_shl (s:Bool) (n k:Nat) (e:Int):nz s (n*2^k) (e - k)=nz s n e:=by
 unfold nz
 have hp:0<2^k:=Nat.two_pow_pos k
 by_cases h:n=0
 ·subst h;simp
 ·have h2:n*2^k≠0:=by
   intro h3;rcases Nat.mul_eq_zero.1 h3 with h4 | h4
   ·exact h h4
   ·omega
  rw [if_neg h,if_neg h2,tz_mul h,Nat.pow_add,Nat.mul_div_mul_right _ _ hp]
  congr 1
  omega
theorem nz_shl' (s:Bool) (n k:Nat) (e e':Int) (h:e' + k=e):nz s (n*2^k) e'=nz s n e:=by
 rw [←nz_shl s n k e];congr 1;omega
def up (z:Bool) (h:Int) (o s:Bool) (dir:Int):Bool:=
 if z then false else if dir=1 then (decide (0<h) || (decide (h=0) && o)) else if dir=2 then decide (0≤h) else if dir=4 then !s else if dir=5 then s else false
theorem away (z:Bool) (h:Int) (o s:Bool) (dir:Int):JQ z h o s dir=some (up z h o s dir):=by
 unfold JQ up
 by_cases h1:0<h<;>by_cases h2:h=0<;>by_cases h3:(0:Int)≤h<;>cases z<;>cases o<;>cases s<;>(by_cases d1:dir=1)<;>(by_cases d2:dir=2)<;>(by_cases d4:dir=4)<;>(by_cases d5:dir=5)<;>simp_all<;>first | omega | rfl | (rw [if_neg (by omega),decide_eq_false (by omega)])
def rn (s:Bool) (N D:Nat) (e:Int) (dir:Int):Aj:=
 nz s (N/D+if up (decide (N%D=0)) (sgnc (2*(N%D)) D) (decide (N/D%2=1)) s dir=true then 1 else 0) e
theorem NY {a b c:Nat} (h:0<c):sgnc (a*c) (b*c)=sgnc a b:=by
 unfold sgnc
 simp only [Nat.mul_lt_mul_right h]
theorem OS {s:Bool} {N D N' D':Nat} (e dir:Int) (hD:0<D) (hD':0<D') (h:N*D'=N' * D):rn s N D e dir=rn s N' D' e dir:=by
 have hq:N/D=N' / D':=by
  rw [←Nat.mul_div_mul_right N D hD',h,Nat.mul_comm D D',Nat.mul_div_mul_right _ _ hD]
 have hr:N%D*D'=N' % D' * D:=by
  rw [←Nat.mul_mod_mul_right,h,Nat.mul_comm D D',Nat.mul_mod_mul_right]
 have hz:(N%D=0)=(N' % D'=0):=by
  apply propext;constructor
  ·intro h0;rw [h0,Nat.zero_mul] at hr;rcases Nat.mul_eq_zero.1 hr.symm with h1 | h1
   ·exact h1
   ·omega
  ·intro h0;rw [h0,Nat.zero_mul] at hr;rcases Nat.mul_eq_zero.1 hr with h1 | h1
   ·exact h1
   ·omega
 have hs:sgnc (2*(N%D)) D=sgnc (2*(N' % D')) D':=by
  rw [←NY hD',←NY (a:=2*(N' % D')) hD,Nat.mul_assoc,Nat.mul_assoc,hr,Nat.mul_comm D D']
 unfold rn
 rw [hq,hs]
 simp only [hz]
theorem up_congr {z:Bool} {h h':Int} {o s:Bool} {dir:Int} (h1:0<h↔0<h') (h2:h=0↔h'=0):up z h o s dir=up z h' o s dir:=by
 have h3:0≤h↔0≤h':=by omega
 unfold up
 simp only [h1,h2,h3]
theorem nth0 (x:Int) (l:List Int):nth (x::l) 0=some x:=by
 unfold nth;rw [if_pos ⟨by omega,by simp only [List.length_cons];omega⟩];rfl
theorem odd_w (q:Nat):(if 0<(Sbn.sz q:Int) then (nth (limbs q) 0).bind fun u=>some (decide (u%2=1)) else some false)=some (decide (q%2=1)):=by
 simp only [Mt]
 by_cases h:q=0
 ·subst h;rfl
 ·rw [if_pos h,FK h,nth0]
  show some (decide (((q%4294967296:Nat):Int)%2=1))=_
  congr 1
  apply decide_eq_decide.2
  omega
theorem odd_r (q:Nat):(if 0<(Sbn.sz q:Int) then (nth (limbs q) 0).bind fun u=>some (decide (u.tmod 2=1)) else some false)=some (decide (q%2=1)):=by
 simp only [Mt]
 by_cases h:q=0
 ·subst h;rfl
 ·rw [if_pos h,FK h,nth0]
  show some (decide (((q%4294967296%2:Nat):Int)=1))=_
  congr 1
  apply decide_eq_decide.2
  omega
theorem half_lt {N D n d:Nat} (hD:0<D) (hn:n=N/D) (hd:1≤d) :
  (0<(if cmpw (n%2^d) (2^(d - 1))=0∧N%D≠0 then 1 else cmpw (n%2^d) (2^(d - 1)))↔0<sgnc (2*(N%(D*2^d))) (D*2^d))∧
  ((if cmpw (n%2^d) (2^(d - 1))=0∧N%D≠0 then 1 else cmpw (n%2^d) (2^(d - 1)))=0↔sgnc (2*(N%(D*2^d))) (D*2^d)=0):=by
 have hc1:=@IT (n%2^d) (2^(d - 1))
 have hc2:=@cmpw_pos (n%2^d) (2^(d - 1))
 have hm:N%(D*2^d)=N%D+D*(n%2^d):=by rw [Nat.mod_mul,hn]
 have hp:2^d=2^(d - 1)*2:=by rw [←Nat.pow_succ];congr 1;omega
 have hr:=Nat.mod_lt N hD
 rw [hm]
 rw [show D*2^d=D*2^(d - 1)*2 by rw [hp,Nat.mul_assoc],show 2*(N%D+D*(n%2^d))=(N%D+D*(n%2^d))*2 from Nat.mul_comm _ _,NY (by omega)]
 generalize cmpw (n%2^d) (2^(d - 1))=c at *
 generalize n%2^d=r at *
 generalize 2^(d - 1)=P at *
 generalize N%D=t at *
 have hlt:r<P→t+D*r<D*P:=by
  intro h
  have:D*(r+1)≤D*P:=Nat.mul_le_mul_left _ h
  rw [Nat.mul_add] at this;omega
 have hgt:P<r→D*P<t+D*r:=by
  intro h
  have:D*(P+1)≤D*r:=Nat.mul_le_mul_left _ h
  rw [Nat.mul_add] at this;omega
 rcases Nat.lt_trichotomy r P with h | h | h
 ·have:=hlt h
  have hs:sgnc (t+D*r) (D*P) = -1:=by unfold sgnc;rw [if_pos this]
  have:c<0:=hc1.2 h
  rw [hs,if_neg (by omega)];omega
 ·subst h
  have hc:c=0:=by have:=hc1.1;have:=hc2.1;omega
  subst hc
  by_cases h0:t=0
  ·subst h0
   have hs:sgnc (0+D*r) (D*r)=0:=by unfold sgnc;rw [if_neg (by omega),if_neg (by omega)]
   rw [hs];simp
  ·have hs:sgnc (t+D*r) (D*r)=1:=by unfold sgnc;rw [if_neg (by omega),if_pos (by omega)]
   rw [hs,if_pos ⟨rfl,h0⟩];omega
 ·have:=hgt h
  have hs:sgnc (t+D*r) (D*P)=1:=by unfold sgnc;rw [if_neg (by omega),if_pos this]
  have:0<c:=hc2.2 h
  rw [hs,if_neg (by omega)];omega
theorem sm1:Sm 1:=by unfold Sm;decide
theorem Oh (s:Bool) (n:Nat) (e:Int) (b:Nat) (dir:Int) (N D:Nat) (hn:Sm n) (hD:0<D) (hN:n=N/D) (hb:1≤b) (hb2:b+2≤bl n)
  (he : -100000000000≤e) (he':e≤100000000000) :
  AH ⟨⟨s,n⟩,e⟩ (b:Int) dir (decide (N%D≠0))=some (rn s N (D*2^(bl n - b)) (e+((bl n - b:Nat):Int)) dir):=by
 have hbn:bl n≤1000000:=hn
 obtain ⟨d,hd⟩:∃d,d=bl n - b:=⟨_,rfl⟩
 have hw:wi64 ((bl n:Int) - (b:Int))=(d:Int):=w64n (by omega) (by omega)
 have hdd:bl n - b=d:=hd.symm
 have hp:=Nat.two_pow_pos d
 have hq1:n/2^d≤n:=Nat.div_le_self _ _
 have hqs:Sm (n/2^d):=Im hq1 hn
 have hqq:n/2^d*2^d≤n:=Nat.div_mul_le_self _ _
 have hr:n - n/2^d*2^d=n%2^d:=by have:=Nat.div_add_mod n (2^d);rw [Nat.mul_comm] at this;omega
 have hrs:Sm (n%2^d):=Im (Nat.mod_le _ _) hn
 have hps:Sm (2^(d - 1)):=QE (k:=d) (Nat.pow_lt_pow_right (by decide) (by omega)) (by omega)
 have hm:N%(D*2^d)=N%D+D*(n%2^d):=by rw [Nat.mod_mul,hN]
 have hz:(decide (N%(D*2^d)=0))=(if n%2^d=0 then decide (¬decide (N%D≠0)=true) else false):=by
  rw [hm]
  by_cases h1:n%2^d=0
  ·simp [h1]
  ·rw [if_neg h1,decide_eq_false]
   have:0<D*(n%2^d):=Nat.mul_pos hD (by omega)
   omega
 have hh:=half_lt hD hN (show 1≤d by omega)
 unfold AH
 rw [wBits hn,sB]
 simp only [hw]
 rw [if_neg (by omega),sB,if_neg (by decide),if_neg (by omega),sB]
 rw [wShr hn (by omega),sB,wShl hqs (by omega),sB,wSub hn hqq,sB,hr]
 simp only [sz0]
 have e1:(if n%2^d=0 then some (decide (¬decide (N%D≠0)=true)) else some false)=some (decide (N%(D*2^d)=0)):=by
  rw [hz];split<;>rfl
 have e2:wi64 ((d:Int) - 1)=((d - 1:Nat):Int):=w64n (by omega) (by omega)
 rw [e1,sB,e2,wShl sm1 (by omega),sB,Nat.one_mul,wCmp hrs hps,sB]
 have e3:(if cmpw (n%2^d) (2^(d - 1))=0 then some (decide (N%D≠0)) else some false)=some (decide (cmpw (n%2^d) (2^(d - 1))=0∧N%D≠0)):=by
  split<;>simp_all
 rw [e3,sB]
 have e4:(if decide (cmpw (n%2^d) (2^(d - 1))=0∧N%D≠0)=true then some (1:Int) else some (cmpw (n%2^d) (2^(d - 1))))=some (if cmpw (n%2^d) (2^(d - 1))=0∧N%D≠0 then 1 else cmpw (n%2^d) (2^(d - 1))):=by
  simp only [decide_eq_true_eq];split<;>rfl
 rw [e4,sB,odd_w,sB,away,sB,up_congr hh.1 hh.2]
 have e5:wi64 (e+(d:Int))=e+d:=w64 (by omega) (by omega)
 rw [e5]
 have hqe:n/2^d=N/(D*2^d):=by rw [hN,Nat.div_div_eq_div_mul]
 rw [hqe,hdd]
 have hqs2:Sm (n/2^d+1):=by
  apply QE (k:=bl n) _ hbn
  have h1:=Eb.1 (Nat.le_refl (bl n))
  have:2^1≤2^d:=Nat.pow_le_pow_right (by decide) (by omega)
  have h0:n/2^d≤n/2:=Nat.div_le_div_left (by omega) (by decide)
  have:n≠0:=by intro h;rw [h] at hb2;rw [FG] at hb2;omega
  omega
 unfold rn
 rw [hqe] at hqs hqs2
 split
 ·rename_i hu
  rw [wAdd hqs sm1,sB,sB,normal _ _ _ hqs2 (by omega) (by omega),sB]
 ·rename_i hu
  rw [sB,normal _ _ _ hqs (by omega) (by omega),sB]
  rfl
theorem rounded (q r den:Nat) (s:Bool) (dir:Int) (hq:Sm q) (hr:Sm r) (hr2:Sm (r+r)) (hd:Sm den) :
    Hr q r den s dir=some (q+if up (decide (r=0)) (sgnc (2*r) den) (decide (q%2=1)) s dir=true then 1 else 0):=by
  unfold Hr
  simp only [sz0]
  by_cases h0:r=0
  · rw [if_pos h0];unfold up;simp [h0]
  · rw [if_neg h0]
    simp only [rAdd hr hr,rCmp hr2 hd,Kp,rAdd hq sm1,sB]
    rw [odd_r]
    rw [show r+r=2*r by omega]
    unfold up
    simp only [decide_eq_false h0]
    generalize sgnc (2*r) den=h
    generalize hgo:decide (q%2=1)=o
    by_cases h1:0<h<;>by_cases h2:h=0<;>by_cases h3:(0:Int)≤h<;>cases o<;>cases s<;>(by_cases d1:dir=1)<;>(by_cases d2:dir=2)<;>(by_cases d4:dir=4)<;>(by_cases d5:dir=5)<;>simp_all [sB]<;>first | omega | rfl | (rw [if_neg (show ¬0<h by omega),if_neg (show ¬0<h by omega)];rfl) | (rw [if_neg (show ¬0<h by omega),if_neg (show ¬0≤h by omega)];rfl)
theorem signed_pos (s:Bool) {m:Nat} (h:m≠0):CY s m=some ⟨s,m⟩:=by
  unfold CY
  simp only [Mt]
  cases s
  · rfl
  · rw [if_pos rfl,decide_eq_true h];rfl
theorem part (N D:Nat) (s:Bool) (dir e:Int) (hD:0<D) (hN:Sm N) (hDs:Sm (D+D)) (h1:N/D≠0) (he : -100000000000≤e) (he':e≤100000000000) (hq1:Sm (N/D+1)) :
    GV (N/D) (N%D) D s dir e=some (toD (rn s N D e dir)):=by
  have hm:=Nat.mod_lt N hD
  unfold GV
  rw [rounded _ _ _ _ _ (Im (Nat.div_le_self _ _) hN) (Im (Nat.mod_le _ _) hN) (Im (by omega) hDs) (Im (by omega) hDs),sB,signed_pos,sB,refOf,sB]
  · rfl
  · apply Im _ hq1;split<;>omega
  · omega
  · omega
  · exact Nat.ne_of_gt (Nat.lt_of_lt_of_le (Nat.pos_of_ne_zero h1) (Nat.le_add_right _ _))
theorem Di {n:Nat} (h:n≠0):2^(bl n - 1)≤n∧n<2^bl n∧1≤bl n:=by
  obtain ⟨k,h1,h2,h3⟩:=NT h
  rw [h1];exact ⟨h2,h3,by omega⟩
theorem floor_ge {n d u v b:Nat} (hd:d≠0) (hn:n≠0) (hb:1≤b) (h:b+bl d+v=bl n+u):2^(b - 1)≤n*2^u/(d*2^v):=by
  obtain ⟨a1,a2,a3⟩:=Di hn
  obtain ⟨b1,b2,b3⟩:=Di hd
  rw [Nat.le_div_iff_mul_le (Nat.mul_pos (by omega) (Nat.two_pow_pos v))]
  calc 2^(b - 1)*(d*2^v)≤2^(b - 1)*(2^bl d*2^v):=Nat.mul_le_mul_left _ (Nat.mul_le_mul_right _ (by omega))
    _=2^(bl n - 1)*2^u:=by rw [←Nat.pow_add,←Nat.pow_add,←Nat.pow_add];congr 1;omega
    _≤n*2^u:=Nat.mul_le_mul_right _ a1
theorem Kr (n k:Nat):bl (n*2^k)≤bl n+k:=by
  rw [Eb,Nat.pow_add];exact Nat.mul_lt_mul_of_pos_right (Eb.1 (Nat.le_refl _)) (Nat.two_pow_pos k)
theorem Qv {n k a:Nat} (h:bl n≤a) (h2:a+k≤1000000):Sm (n*2^k):=by have:=Kr n k;unfold Sm;omega
theorem sign (s:Bool) (n:Nat) (e:Int):AU ⟨⟨s,n⟩,e⟩=some (if n=0 then 0 else if s=true then -1 else 1):=by
 unfold AU Ix
 simp only [sz0]
 split
 ·rfl
 ·split<;>rfl
theorem same (a b:Nat) (h:Sm a):Ca (limbs a) (limbs b)=some (decide (a=b)):=by
 have hs:=h.sz
 have hl:(limbs a).length<4294967296:=by show Sbn.sz a<_;omega
 show Lf.Ca _ _=_
 rw [rSame (As a) (As b) hl]
 simp only [Ax]
 congr 1
 apply decide_eq_decide.2
 constructor
 ·exact fun h=>h.2
 ·intro h;subst h;exact ⟨rfl,rfl⟩
theorem SL (x y:Nat):∀(f a b:Nat),b≤a→bl a+bl b<f→Sm a→Dt x y f a b=some (Nat.gcd a b):=by
 intro f
 induction f with
 | zero=>intro a b _ h;omega
 | succ f ih=>
  intro a b hab hf hs
  show (if 0<(Sbn.sz b:Int) then (Ck a b).bind fun r=>Dt x y f b r.R else some a)=_
  simp only [Mt]
  by_cases hb:b=0
  ·subst hb;rw [if_neg (by simp),Nat.gcd_zero_right]
  ·have hbs:Sm b:=Im hab hs
   have hm:=Nat.mod_lt a (Nat.pos_of_ne_zero hb)
   rw [if_pos hb,rDiv hs hbs hb,sB,ih b (a%b) (by omega) ?_ hbs]
   ·rw [Nat.gcd_comm b,←Nat.gcd_rec,Nat.gcd_comm]
   ·have h2:2*(a%b)<a:=by
     have h3:=Nat.div_add_mod a b
     have h4:b*1≤b*(a/b):=Nat.mul_le_mul_left _ (Nat.div_pos hab (by omega))
     omega
    obtain ⟨h5,h6,h7⟩:=Di (n:=a) (by omega)
    have:bl (a%b)≤bl a - 1:=by
     rw [Eb]
     have:2^bl a=2^(bl a - 1)*2:=by rw [←Nat.pow_succ];congr 1;omega
     omega
    omega
theorem gcd (a b:Nat) (ha:bl a≤100000) (hb:bl b≤100000):Kt a b=some (Nat.gcd a b):=by
 have key:Dt a b 18446744073709551616 a b=some (Nat.gcd a b):=by
  by_cases h:b≤a
  ·exact SL a b _ a b h (by omega) (by unfold Sm;omega)
  ·obtain ⟨f,hf⟩:∃f,18446744073709551616=f+1:=⟨_,rfl⟩
   rw [hf]
   show (if 0<(Sbn.sz b:Int) then (Ck a b).bind fun r=>Dt a b f b r.R else some a)=_
   simp only [Mt]
   rw [if_pos (by omega),rDiv (by unfold Sm;omega) (by unfold Sm;omega) (by omega),sB,Nat.mod_eq_of_lt (by omega)]
   show Dt a b f b a=_
   rw [SL a b f b a (by omega) (by omega) (by unfold Sm;omega),Nat.gcd_comm]
 unfold Kt
 rw [key];rfl
def Cs (s:Bool) (n:Nat):Prop:=n=0→s=false
theorem Cs.and {s:Bool} {n m:Nat} (h:Cs s n) (hm:m=0→n=0):(s && decide (m≠0))=s:=by
 cases s
 ·rfl
 ·have:m≠0:=fun h0=>by have:=h (hm h0);cases this
  simp [this]
theorem Jp (n k:Nat):bl (n/k)≤bl n:=Eb.2 (Nat.lt_of_le_of_lt (Nat.div_le_self _ _) (Eb.1 (Nat.le_refl _)))
def IsR (b:Nat) (dir:Int) (s:Bool) (n d:Nat) (r:Aj):Prop:=
 (n=0∧r=⟨⟨false,0⟩,0⟩)∨(n≠0∧∃u v:Nat,r=rn s (n*2^u) (d*2^v) ((v:Int) - u) dir∧n*2^u/(d*2^v)<2^b∧2^(b - 1)≤n*2^u/(d*2^v)∧u≤200000∧v≤200000)
def Z (s:Bool) (n:Nat):Int:=if s=true then -(n:Int) else n
def sv (s:Bool) (n:Nat):Int:=if n=0 then 0 else if s=true then -1 else 1
theorem QL (s:Bool) (n:Nat) (e:Int):AU (nz s n e)=some (sv s n):=by
 unfold nz
 by_cases h:n=0
 ·rw [if_pos h,sign];unfold sv;rw [if_pos h];rfl
 ·rw [if_neg h,sign]
  obtain ⟨m,h1,_⟩:=Hn h
  have hp:=Nat.two_pow_pos (tz n)
  have:n/2^tz n=2*m+1:=by
   generalize tz n=k at *
   rw [h1,Nat.mul_div_cancel_left _ hp]
  rw [this];unfold sv;rw [if_neg h,if_neg (by omega)]
theorem Ow {n m a c i j:Nat} (h:(a:Int) - c=(i:Int) - j):n*2^a<m*2^c↔n*2^i<m*2^j:=by
 have key:∀ {a c k:Nat},n*2^(a+k)<m*2^(c+k)↔n*2^a<m*2^c:=by
  intro a c k
  rw [Nat.pow_add,Nat.pow_add,←Nat.mul_assoc,←Nat.mul_assoc,Nat.mul_lt_mul_right (Nat.two_pow_pos k)]
 rw [←key (k:=i),←key (a:=i) (c:=j) (k:=a),Nat.add_comm i a,show c+i=j+a by omega]
theorem PC {n m i j:Nat} {e f:Int} (hn:n≠0) (h:e - f=(i:Int) - j) (ht:(bl n:Int)+e<bl m+f) (hm:m≠0):n*2^i<m*2^j:=by
 obtain ⟨a1,a2,a3⟩:=Di hn
 obtain ⟨b1,b2,b3⟩:=Di hm
 calc n*2^i<2^bl n*2^i:=Nat.mul_lt_mul_of_pos_right a2 (Nat.two_pow_pos i)
  _=2^(bl n+i):=by rw [Nat.pow_add]
  _≤2^(bl m - 1+j):=Nat.pow_le_pow_right (by decide) (by omega)
  _=2^(bl m - 1)*2^j:=by rw [Nat.pow_add]
  _≤m*2^j:=Nat.mul_le_mul_right _ b1
theorem plus_minus (s:Bool) (n m:Nat) (e f:Int) (hn:n≠0) (hm:m≠0) (hns:bl n≤20000) (hms:bl m≤20000) (hd:e - f≤100000) (hd':f - e≤100000)
  (he : -1000000≤e) (he':e≤1000000) (hf : -1000000≤f) (hf':f≤1000000) (A C:Nat) (hA:A=n*2^(e - min e f).toNat) (hC:C=m*2^(f - min e f).toNat) :
  BD ⟨⟨s,n⟩,e⟩ ⟨⟨!s,m⟩,f⟩=some (if C≤A then nz s (A - C) (min e f) else nz (!s) (C - A) (min e f)):=by
 obtain ⟨a,ha⟩:∃a:Nat,e - min e f=(a:Int):=⟨(e - min e f).toNat,by omega⟩
 obtain ⟨c,hc⟩:∃c:Nat,f - min e f=(c:Int):=⟨(f - min e f).toNat,by omega⟩
 rw [ha] at hA;rw [hc] at hC
 rw [Int.toNat_natCast] at hA hC
 have hsA:Sm A:=by rw [hA];exact Qv hns (by omega)
 have hsC:Sm C:=by rw [hC];exact Qv hms (by omega)
 unfold BD Bo
 simp only [sz0,Mt]
 rw [if_neg hn,sB,if_neg hm,sB,if_pos hn,if_pos hm]
 rw [w64 (x:=e - min e f) (by omega) (by omega),w64 (x:=f - min e f) (by omega) (by omega),ha,hc]
 unfold DR
 simp only
 rw [wShl (by unfold Sm;omega) (by omega),sB,sB,sB,wShl (by unfold Sm;omega) (by omega),sB,sB,sB,←hA,←hC]
 unfold DI FC
 simp only
 rw [if_neg (by cases s<;>decide),wCmp hsA hsC,sB]
 by_cases h:C≤A
 ·have:¬cmpw A C<0:=fun h2=>by have:=IT.1 h2;omega
  rw [if_pos (by omega),wSub hsA h,sB,sB,normal _ _ _ (Im (Nat.sub_le _ _) hsA) (by omega) (by omega),if_pos h];rfl
 ·have:cmpw A C<0:=IT.2 (by omega)
  rw [if_neg (by omega),wSub hsC (by omega),sB,sB,normal _ _ _ (Im (Nat.sub_le _ _) hsC) (by omega) (by omega),if_neg h];rfl
theorem cmp (s t:Bool) (n m:Nat) (e f:Int) (hns:bl n≤20000) (hms:bl m≤20000)
  (he : -1000000≤e) (he':e≤1000000) (hf : -1000000≤f) (hf':f≤1000000) :
  ∃c,Bb ⟨⟨s,n⟩,e⟩ ⟨⟨t,m⟩,f⟩=some c∧∀i j:Nat,e - f=(i:Int) - j→
   (c<0↔Z s n*(2^i:Nat)<Z t m*(2^j:Nat))∧(0<c↔Z t m*(2^j:Nat)<Z s n*(2^i:Nat)):=by
 have hsv:∀(s:Bool) (n i:Nat),(sv s n=0↔Z s n*(2^i:Nat)=0)∧(sv s n<0↔Z s n*(2^i:Nat)<0)∧(0<sv s n↔0<Z s n*(2^i:Nat))∧sv s n≤1∧-1≤sv s n:=by
  intro s n i
  have hp:=Nat.two_pow_pos i
  unfold sv Z
  by_cases h0:n=0
  ·subst h0;cases s<;>simp
  ·have hnp:0<n*2^i:=Nat.mul_pos (by omega) hp
   have hcast:(n:Int)*(2^i:Nat)=((n*2^i:Nat):Int):=by rw [Int.natCast_mul]
   rw [if_neg h0]
   cases s
   ·rw [if_neg (by decide),if_neg (by decide),hcast];omega
   ·rw [if_pos rfl,if_pos rfl,Int.neg_mul,hcast];omega
 have hcmp:∀(a b:Int),Hg a b=some (if a<b then -1 else if b<a then 1 else 0):=by
  intro a b;unfold Hg;split<;>(try split)<;>rfl
 have hsg:∀(s:Bool) (n:Nat) (e:Int),AU ⟨⟨s,n⟩,e⟩=some (sv s n):=fun s n e=>sign s n e
 unfold Bb
 rw [hsg,sB,hsg,sB]
 by_cases h1:sv s n=sv t m
 ·rw [if_neg (by simp [h1]),sB]
  by_cases h2:sv s n=0
  ·rw [if_pos (by simp [h2]),hcmp,sB]
   refine ⟨_,rfl,fun i j hij=>?_⟩
   have:=hsv s n i
   have:=hsv t m j
   rw [if_neg (by omega),if_neg (by omega)]
   omega
  ·rw [if_neg (by simp [h2])]
   have hn0:n≠0:=by intro h;apply h2;unfold sv;rw [if_pos h]
   have hm0:m≠0:=by intro h;apply h2;rw [h1];unfold sv;rw [if_pos h]
   have hst:s=t:=by unfold sv at h1;rw [if_neg hn0,if_neg hm0] at h1;cases s<;>cases t<;>simp_all
   subst hst
   unfold Du
   simp only
   rw [wBits (show Sm n by unfold Sm;omega),sB,sB,wBits (show Sm m by unfold Sm;omega),sB,sB]
   obtain ⟨_,_,b1⟩:=Di hn0
   obtain ⟨_,_,b2⟩:=Di hm0
   rw [w64 (x:=(bl n:Int) - 1) (by omega) (by omega),w64 (x:=(bl n:Int) - 1+e) (by omega) (by omega),w64 (x:=(bl m:Int) - 1) (by omega) (by omega),w64 (x:=(bl m:Int) - 1+f) (by omega) (by omega)]
   have hZ:∀(i j:Nat),(Z s n*(2^i:Nat)<Z s m*(2^j:Nat)↔if s=true then m*2^j<n*2^i else n*2^i<m*2^j)∧(Z s m*(2^j:Nat)<Z s n*(2^i:Nat)↔if s=true then n*2^i<m*2^j else m*2^j<n*2^i):=by
    intro i j
    have c1:(n:Int)*(2^i:Nat)=((n*2^i:Nat):Int):=by rw [Int.natCast_mul]
    have c2:(m:Int)*(2^j:Nat)=((m*2^j:Nat):Int):=by rw [Int.natCast_mul]
    unfold Z
    cases s
    ·simp only [Bool.false_eq_true,if_false];rw [c1,c2];omega
    ·simp only [if_true];rw [Int.neg_mul,Int.neg_mul,c1,c2];omega
   have hsvv:sv s n=if s=true then -1 else 1:=by unfold sv;rw [if_neg hn0]
   by_cases h3:(bl n:Int) - 1+e=(bl m:Int) - 1+f
   ·rw [if_neg (by simp [h3])]
    unfold Ei Hh
    simp only [sB]
    have hnot:(decide (¬s=true)) = !s:=by cases s<;>rfl
    rw [hnot,plus_minus s n m e f hn0 hm0 hns hms (by omega) (by omega) he he' hf hf' _ _ rfl rfl,sB]
    obtain ⟨a,ha⟩:∃a:Nat,(e - min e f).toNat=a:=⟨_,rfl⟩
    obtain ⟨c,hc⟩:∃c:Nat,(f - min e f).toNat=c:=⟨_,rfl⟩
    rw [ha,hc]
    have hx:∀i j:Nat,e - f=(i:Int) - j→((n*2^a<m*2^c↔n*2^i<m*2^j)∧(m*2^c<n*2^a↔m*2^j<n*2^i)):=by
     intro i j hij
     exact ⟨Ow (by omega),Ow (by omega)⟩
    refine ⟨_,by rw [show (if m*2^c≤n*2^a then nz s (n*2^a - m*2^c) (min e f) else nz (!s) (m*2^c - n*2^a) (min e f))=nz (if m*2^c≤n*2^a then s else !s) (if m*2^c≤n*2^a then n*2^a - m*2^c else m*2^c - n*2^a) (min e f) by split<;>rfl,QL,sB],fun i j hij=>?_⟩
    obtain ⟨g1,g2⟩:=hx i j hij
    rw [(hZ i j).1,(hZ i j).2,←g1,←g2]
    generalize n*2^a=A
    generalize m*2^c=C
    unfold sv
    by_cases h4:C≤A
    ·simp only [if_pos h4]
     by_cases h5:A - C=0
     ·rw [if_pos h5];cases s<;>simp<;>omega
     ·rw [if_neg h5];cases s<;>simp<;>omega
    ·simp only [if_neg h4]
     rw [if_neg (by omega)];cases s<;>simp<;>omega
   ·rw [if_pos (by simp [h3]),sB,hcmp,sB]
    refine ⟨_,rfl,fun i j hij=>?_⟩
    rw [(hZ i j).1,(hZ i j).2,hsvv,w64 (by split<;>split<;>(try split)<;>decide) (by split<;>split<;>(try split)<;>decide)]
    by_cases h4:(bl n:Int) - 1+e<(bl m:Int) - 1+f
    ·have:=PC (m:=m) hn0 hij (by omega) hm0
     rw [if_pos h4]
     cases s<;>simp<;>omega
    ·have:=PC (m:=n) (i:=j) (j:=i) hm0 (show f - e=(j:Int) - i by omega) (by omega) hn0
     rw [if_neg h4,if_pos (show (bl m:Int) - 1+f<(bl n:Int) - 1+e by omega)]
     cases s<;>simp<;>omega
 ·rw [if_pos (by simp [h1]),sB,if_pos rfl,hcmp,sB]
  refine ⟨_,rfl,fun i j hij=>?_⟩
  have:=hsv s n i
  have:=hsv t m j
  generalize Z s n*(2^i:Nat)=X at *
  generalize Z t m*(2^j:Nat)=Y at *
  split
  ·omega
  ·split<;>omega
theorem up5 (z:Bool) (h:Int) (o s:Bool):up z h o s 5=(!z && s):=by unfold up;cases z<;>rfl
theorem up4 (z:Bool) (h:Int) (o s:Bool):up z h o s 4=(!z && !s):=by unfold up;cases z<;>rfl
theorem PK {N D N' D' b k k' i j:Nat} {e e':Int} (hD:0<D) (hD':0<D') (hb:0<b)
  (h1:N/D<2^b) (h2:2^(b - 1)≤N/D) (h1':N' / D' < 2^b) (h2':2^(b - 1)≤N' / D')
  (he:e - k=e' - k') (h:N*D' * 2^k≤N' * D*2^k') (hij:e - e'=(i:Int) - j) :
  N/D*2^i≤N' / D' * 2^j∧(N/D+if N%D=0 then 0 else 1)*2^i≤(N' / D' + if N' % D'=0 then 0 else 1)*2^j:=by
 have hm:=Nat.div_add_mod N D
 have hm':=Nat.div_add_mod N' D'
 have hr:=Nat.mod_lt N hD
 have hr':=Nat.mod_lt N' hD'
 rcases Int.lt_trichotomy e e' with hl | hl | hl
 ·have hle:(N/D+1)*2^i≤N' / D' * 2^j:=by
   obtain ⟨q,hq⟩:∃q,j=i+1+q:=⟨j - i - 1,by omega⟩
   calc (N/D+1)*2^i≤2^b*2^i:=Nat.mul_le_mul_right _ h1
    _=2^(b - 1)*2^(i+1):=by rw [←Nat.pow_add,←Nat.pow_add];congr 1;omega
    _≤2^(b - 1)*2^j:=Nat.mul_le_mul_left _ (Nat.pow_le_pow_right (by decide) (by omega))
    _≤N' / D' * 2^j:=Nat.mul_le_mul_right _ h2'
  constructor
  ·exact Nat.le_trans (Nat.mul_le_mul_right _ (Nat.le_succ _)) hle
  ·refine Nat.le_trans (Nat.mul_le_mul_right _ ?_) (Nat.le_trans hle (Nat.mul_le_mul_right _ (Nat.le_add_right _ _)))
   split
   ·exact Nat.le_succ _
   ·exact Nat.le_refl _
 ·have hk:k=k':=by omega
  have hi:i=j:=by omega
  subst hk hi
  have h3:N*D'≤N' * D:=Nat.le_of_mul_le_mul_right h (Nat.two_pow_pos k)
  have h4:N/D≤N' / D':=by
   rw [Nat.le_div_iff_mul_le hD']
   refine Nat.le_of_mul_le_mul_right ?_ hD
   calc N/D*D' * D=N/D*D*D':=Nat.mul_right_comm _ _ _
    _≤N*D':=Nat.mul_le_mul_right _ (Nat.div_mul_le_self _ _)
    _≤N' * D:=h3
  constructor
  ·exact Nat.mul_le_mul_right _ h4
  ·refine Nat.mul_le_mul_right _ ?_
   rcases Nat.lt_or_eq_of_le h4 with h5 | h5
   ·refine Nat.le_trans (Nat.add_le_add_left (m:=1) ?_ _) (Nat.le_trans h5 (Nat.le_add_right _ _))
    split<;>omega
   ·rw [←h5]
    refine Nat.add_le_add_left ?_ _
    by_cases h6:N%D=0
    ·rw [if_pos h6];exact Nat.zero_le _
    ·rw [if_neg h6,if_neg]
     ·exact Nat.le_refl _
     ·intro h7
      rw [h7,Nat.add_zero,←h5] at hm'
      rw [←hm'] at h3
      have h8:N*D'≤D*(N/D)*D':=by rw [Nat.mul_comm D',Nat.mul_right_comm,Nat.mul_comm (N/D)] at h3;exact h3
      have:=Nat.le_of_mul_le_mul_right h8 hD'
      omega
 ·exfalso
  obtain ⟨q,hq⟩:∃q,k=k' + (q+1):=⟨k - k' - 1,by omega⟩
  rw [hq,Nat.pow_add,Nat.mul_comm (2^k') (2^(q+1)),←Nat.mul_assoc] at h
  have h3:=Nat.le_of_mul_le_mul_right h (Nat.two_pow_pos k')
  have a1:N' < 2^b*D':=by rwa [Nat.div_lt_iff_lt_mul hD'] at h1'
  have a2:2^(b - 1)*D≤N:=by rwa [Nat.le_div_iff_mul_le hD] at h2
  have a4:N' * D<2^b*D' * D:=Nat.mul_lt_mul_of_pos_right a1 hD
  have a5:2^(b - 1)*D*D' * 2≤N*D' * 2^(q+1):=by
   apply Nat.mul_le_mul (Nat.mul_le_mul_right _ a2)
   rw [Nat.pow_succ];have:=Nat.two_pow_pos q;omega
  have a3:2^b=2^(b - 1)*2:=by rw [←Nat.pow_succ];congr 1;omega
  rw [a3] at a4
  generalize 2^(b - 1)=P at *
  have:P*2*D' * D=P*D*D' * 2:=by simp only [Nat.mul_assoc,Nat.mul_comm,Nat.mul_left_comm]
  omega
theorem Ks {X Y:Int} {a c i j:Nat} (h:(a:Int) - c=(i:Int) - j):X*(2^a:Nat)≤Y*(2^c:Nat)↔X*(2^i:Nat)≤Y*(2^j:Nat):=by
 have key:∀ {a c k:Nat},X*(2^(a+k):Nat)≤Y*(2^(c+k):Nat)↔X*(2^a:Nat)≤Y*(2^c:Nat):=by
  intro a c k
  have hk:(0:Int)<(2^k:Nat):=by have:=Nat.two_pow_pos k;omega
  rw [Nat.pow_add,Nat.pow_add,Int.natCast_mul,Int.natCast_mul,←Int.mul_assoc,←Int.mul_assoc]
  constructor
  ·intro h;exact Int.le_of_mul_le_mul_right h hk
  ·intro h;exact Int.mul_le_mul_of_nonneg_right h (Int.le_of_lt hk)
 rw [←key (k:=i),←key (a:=i) (c:=j) (k:=a),Nat.add_comm i a,show c+i=j+a by omega]
def LeV (r r':Aj):Prop:=∀i j:Nat,r.e - r'.e=(i:Int) - j→Z r.m.Neg r.m.Abs*(2^i:Nat)≤Z r'.m.Neg r'.m.Abs*(2^j:Nat)
theorem GB (s:Bool) (n k:Nat):Z s (n*k)=Z s n*k:=by unfold Z;split<;>simp [Int.natCast_mul,Int.neg_mul]
theorem Mz (s:Bool) {n k:Nat} (hk:0<k):(0≤Z s n*k↔0≤Z s n)∧(Z s n*k≤0↔Z s n≤0):=by
 rw [←GB]
 have h0:n*k=0↔n=0:=by
  constructor
  ·intro h;rcases Nat.mul_eq_zero.1 h with h | h
   ·exact h
   ·omega
  ·intro h;rw [h,Nat.zero_mul]
 have h1:∀m:Nat,(0≤Z s m↔(s=false∨m=0))∧(Z s m≤0↔(s=true∨m=0)):=by
  intro m;unfold Z;cases s<;>simp<;>omega
 rw [(h1 _).1,(h1 _).2,(h1 n).1,(h1 n).2,h0];exact ⟨Iff.rfl,Iff.rfl⟩
theorem MB {s t:Bool} {M M':Nat} {e e':Int} {i j:Nat} (hij:e - e'=(i:Int) - j) (h:Z s M*(2^i:Nat)≤Z t M' * (2^j:Nat)):LeV (nz s M e) (nz t M' e'):=by
 intro i' j' hij'
 have hp:=Nat.two_pow_pos
 unfold nz at hij' ⊢
 by_cases h0:M=0
 ·subst h0
  have hz:Z s 0=0:=by unfold Z;cases s<;>rfl
  rw [hz,Int.zero_mul] at h
  rw [if_pos rfl] at hij' ⊢
  have hz2:Z false 0=0:=rfl
  simp only
  rw [hz2,Int.zero_mul]
  by_cases h1:M'=0
  ·rw [if_pos h1];simp only;rw [hz2,Int.zero_mul];exact Int.le_refl _
  ·rw [if_neg h1]
   simp only
   obtain ⟨q,hq⟩:=LU M'
   have hqd:M' / 2^tz M'=q:=by
    generalize tz M'=z at *;rw [hq,Nat.mul_div_cancel _ (hp z)]
   rw [hqd,(Mz t (hp j')).1]
   rw [(Mz t (hp j)).1] at h
   generalize tz M'=z at *
   rw [hq,GB,(Mz t (hp z)).1] at h
   exact h
 ·rw [if_neg h0] at hij' ⊢
  obtain ⟨p,hpp⟩:=LU M
  have hpd:M/2^tz M=p:=by
   generalize tz M=z at *;rw [hpp,Nat.mul_div_cancel _ (hp z)]
  by_cases h1:M'=0
  ·subst h1
   rw [if_pos rfl] at hij' ⊢
   have hz2:Z false 0=0:=rfl
   have hz:Z t 0=0:=by unfold Z;cases t<;>rfl
   simp only
   rw [hz2,Int.zero_mul,hpd,(Mz s (hp i')).2]
   rw [hz,Int.zero_mul,(Mz s (hp i)).2] at h
   generalize tz M=z at *
   rw [hpp,GB,(Mz s (hp z)).2] at h
   exact h
  ·rw [if_neg h1] at hij' ⊢
   obtain ⟨q,hq⟩:=LU M'
   have hqd:M' / 2^tz M'=q:=by
    generalize tz M'=z at *;rw [hq,Nat.mul_div_cancel _ (hp z)]
   simp only at hij' ⊢
   rw [hpd,hqd]
   generalize tz M=z at *
   generalize tz M'=z' at *
   rw [hpp,hq,GB,GB,Int.mul_assoc,Int.mul_assoc,←Int.natCast_mul,←Int.natCast_mul,←Nat.pow_add,←Nat.pow_add] at h
   exact (Ks (by omega)).1 h
end Go.Proofs.Pq
