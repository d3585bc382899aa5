import Derived.Test.YtabiobmfelafoaaGreatDoorPD
namespace Go.Proofs.Pq
set_option linter.unusedVariables false
set_option linter.unusedSimpArgs false
set_option maxRecDepth 4000
open Go.Proofs Go.Sb Go.Proofs.Sbn Go.Proofs.Lf
theorem natMulN (a b:Nat) (ha:Sbn.sz a≤500) (hb:Sbn.sz b≤500) (h:Sbn.sz a<32∨Sbn.sz b<32):Jq a b=some (a*b,0):=by
 have h1:=Fi ha
 have h2:=Fi hb
 have h3:=MT a b
 have hf:Sbn.sz (a*b)≤1024:=EF (by omega)
 have hm:(min (Sbn.sz a:Int) (Sbn.sz b:Int))<32:=by omega
 unfold Jq Cn Dw
 rw [Kk a b (by omega) (by omega),mbo]
 unfold IB Gt CD
 rw [if_pos hm,gdB ⟨by omega,by omega⟩,sB,sB,sB,natGiven _ hf]
 rfl
theorem ratioTimes (a b:Nat) (ha:Sbn.sz a≤500) (hb:Sbn.sz b≤500) (h:Sbn.sz a<32∨Sbn.sz b<32):FY a b=some (.ok (a*b)):=by
 unfold FY
 rw [natMulN a b ha hb h,sB];rfl
theorem ratioSigned (s:Bool) (n:Nat):Dr s n=some ⟨s && decide (n≠0),n⟩:=by
 unfold Dr
 simp only [Mt]
 cases s<;>rfl
theorem natDivN (a b:Nat) (ha:Sbn.sz a≤1024) (hb:Sbn.sz b<32) (h0:b≠0):KU a b=some (a/b,a%b,0):=by
 have h1:=Fi ha
 have h2:=Fi (k:=31) (show Sbn.sz b≤31 by omega)
 have hq:Sbn.sz (a/b)≤1024:=EF (Nat.le_trans (Jp _ _) h1)
 have hr:Sbn.sz (a%b)≤1024:=EF (Nat.le_trans (KE (Nat.le_of_lt (Nat.mod_lt a (Nat.pos_of_ne_zero h0)))) (by omega))
 have hp:(0:Int)<(Sbn.sz b:Int):=by
  have:Sbn.sz b≠0:=fun h=>h0 (GS h)
  omega
 have hl:(Sbn.sz b:Int)<32:=by omega
 unfold KU DM EZ KA Hx
 rw [Kk a b ha (by omega),mbo,decide_eq_true hp,show Hm true 8=some (.ok ()) from rfl,mbo,if_pos hl,nLongN (by unfold Sm;omega) (by unfold Sm;omega) h0,sB,sB,sB]
 simp only
 rw [natGiven _ hq,mbo,natGiven _ hr]
 rfl
theorem ratioDivided (a b:Nat) (ha:Sbn.sz a≤1024) (hb:Sbn.sz b<32) (h0:b≠0):Dv a b=some (.ok (a/b,a%b)):=by
 unfold Dv
 rw [natDivN a b ha hb h0,sB];rfl
theorem ratioLowest (s:Bool) (n d:Nat) (hn:Sbn.sz n≤31) (hd:Sbn.sz d≤31) (h0:d≠0) :
  GW ⟨s,n⟩ d=some (.ok ⟨⟨s && decide (n/Nat.gcd n d≠0),n/Nat.gcd n d⟩,d/Nat.gcd n d⟩):=by
 have hg0:Nat.gcd n d≠0:=Nat.pos_iff_ne_zero.1 (Nat.gcd_pos_of_pos_right _ (Nat.pos_of_ne_zero h0))
 have h1:=Fi hd
 have hg:Sbn.sz (Nat.gcd n d)≤31:=EF (Nat.le_trans (KE (Nat.gcd_le_right _ (Nat.pos_of_ne_zero h0))) h1)
 unfold GW
 simp only
 rw [natGcd n d (by omega) (by omega) h0,sB]
 simp only
 rw [show FT 0=some (.ok ()) from rfl,mbo,ratioDivided n _ (by omega) (by omega) hg0,mbo,ratioDivided d _ (by omega) (by omega) hg0,mbo]
 simp only
 rw [ratioSigned,sB]
theorem ratioProduct (s t:Bool) (n d m c:Nat) (hn:Sbn.sz n≤31) (hd:Sbn.sz d≤31) (hm:Sbn.sz m≤31) (hc:Sbn.sz c≤31) (d0:d≠0) (c0:c≠0) :
  FN ⟨⟨s,n⟩,d⟩ ⟨⟨t,m⟩,c⟩=some (.ok ⟨⟨decide (¬s=t) && decide (n/Nat.gcd n c*(m/Nat.gcd m d)≠0),n/Nat.gcd n c*(m/Nat.gcd m d)⟩,c/Nat.gcd n c*(d/Nat.gcd m d)⟩):=by
 have sd:∀ {a b:Nat},Sbn.sz a≤31→Sbn.sz (a/b)≤31:=fun {a b} h=>EF (Nat.le_trans (Jp _ _) (Fi h))
 have k1:=sd (b:=Nat.gcd n c) hn
 have k2:=sd (b:=Nat.gcd m d) hm
 have k3:=sd (b:=Nat.gcd n c) hc
 have k4:=sd (b:=Nat.gcd m d) hd
 unfold FN
 simp only
 rw [ratioLowest s n c hn hc c0,mbo,ratioLowest t m d hm hd d0,mbo]
 simp only
 rw [ratioTimes _ _ (by omega) (by omega) (by omega),mbo,ratioSigned,sB,ratioTimes _ _ (by omega) (by omega) (by omega),mbo]
theorem prod_lowest {n d m c:Nat} (h1:Nat.gcd n d=1) (h2:Nat.gcd m c=1) (hd:d≠0) (hc:c≠0):Nat.gcd (n/Nat.gcd n c*(m/Nat.gcd m d)) (c/Nat.gcd n c*(d/Nat.gcd m d))=1:=by
 have g1:0<Nat.gcd n c:=Nat.gcd_pos_of_pos_right _ (Nat.pos_of_ne_zero hc)
 have g2:0<Nat.gcd m d:=Nat.gcd_pos_of_pos_right _ (Nat.pos_of_ne_zero hd)
 have a1:Nat.Coprime (n/Nat.gcd n c) (c/Nat.gcd n c):=Nat.coprime_div_gcd_div_gcd g1
 have a2:Nat.Coprime (m/Nat.gcd m d) (d/Nat.gcd m d):=Nat.coprime_div_gcd_div_gcd g2
 have a3:Nat.Coprime (n/Nat.gcd n c) (d/Nat.gcd m d):=Nat.Coprime.coprime_dvd_left (Nat.div_dvd_of_dvd (Nat.gcd_dvd_left n c)) (Nat.Coprime.coprime_dvd_right (Nat.div_dvd_of_dvd (Nat.gcd_dvd_right m d)) h1)
 have a4:Nat.Coprime (m/Nat.gcd m d) (c/Nat.gcd n c):=Nat.Coprime.coprime_dvd_left (Nat.div_dvd_of_dvd (Nat.gcd_dvd_left m d)) (Nat.Coprime.coprime_dvd_right (Nat.div_dvd_of_dvd (Nat.gcd_dvd_right n c)) h2)
 exact Nat.Coprime.mul_right (Nat.Coprime.mul_left a1 a4) (Nat.Coprime.mul_left a3 a2)
theorem prod_value {n d m c:Nat} (hd:d≠0) (hc:c≠0):n/Nat.gcd n c*(m/Nat.gcd m d)*(d*c)=n*m*(c/Nat.gcd n c*(d/Nat.gcd m d)):=by
 obtain ⟨a,ha⟩:=Nat.gcd_dvd_left n c
 obtain ⟨u,hu⟩:=Nat.gcd_dvd_right n c
 obtain ⟨b,hb⟩:=Nat.gcd_dvd_left m d
 obtain ⟨v,hv⟩:=Nat.gcd_dvd_right m d
 have g1:0<Nat.gcd n c:=Nat.gcd_pos_of_pos_right _ (Nat.pos_of_ne_zero hc)
 have g2:0<Nat.gcd m d:=Nat.gcd_pos_of_pos_right _ (Nat.pos_of_ne_zero hd)
 generalize Nat.gcd n c=g at *
 generalize Nat.gcd m d=h at *
 subst ha hu hb hv
 rw [Nat.mul_div_cancel_left _ g1,Nat.mul_div_cancel_left _ g2,Nat.mul_div_cancel_left _ g1,Nat.mul_div_cancel_left _ g2]
 grind
theorem Z_abs (s:Bool) (n:Nat):(Z s n).natAbs=n:=by unfold Z;split<;>simp
theorem QB {n m x y:Nat} {num:Int} (s t:Bool) (h:num=Z s n*(y:Int)+Z t m*(x:Int)) (hx:Nat.Coprime n x) (hxy:Nat.Coprime x y):Nat.Coprime num.natAbs x:=by
 have hp1:=Nat.gcd_dvd_left num.natAbs x
 have hp2:=Nat.gcd_dvd_right num.natAbs x
 show Nat.gcd num.natAbs x=1
 generalize Nat.gcd num.natAbs x=p at hp1 hp2
 have i1:(p:Int)∣num:=Int.ofNat_dvd_left.2 hp1
 have i2:(p:Int)∣Z t m*(x:Int):=Int.dvd_trans (Int.natCast_dvd_natCast.2 hp2) (Int.dvd_mul_left _ _)
 have i3:(p:Int)∣Z s n*(y:Int):=by
  have:=Int.dvd_sub i1 i2
  rwa [h,Int.add_sub_cancel] at this
 have i4:p∣n*y:=by
  have:=Int.ofNat_dvd_left.1 i3
  rwa [Int.natAbs_mul,Z_abs,Int.natAbs_natCast] at this
 have i5:Nat.Coprime p n:=Nat.Coprime.coprime_dvd_left hp2 hx.symm
 have i6:p∣y:=Nat.Coprime.dvd_of_dvd_mul_left i5 i4
 have i7:p∣Nat.gcd x y:=Nat.dvd_gcd hp2 i6
 rw [hxy] at i7
 exact Nat.dvd_one.1 i7
theorem sum_lowest {n d m c:Nat} {num:Int} (s t:Bool) (h1:Nat.gcd n d=1) (h2:Nat.gcd m c=1) (hd:d≠0) (hc:c≠0)
  (h:num=Z s n*((c/Nat.gcd d c:Nat):Int)+Z t m*((d/Nat.gcd d c:Nat):Int)) :
  Nat.gcd (num.natAbs/Nat.gcd num.natAbs (Nat.gcd d c)) (d/Nat.gcd d c*(c/Nat.gcd d c)*(Nat.gcd d c/Nat.gcd num.natAbs (Nat.gcd d c)))=1:=by
 have g0:0<Nat.gcd d c:=Nat.gcd_pos_of_pos_right _ (Nat.pos_of_ne_zero hc)
 have hxy:Nat.Coprime (d/Nat.gcd d c) (c/Nat.gcd d c):=Nat.coprime_div_gcd_div_gcd g0
 have a1:Nat.Coprime n (d/Nat.gcd d c):=Nat.Coprime.coprime_dvd_right (Nat.div_dvd_of_dvd (Nat.gcd_dvd_left d c)) h1
 have a2:Nat.Coprime m (c/Nat.gcd d c):=Nat.Coprime.coprime_dvd_right (Nat.div_dvd_of_dvd (Nat.gcd_dvd_right d c)) h2
 have b1:=QB s t h a1 hxy
 have b2:=QB (num:=num) t s (by rw [h,Int.add_comm]) a2 hxy.symm
 have hh:0<Nat.gcd num.natAbs (Nat.gcd d c):=Nat.gcd_pos_of_pos_right _ g0
 have b3:Nat.Coprime (num.natAbs/Nat.gcd num.natAbs (Nat.gcd d c)) (Nat.gcd d c/Nat.gcd num.natAbs (Nat.gcd d c)):=Nat.coprime_div_gcd_div_gcd hh
 have hdv:num.natAbs/Nat.gcd num.natAbs (Nat.gcd d c)∣num.natAbs:=Nat.div_dvd_of_dvd (Nat.gcd_dvd_left _ _)
 exact Nat.Coprime.mul_right (Nat.Coprime.mul_right (Nat.Coprime.coprime_dvd_left hdv b1) (Nat.Coprime.coprime_dvd_left hdv b2)) b3
theorem Z_sign (num:Int):Z (decide (num<0)) num.natAbs=num:=by
 unfold Z
 by_cases h:num<0
 ·rw [decide_eq_true h,if_pos rfl];omega
 ·rw [decide_eq_false h,if_neg (by decide)];omega
theorem sum_value {n d m c:Nat} {num:Int} (s t:Bool) (hd:d≠0) (hc:c≠0)
  (h:num=Z s n*((c/Nat.gcd d c:Nat):Int)+Z t m*((d/Nat.gcd d c:Nat):Int)) :
  Z (decide (num<0)) (num.natAbs/Nat.gcd num.natAbs (Nat.gcd d c))*((d*c:Nat):Int)=(Z s n*(c:Int)+Z t m*(d:Int))*((d/Nat.gcd d c*(c/Nat.gcd d c)*(Nat.gcd d c/Nat.gcd num.natAbs (Nat.gcd d c)):Nat):Int):=by
 have g0:0<Nat.gcd d c:=Nat.gcd_pos_of_pos_right _ (Nat.pos_of_ne_zero hc)
 have hh:0<Nat.gcd num.natAbs (Nat.gcd d c):=Nat.gcd_pos_of_pos_right _ g0
 obtain ⟨x,hx⟩:=Nat.gcd_dvd_left d c
 obtain ⟨y,hy⟩:=Nat.gcd_dvd_right d c
 obtain ⟨p,hp⟩:=Nat.gcd_dvd_left num.natAbs (Nat.gcd d c)
 obtain ⟨k,hk⟩:=Nat.gcd_dvd_right num.natAbs (Nat.gcd d c)
 have e0:=Z_sign num
 generalize decide (num<0)=σ at *
 generalize Nat.gcd num.natAbs (Nat.gcd d c)=q at *
 generalize Nat.gcd d c=g at *
 have ex:d/g=x:=by rw [hx,Nat.mul_div_cancel_left _ g0]
 have ey:c/g=y:=by rw [hy,Nat.mul_div_cancel_left _ g0]
 have ep:num.natAbs/q=p:=by
  conv=>lhs;lhs;rw [hp]
  exact Nat.mul_div_cancel_left _ hh
 have ek:g/q=k:=by
  conv=>lhs;lhs;rw [hk]
  exact Nat.mul_div_cancel_left _ hh
 rw [ex,ey] at h
 rw [ex,ey,ep,ek]
 rw [hp,Nat.mul_comm,SB] at e0
 have c1:(d:Int)=g*x:=by rw [hx];exact Int.natCast_mul _ _
 have c2:(c:Int)=g*y:=by rw [hy];exact Int.natCast_mul _ _
 have c3:(g:Int)=q*k:=by rw [hk];exact Int.natCast_mul _ _
 rw [Int.natCast_mul,Int.natCast_mul,Int.natCast_mul,c1,c2]
 generalize (g:Int)=G at *
 generalize (q:Int)=Q at *
 generalize (k:Int)=K at *
 generalize Z σ p=S at *
 grind
theorem natAddN (a b:Nat) (ha:Sbn.sz a≤500) (hb:Sbn.sz b≤500):KV a b=some (a+b,0):=by
 have h1:=Fi ha
 have h2:=Fi hb
 have h3:=NL (a:=a) (b:=b) (k:=16000) (by omega) (by omega)
 have hf:Sbn.sz (a+b)≤1024:=EF (by omega)
 unfold KV Co Dy
 rw [Kk a b (by omega) (by omega),mbo]
 unfold DW
 rw [gdB ⟨by omega,by omega⟩,sB,natGiven _ hf]
 rfl
theorem natSubN (a b:Nat) (ha:Sbn.sz a≤500) (hb:Sbn.sz b≤500) (h:b≤a):Kl a b=some (a - b,0):=by
 have h1:=Fi ha
 have hf:Sbn.sz (a - b)≤1024:=EF (Nat.le_trans (KE (Nat.sub_le _ _)) (by omega))
 have hg:(0:Int)≤sgnc a b:=by unfold sgnc;split<;>(try split)<;>omega
 unfold Kl De EA KI
 rw [Kk a b (by omega) (by omega),mbo]
 unfold CQ DV
 rw [gdB ⟨by omega,by omega⟩,sB,decide_eq_true hg,show Hm true 3=some (.ok ()) from rfl,mbo,gdB ⟨by omega,by omega,h⟩,sB,mbo,natGiven _ hf]
 rfl
theorem natCmpN (a b:Nat) (ha:Sbn.sz a≤500) (hb:Sbn.sz b≤500):Iv a b=some (sgnc a b):=by
 unfold Iv Mm MJ
 rw [Kk a b (by omega) (by omega),mbo]
 unfold CQ
 rw [gdB ⟨by omega,by omega⟩,sB]
 rfl
theorem wholeSum (s t:Bool) (a b:Nat) (ha:Sbn.sz a≤500) (hb:Sbn.sz b≤500) :
  JJ ⟨s,a⟩ ⟨t,b⟩=some (.ok ⟨(addZ s a t b).1 && decide ((addZ s a t b).2≠0),(addZ s a t b).2⟩):=by
 have hsg:0≤sgnc a b↔b≤a:=by unfold sgnc;split<;>(try split)<;>omega
 unfold JJ addZ
 simp only
 by_cases h:s=t
 ·rw [if_pos h,if_pos h,natAddN a b ha hb,sB]
  simp only
  rw [RO,mbo,wholeSigned,sB]
 ·rw [if_neg h,if_neg h,natCmpN a b ha hb,sB]
  by_cases h2:b≤a
  ·rw [if_pos (hsg.2 h2),if_pos h2,natSubN a b ha hb h2,sB]
   simp only
   rw [RO,mbo,wholeSigned,sB]
  ·rw [if_neg (fun h3=>h2 (hsg.1 h3)),if_neg h2,natSubN b a hb ha (by omega),sB]
   simp only
   rw [RO,mbo,wholeSigned,sB]
theorem ovr {L X Y0 Y1 B q K p A:Int} (hK:0<K) (hq:0<q) (hp:0<p) (h:L*Y0≤X*K) (h':L*Y1≤X*K) (b0:Y0*q≤B*K) (b1:B*K≤Y1*q) (hx:X*p≤A*K):L*(B*p)≤A*q*K:=by
 have hq':=Int.le_of_lt hq
 have e:L*B*K≤X*q*K:=by
  rw [Int.mul_right_comm X q K,Int.mul_assoc L B K]
  rcases Int.le_total 0 L with hl | hl
  ·refine Int.le_trans (Int.mul_le_mul_of_nonneg_left b1 hl) ?_
   rw [←Int.mul_assoc];exact Int.mul_le_mul_of_nonneg_right h' hq'
  ·refine Int.le_trans (Int.mul_le_mul_of_nonpos_left hl b0) ?_
   rw [←Int.mul_assoc];exact Int.mul_le_mul_of_nonneg_right h hq'
 have e2:=Int.mul_le_mul_of_nonneg_right (Int.le_of_mul_le_mul_right e hK) (Int.le_of_lt hp)
 have e3:=Int.mul_le_mul_of_nonneg_right hx hq'
 rw [←Int.mul_assoc,Int.mul_right_comm A q K]
 rw [Int.mul_right_comm X q p] at e2
 exact Int.le_trans e2 e3
theorem corner {m a0 a1 b0 b1 a b:Int} (h1:m≤a0*b0) (h2:m≤a0*b1) (h3:m≤a1*b0) (h4:m≤a1*b1) (ha:a0≤a) (ha':a≤a1) (hb:b0≤b) (hb':b≤b1):m≤a*b:=by
 have side:∀ {x:Int},m≤x*b0→m≤x*b1→m≤x*b:=by
  intro x g0 g1
  rcases Int.le_total 0 x with hx | hx
  ·exact Int.le_trans g0 (Int.mul_le_mul_of_nonneg_left hb hx)
  ·exact Int.le_trans g1 (Int.mul_le_mul_of_nonpos_left hx hb')
 rcases Int.le_total 0 b with hx | hx
 ·exact Int.le_trans (side h1 h2) (Int.mul_le_mul_of_nonneg_right ha hx)
 ·exact Int.le_trans (side h3 h4) (Int.mul_le_mul_of_nonpos_right ha' hx)
theorem sumB {l x y A p B q K:Int} (hp:0<p) (hq:0<q) (hx:x*p≤A*K) (hy:y*q≤B*K) (h:l≤x+y):l*(p*q)≤(A*q+B*p)*K:=by
 have h1:=Int.mul_le_mul_of_nonneg_right h (Int.le_of_lt (Int.mul_pos hp hq))
 have h2:=Int.mul_le_mul_of_nonneg_right hx (Int.le_of_lt hq)
 have h3:=Int.mul_le_mul_of_nonneg_right hy (Int.le_of_lt hp)
 have e1:(x+y)*(p*q)=x*p*q+y*q*p:=by grind
 have e2:(A*q+B*p)*K=A*K*q+B*K*p:=by grind
 rw [e2];rw [e1] at h1
 exact Int.le_trans h1 (Int.add_le_add h2 h3)
theorem SN {l x y A p B q K:Int} (hp:0<p) (hq:0<q) (hx:A*K≤x*p) (hy:B*K≤y*q) (h:x+y≤l):(A*q+B*p)*K≤l*(p*q):=by
 have h1:=Int.mul_le_mul_of_nonneg_right h (Int.le_of_lt (Int.mul_pos hp hq))
 have h2:=Int.mul_le_mul_of_nonneg_right hx (Int.le_of_lt hq)
 have h3:=Int.mul_le_mul_of_nonneg_right hy (Int.le_of_lt hp)
 have e1:(x+y)*(p*q)=x*p*q+y*q*p:=by grind
 have e2:(A*q+B*p)*K=A*K*q+B*K*p:=by grind
 rw [e2];rw [e1] at h1
 exact Int.le_trans (Int.add_le_add h2 h3) h1
theorem SF {L x0 x1 y0 y1 A B p q K r1 r2 r3 r4:Int} (hK:0<K) (hp:0<p) (hq:0<q) (e1:r1*K=x0*y0) (e2:r2*K=x0*y1) (e3:r3*K=x1*y0) (e4:r4*K=x1*y1)
  (h1:L≤r1) (h2:L≤r2) (h3:L≤r3) (h4:L≤r4) (a0:x0*p≤A*K) (a1:A*K≤x1*p) (b0:y0*q≤B*K) (b1:B*K≤y1*q):L*(p*q)≤A*B*K:=by
 have hpq:0≤K*(p*q):=Int.le_of_lt (Int.mul_pos hK (Int.mul_pos hp hq))
 have c:∀ {r x y:Int},r*K=x*y→L≤r→L*(K*(p*q))≤x*p*(y*q):=by
  intro r x y e h
  refine Int.le_trans (Int.mul_le_mul_of_nonneg_right h hpq) (Int.le_of_eq ?_)
  rw [←Int.mul_assoc,e];grind
 have h:=corner (c e1 h1) (c e2 h2) (c e3 h3) (c e4 h4) a0 a1 b0 b1
 refine Int.le_of_mul_le_mul_right ?_ hK
 have g1:L*(p*q)*K=L*(K*(p*q)):=by grind
 have g2:A*B*K*K=A*K*(B*K):=by grind
 rw [g1,g2];exact h
theorem carry {L M N n d K:Int} (h:L*M≤N*K) (hM:0<M) (e:n*M=N*d) (hd:0≤d):L*d≤n*K:=by
 have h1:=Int.mul_le_mul_of_nonneg_right h hd
 refine Int.le_of_mul_le_mul_right ?_ hM
 have g1:L*d*M=L*M*d:=Int.mul_right_comm ..
 have g2:n*K*M=N*K*d:=by rw [Int.mul_right_comm,e,Int.mul_right_comm]
 rw [g1,g2];exact h1
theorem carry' {L M N n d K:Int} (h:N*K≤L*M) (hM:0<M) (e:n*M=N*d) (hd:0≤d):n*K≤L*d:=by
 have:=carry (L:=-L) (N:=-N) (n:=-n) (M:=M) (d:=d) (K:=K) (by rw [Int.neg_mul,Int.neg_mul];omega) hM (by rw [Int.neg_mul,Int.neg_mul,e]) hd
 rw [Int.neg_mul,Int.neg_mul] at this
 omega
theorem SG {a b:Int} (hb:0≤b) (h:a*a≤b*b):a≤b:=by
 refine Int.not_lt.1 fun hlt=>?_
 have h1:=Int.mul_le_mul_of_nonneg_left (Int.le_of_lt hlt) hb
 have h2:=Int.mul_lt_mul_of_pos_right hlt (Int.lt_of_le_of_lt hb hlt)
 omega
theorem rootB {l x D S p A K:Int} (hK:0<K) (hD:0<D) (hA:0≤A) (h1:l*l≤x*K) (h2:x*D≤S*K) (e:S*(p*p)=A*A*D):l*p≤A*K:=by
 refine SG (Int.mul_nonneg hA (Int.le_of_lt hK)) ?_
 refine Int.le_of_mul_le_mul_right ?_ hD
 have hp:0≤p*p:=(by rcases Int.le_total 0 p with h | h;exact Int.mul_nonneg h h;exact Int.mul_nonneg_of_nonpos_of_nonpos h h)
 have g1:=Int.mul_le_mul_of_nonneg_right (Int.mul_le_mul_of_nonneg_right h1 (Int.le_of_lt hD)) hp
 have g2:=Int.mul_le_mul_of_nonneg_right (Int.mul_le_mul_of_nonneg_right h2 (Int.le_of_lt hK)) hp
 have c1:l*p*(l*p)*D=l*l*D*(p*p):=by grind
 have c2:x*K*D*(p*p)=x*D*K*(p*p):=by grind
 have c3:S*K*K*(p*p)=A*K*(A*K)*D:=by
  have:S*K*K*(p*p)=S*(p*p)*(K*K):=by grind
  rw [this,e];grind
 rw [c1,←c3]
 exact Int.le_trans g1 (by rw [c2];exact g2)
theorem rootB' {l x D S p A K:Int} (hK:0<K) (hD:0<D) (hl:0≤l) (hp:0≤p) (h1:x*K≤l*l) (h2:S*K≤x*D) (e:S*(p*p)=A*A*D):A*K≤l*p:=by
 refine SG (Int.mul_nonneg hl hp) ?_
 refine Int.le_of_mul_le_mul_right ?_ hD
 have hp:0≤p*p:=Int.mul_nonneg hp hp
 have g1:=Int.mul_le_mul_of_nonneg_right (Int.mul_le_mul_of_nonneg_right h1 (Int.le_of_lt hD)) hp
 have g2:=Int.mul_le_mul_of_nonneg_right (Int.mul_le_mul_of_nonneg_right h2 (Int.le_of_lt hK)) hp
 have c1:l*p*(l*p)*D=l*l*D*(p*p):=by grind
 have c2:x*K*D*(p*p)=x*D*K*(p*p):=by grind
 have c3:S*K*K*(p*p)=A*K*(A*K)*D:=by
  have:S*K*K*(p*p)=S*(p*p)*(K*K):=by grind
  rw [this,e];grind
 rw [c1,←c3]
 exact Int.le_trans g2 (by rw [←c2];exact g1)
def inc (N D:Nat) (s:Bool) (dir:Int):Nat:=if up (decide (N%D=0)) (sgnc (2*(N%D)) D) (decide (N/D%2=1)) s dir=true then 1 else 0
theorem inc_le (N D:Nat) (s:Bool) (dir:Int):inc N D s dir≤1:=by unfold inc;split<;>decide
theorem inc_0 {N D:Nat} {s:Bool} {dir:Int} (h:N%D=0):inc N D s dir=0:=by
 unfold inc;rw [decide_eq_true h];rfl
theorem RP (s:Bool) (N D:Nat) (e dir:Int):rn s N D e dir=nz s (N/D+inc N D s dir) e:=rfl
theorem isR_le {b:Nat} {s:Bool} {n d:Nat} {r:Aj} (hd:d≠0) {i j:Nat} (hij:r.e=(i:Int) - j) :
  (IsR b 5 s n d r→Z r.m.Neg r.m.Abs*(2^i:Nat)*d≤Z s n*(2^j:Nat))∧(IsR b 4 s n d r→Z s n*(2^j:Nat)≤Z r.m.Neg r.m.Abs*(2^i:Nat)*d):=by
 have key:∀(u v M:Nat),r=nz s M ((v:Int) - u)→Z r.m.Neg r.m.Abs*(2^i:Nat)*(2^u:Nat)=Z s M*(2^v:Nat)*(2^j:Nat):=by
  intro u v M hr
  have h1:=(Lz s M ((v:Int) - u)).2 (i+u) (j+v) (by rw [←hr];omega)
  rw [←hr,p2add,p2add] at h1
  rw [Int.mul_assoc,h1]
  simp only [Int.mul_assoc,Int.mul_comm,Int.mul_left_comm]
 have dm:∀N D:Nat,D≠0→N/D*D≤N∧N≤(N/D+(if N%D=0 then 0 else 1))*D:=by
  intro N D hD
  have h1:=Nat.div_add_mod N D
  have h2:=Nat.mod_lt N (Nat.pos_of_ne_zero hD)
  rw [Nat.mul_comm] at h1
  constructor
  ·omega
  ·rw [Nat.add_mul]
   by_cases h:N%D=0
   ·rw [if_pos h];omega
   ·rw [if_neg h];omega
 have fin:∀(u v M:Nat),r=nz s M ((v:Int) - u)→(Z s M*(d*2^v:Nat)≤Z s (n*2^u)→Z r.m.Neg r.m.Abs*(2^i:Nat)*d≤Z s n*(2^j:Nat))∧(Z s (n*2^u)≤Z s M*(d*2^v:Nat)→Z s n*(2^j:Nat)≤Z r.m.Neg r.m.Abs*(2^i:Nat)*d):=by
  intro u v M hr
  have k:=key u v M hr
  have e1:Z r.m.Neg r.m.Abs*(2^i:Nat)*d*(2^u:Nat)=Z s M*(d*2^v:Nat)*(2^j:Nat):=by
   have e2:Z r.m.Neg r.m.Abs*(2^i:Nat)*d*(2^u:Nat)=Z r.m.Neg r.m.Abs*(2^i:Nat)*(2^u:Nat)*d:=by simp only [Int.mul_assoc,Int.mul_comm,Int.mul_left_comm]
   rw [e2,k,Int.natCast_mul]
   simp only [Int.mul_assoc,Int.mul_comm,Int.mul_left_comm]
  have e3:Z s (n*2^u)*(2^j:Nat)=Z s n*(2^j:Nat)*(2^u:Nat):=by
   rw [GB];simp only [Int.mul_assoc,Int.mul_comm,Int.mul_left_comm]
  constructor
  ·intro h
   refine Int.le_of_mul_le_mul_right (a:=((2^u:Nat):Int)) ?_ (p2 u)
   rw [e1,←e3]
   exact Int.mul_le_mul_of_nonneg_right h (Int.le_of_lt (p2 j))
  ·intro h
   refine Int.le_of_mul_le_mul_right (a:=((2^u:Nat):Int)) ?_ (p2 u)
   rw [e1,←e3]
   exact Int.mul_le_mul_of_nonneg_right h (Int.le_of_lt (p2 j))
 have zero:n=0∧r=⟨⟨false,0⟩,0⟩→Z r.m.Neg r.m.Abs*(2^i:Nat)*d=0∧Z s n*(2^j:Nat)=0:=by
  rintro ⟨h1,h2⟩
  rw [h1,h2]
  simp only
  rw [Z0,Z0,Int.zero_mul,Int.zero_mul,Int.zero_mul];exact ⟨rfl,rfl⟩
 have hZ:∀x y D:Nat,(Z false x*(D:Int)≤Z false y↔x*D≤y)∧(Z true x*(D:Int)≤Z true y↔y≤x*D)∧(Z false y≤Z false x*(D:Int)↔y≤x*D)∧(Z true y≤Z true x*(D:Int)↔x*D≤y):=by
  intro x y D
  rw [←GB,←GB]
  exact ⟨Ot.1,Ot.2,Ot.1,Ot.2⟩
 constructor
 ·rintro (h | ⟨h0,u,v,hr,_⟩)
  ·obtain ⟨a,b⟩:=zero h
   rw [a,b];exact Int.le_refl _
  ·rw [rn5] at hr
   refine (fin u v _ hr).1 ?_
   have hD:d*2^v≠0:=by have:=Nat.mul_pos (Nat.pos_of_ne_zero hd) (Nat.two_pow_pos v);omega
   have:=dm (n*2^u) (d*2^v) hD
   cases s
   ·exact (hZ _ _ _).1.2 this.1
   ·exact (hZ _ _ _).2.1.2 this.2
 ·rintro (h | ⟨h0,u,v,hr,_⟩)
  ·obtain ⟨a,b⟩:=zero h
   rw [a,b];exact Int.le_refl _
  ·rw [rn4] at hr
   refine (fin u v _ hr).2 ?_
   have hD:d*2^v≠0:=by have:=Nat.mul_pos (Nat.pos_of_ne_zero hd) (Nat.two_pow_pos v);omega
   have:=dm (n*2^u) (d*2^v) hD
   cases s
   ·exact (hZ _ _ _).2.2.1.2 this.2
   ·exact (hZ _ _ _).2.2.2.2 this.1
theorem isR_self {r:Aj} {B i j:Nat} {dir:Int} (hr:r.m.Abs%2=1∨r=⟨⟨false,0⟩,0⟩) (hb:bl r.m.Abs≤B) (hB:B≤100000) (hij:r.e=(i:Int) - j) (hi:i≤100000) (hj:j≤100000):IsR B dir r.m.Neg (r.m.Abs*2^i) (2^j) r:=by
 rcases hr with hr | hr
 ·have h0:r.m.Abs≠0:=by omega
  refine Or.inr ⟨?_,j+(B - bl r.m.Abs),i,?_,?_,?_,by omega,by omega⟩
  ·have:=Nat.mul_pos (Nat.pos_of_ne_zero h0) (Nat.two_pow_pos i);omega
  all_goals
   have e1:r.m.Abs*2^i*2^(j+(B - bl r.m.Abs))=r.m.Abs*2^(B - bl r.m.Abs)*(2^j*2^i):=by
    rw [Nat.pow_add];simp only [Nat.mul_assoc,Nat.mul_comm,Nat.mul_left_comm]
   have hp:0<2^j*2^i:=Nat.mul_pos (Nat.two_pow_pos _) (Nat.two_pow_pos _)
   rw [e1]
  ·rw [RP,inc_0 (Nat.mul_mod_left _ _),Nat.mul_div_cancel _ hp,Nat.add_zero]
   have:=nz_shl' r.m.Neg r.m.Abs (B - bl r.m.Abs) r.e ((i:Int) - ((j+(B - bl r.m.Abs):Nat):Int)) (by omega)
   rw [this,Qh hr]
  ·rw [Nat.mul_div_cancel _ hp]
   have:=(Di h0).2.1
   calc r.m.Abs*2^(B - bl r.m.Abs)<2^bl r.m.Abs*2^(B - bl r.m.Abs):=Nat.mul_lt_mul_of_pos_right this (Nat.two_pow_pos _)
    _=2^B:=by rw [←Nat.pow_add];congr 1;omega
  ·rw [Nat.mul_div_cancel _ hp]
   obtain ⟨a1,a2,a3⟩:=Di h0
   calc 2^(B - 1)=2^(bl r.m.Abs - 1)*2^(B - bl r.m.Abs):=by rw [←Nat.pow_add];congr 1;omega
    _≤r.m.Abs*2^(B - bl r.m.Abs):=Nat.mul_le_mul_right _ a1
 ·subst hr
  refine Or.inl ⟨?_,rfl⟩
  simp
theorem QD {s:Bool} {M b:Nat} {e:Int} (hb:1≤b) (hM:M≤2^b):bl (nz s M e).m.Abs≤b∧((nz s M e).m.Abs%2=1∨nz s M e=⟨⟨false,0⟩,0⟩)∧(M≠0→e≤(nz s M e).e∧(nz s M e).e≤e+b+1):=by
 unfold nz
 by_cases hM0:M=0
 ·rw [if_pos hM0];exact ⟨by simp only;rw [FG];omega,Or.inr rfl,fun h=>absurd hM0 h⟩
 ·rw [if_neg hM0]
  simp only
  obtain ⟨t,ht,hz⟩:=Hn hM0
  have h8:M/2^tz M=2*t+1:=by
   generalize tz M=z at *
   rw [ht,Nat.mul_div_cancel_left _ (Nat.two_pow_pos z)]
  refine ⟨Eb.2 ?_,Or.inl (by rw [h8];omega),fun _=>?_⟩
  ·rcases Nat.lt_or_eq_of_le hM with h1 | h1
   ·exact Nat.lt_of_le_of_lt (Nat.div_le_self _ _) h1
   ·have htz:tz M≠0:=by
     intro h
     rw [h,Nat.pow_zero,Nat.one_mul] at ht
     have:2^b=2*2^(b - 1):=by rw [Nat.mul_comm,←Nat.pow_succ];congr 1;omega
     omega
    refine Nat.lt_of_lt_of_le (Nat.div_lt_self (by omega) ?_) hM
    exact Nat.lt_of_lt_of_le (by decide:1<2^1) (Nat.pow_le_pow_right (by decide) (by omega))
  ·have h9:bl M≤b+1:=Eb.2 (Nat.lt_of_le_of_lt hM (Nat.pow_lt_pow_right (by decide) (Nat.lt_succ_self b)))
   omega
theorem isR_E {b:Nat} {dir:Int} {s:Bool} {n d:Nat} {r:Aj} (hb:1≤b) (hd:d≠0) (h:IsR b dir s n d r) :
  -((bl d:Int)+b)≤r.e∧r.e≤bl n+3∧bl r.m.Abs≤b:=by
 rcases h with ⟨_,hr⟩ | ⟨h0,u,v,hr,h3,h4,_,_⟩
 ·subst hr;exact ⟨by simp only;omega,by simp only;omega,by simp only;rw [FG];omega⟩
 ·obtain ⟨a1,a2,a3⟩:=Di h0
  obtain ⟨b1,b2,b3⟩:=Di hd
  have hD:0<d*2^v:=Nat.mul_pos (by omega) (Nat.two_pow_pos v)
  have g1:2^(b - 1+(bl d - 1+v))<2^(bl n+u):=by
   rw [Nat.le_div_iff_mul_le hD] at h4
   calc 2^(b - 1+(bl d - 1+v))=2^(b - 1)*(2^(bl d - 1)*2^v):=by rw [Nat.pow_add,Nat.pow_add]
    _≤2^(b - 1)*(d*2^v):=Nat.mul_le_mul_left _ (Nat.mul_le_mul_right _ b1)
    _≤n*2^u:=h4
    _<2^bl n*2^u:=Nat.mul_lt_mul_of_pos_right a2 (Nat.two_pow_pos u)
    _=2^(bl n+u):=by rw [Nat.pow_add]
  have g2:2^(bl n - 1+u)<2^(b+(bl d+v)):=by
   rw [Nat.div_lt_iff_lt_mul hD] at h3
   calc 2^(bl n - 1+u)=2^(bl n - 1)*2^u:=by rw [Nat.pow_add]
    _≤n*2^u:=Nat.mul_le_mul_right _ a1
    _<2^b*(d*2^v):=h3
    _≤2^b*(2^bl d*2^v):=Nat.mul_le_mul_left _ (Nat.mul_le_mul_right _ (Nat.le_of_lt b2))
    _=2^(b+(bl d+v)):=by rw [Nat.pow_add,Nat.pow_add]
  have g3:=(Nat.pow_lt_pow_iff_right (by decide:1<2)).1 g1
  have g4:=(Nat.pow_lt_pow_iff_right (by decide:1<2)).1 g2
  have hi:=inc_le (n*2^u) (d*2^v) s dir
  rw [RP] at hr
  have hM0:n*2^u/(d*2^v)+inc (n*2^u) (d*2^v) s dir≠0:=by
   have:=Nat.two_pow_pos (b - 1)
   intro h
   have:=(Nat.add_eq_zero_iff.1 h).1
   rw [this] at h4
   omega
  have hM:n*2^u/(d*2^v)+inc (n*2^u) (d*2^v) s dir≤2^b:=Nat.le_trans (Nat.add_le_add_left hi _) h3
  generalize n*2^u/(d*2^v)+inc (n*2^u) (d*2^v) s dir=M at *
  obtain ⟨c1,c2,c3⟩:=QD (s:=s) (e:=(v:Int) - u) hb hM
  obtain ⟨c4,c5⟩:=c3 hM0
  rw [←hr] at c1 c4 c5
  exact ⟨by omega,by omega,c1⟩
def K6:Nat:=6000
def KK:Int:=(2^K6:Nat)
theorem KK0:0<KK:=p2 K6
def V (d:Al):Int:=Z d.Man.Neg d.Man.Abs*(2^(d.Exp+6000).toNat:Nat)
theorem mkLt {d:Al} (hd:VT d) (h1:bl d.Man.Abs≤9000) (h2 : -5000≤d.Exp) (h3:d.Exp≤5000):Lt d:=⟨⟨fun h=>(hd.z h).1,by omega,h2,h3⟩,h1⟩
theorem vV {x:Al} (hx:VT x) (lx:Lt x):VEq (ofD x) (V x) (-6000):=by
 have:=lx.1.l
 exact hx.veq.base (p:=(x.Exp+6000).toNat) (q:=0) (by omega) (by unfold V;simp)
structure En (r:Aj) (m:Nat) (lo hi:Int):Prop where
 c:Cb r
 v:VT (toD r)
 l:Lt (toD r)
 m:bl r.m.Abs≤m
 lo:lo≤r.e
 hi:r.e≤hi
theorem OG {b:Nat} {dir:Int} {s:Bool} {n d:Nat} {r:Aj} (hb:1≤b) (hb':b≤500) (hd:d≠0) (hn:bl n≤4900) (hd':bl d≤4400) (h:IsR b dir s n d r) :
  En r b (-((bl d:Int)+b)) (bl n+3)∧(dir=5→V (toD r)*d≤Z s n*KK)∧(dir=4→Z s n*KK≤V (toD r)*d):=by
 obtain ⟨e1,e2,e3⟩:=isR_E hb hd h
 have hc:Cb r:=isR_bd (by omega) h
 have hv:VT (toD r):=VT.of hc
 have hl:Lt (toD r):=mkLt hv (by show bl r.m.Abs≤_;omega) (by show _≤r.e;omega) (by show r.e≤_;omega)
 have hij:r.e=((r.e+6000).toNat:Int) - (K6:Nat):=by unfold K6;omega
 have g:=isR_le (b:=b) (s:=s) (n:=n) (r:=r) hd hij
 refine ⟨⟨hc,hv,hl,e3,e1,e2⟩,fun h5=>?_,fun h4=>?_⟩
 ·subst h5;exact g.1 h
 ·subst h4;exact g.2 h
theorem Sn (d:Al) (b:Nat) (dir:Int) (hd:VT d) (hm:bl d.Man.Abs≤9000) (h1 : -5000≤d.Exp) (h2:d.Exp≤5000) (hb:1≤b) (hb':b≤4096) (i j:Nat) (hij:d.Exp=(i:Int) - j) (hi:i≤10000) (hj:j≤10000) :
  ∃r,AH (ofD d) (b:Int) dir false=some r∧IsR b dir d.Man.Neg (d.Man.Abs*2^i) (2^j) r:=by
 by_cases h0:d.Man.Abs=0
 ·obtain ⟨z1,z2⟩:=hd.z h0
  refine ⟨⟨⟨false,0⟩,0⟩,?_,Or.inl ⟨by rw [h0,Nat.zero_mul],rfl⟩⟩
  have:ofD d=⟨⟨false,0⟩,0⟩:=by
   obtain ⟨⟨s,n⟩,e⟩:=d
   simp only at h0 z1 z2
   subst h0 z1 z2;rfl
  rw [this]
  unfold AH
  rw [wBits (show Sm 0 from sm0),sB,FG,w64 (x:=((0:Nat):Int) - (b:Int)) (by omega) (by omega),if_pos (by omega),sB,if_pos (by decide)]
  rfl
 ·have hodd:=(hd.o h0).1
  obtain ⟨⟨s,q⟩,e⟩:=d
  simp only at hm h1 h2 hij h0 hodd
  by_cases h:bl q≤b
  ·refine ⟨⟨⟨s,q⟩,e⟩,?_,isR_self (r:=⟨⟨s,q⟩,e⟩) (Or.inl hodd) h (by omega) hij (by omega) (by omega)⟩
   show AH ⟨⟨s,q⟩,e⟩ (b:Int) dir false=_
   unfold AH
   rw [wBits (by unfold Sm;simp only;omega),sB,w64 (x:=(bl q:Int) - (b:Int)) (by omega) (by omega),if_pos (by omega),sB,if_pos (by decide),normal _ _ _ (by unfold Sm;omega) (by simp only;omega) (by simp only;omega),Qh hodd]
   rfl
  ·have hpr:=round1 s q b e dir (by omega) hb (by omega) (by omega) (by omega)
   refine ⟨_,hpr,Or.inr ⟨?_,j,i+(bl q - b),?_,?_,?_,by omega,by omega⟩⟩
   ·have:=Nat.mul_pos (Nat.pos_of_ne_zero h0) (Nat.two_pow_pos i);exact Nat.pos_iff_ne_zero.1 this
   all_goals
    have e1:q*2^i*2^j=q*2^(i+j):=by rw [Nat.mul_assoc,←Nat.pow_add]
    have e2:2^j*2^(i+(bl q - b))=2^(bl q - b)*2^(i+j):=by rw [←Nat.pow_add,←Nat.pow_add];congr 1;omega
    obtain ⟨b1,b2,b3⟩:=Di h0
   ·show rn s q (2^(bl q - b)) (e+((bl q - b:Nat):Int)) dir=_
    rw [show ((i+(bl q - b):Nat):Int) - (j:Int)=e+((bl q - b:Nat):Int) by omega]
    refine OS _ _ (Nat.two_pow_pos _) (Nat.mul_pos (Nat.two_pow_pos _) (Nat.two_pow_pos _)) ?_
    show q*(2^j*2^(i+(bl q - b)))=q*2^i*2^j*2^(bl q - b)
    rw [e1,e2,←Nat.mul_assoc,Nat.mul_right_comm]
   ·show q*2^i*2^j/(2^j*2^(i+(bl q - b)))<_
    rw [e1,e2,Nat.mul_div_mul_right _ _ (Nat.two_pow_pos _),Nat.div_lt_iff_lt_mul (Nat.two_pow_pos _),←Nat.pow_add,show b+(bl q - b)=bl q by omega];exact b2
   ·show _≤q*2^i*2^j/(2^j*2^(i+(bl q - b)))
    rw [e1,e2,Nat.mul_div_mul_right _ _ (Nat.two_pow_pos _),Nat.le_div_iff_mul_le (Nat.two_pow_pos _),←Nat.pow_add,show b - 1+(bl q - b)=bl q - 1 by omega];exact b1
theorem Ql (d:Al) (b:Nat) (hd:VT d) (hm:bl d.Man.Abs≤3000) (h1 : -2600≤d.Exp) (h2:d.Exp+bl d.Man.Abs≤4000) (h3:d.Exp≤4000) (hb:1≤b) (hb':b≤500) :
  ∃r5 r4,AH (ofD d) (b:Int) 5 false=some r5∧AH (ofD d) (b:Int) 4 false=some r4∧En r5 b (-5000) 5000∧En r4 b (-5000) 5000∧V (toD r5)≤V d∧V d≤V (toD r4):=by
 obtain ⟨i,j,hij,hi,hj,hz⟩:∃i j:Nat,d.Exp=(i:Int) - j∧i≤4000∧j≤2600∧bl d.Man.Abs+i≤4800:=⟨d.Exp.toNat,(-d.Exp).toNat,by omega,by omega,by omega,by omega⟩
 obtain ⟨r5,p5,i5⟩:=Sn d b 5 hd (by omega) (by omega) (by omega) hb (by omega) i j hij (by omega) (by omega)
 obtain ⟨r4,p4,i4⟩:=Sn d b 4 hd (by omega) (by omega) (by omega) hb (by omega) i j hij (by omega) (by omega)
 have hp:2^j≠0:=Nat.pos_iff_ne_zero.1 (Nat.two_pow_pos j)
 have bn:bl (d.Man.Abs*2^i)≤4800:=Nat.le_trans (Kr _ _) hz
 have bd:=bl_pow j
 obtain ⟨n5,a5,_⟩:=OG hb hb' hp (by omega) (by omega) i5
 obtain ⟨n4,_,a4⟩:=OG hb hb' hp (by omega) (by omega) i4
 have e:V d*((2^j:Nat):Int)=Z d.Man.Neg (d.Man.Abs*2^i)*KK:=by
  unfold V KK
  rw [GB,Int.mul_assoc,Int.mul_assoc,←p2add,←p2add]
  congr 3
  unfold K6;omega
 have hpj:=p2 j
 refine ⟨r5,r4,p5,p4,⟨n5.c,n5.v,n5.l,n5.m,by have:=n5.lo;omega,by have:=n5.hi;omega⟩,⟨n4.c,n4.v,n4.l,n4.m,by have:=n4.lo;omega,by have:=n4.hi;omega⟩,?_,?_⟩
 ·exact Int.le_of_mul_le_mul_right (by rw [e];exact a5 rfl) hpj
 ·exact Int.le_of_mul_le_mul_right (by rw [e];exact a4 rfl) hpj
theorem quotientB (s t:Bool) (n d:Nat) (e f:Int) (b:Nat) (dir:Int) (hn:n≠0) (hd:d≠0) (hb:1≤b) (hb':b≤10000) (hns:bl n≤10000) (hds:bl d≤10000)
  (he : -1000000≤e) (he':e≤1000000) (hf : -1000000≤f) (hf':f≤1000000) :
  ∃u v:Nat,AM ⟨⟨s,n⟩,e⟩ ⟨⟨t,d⟩,f⟩ (b:Int) dir=some (rn (decide (¬s=t)) (n*2^u) (d*2^v) (e - f+v - u) dir)∧
   n*2^u/(d*2^v)<2^b∧2^(b - 1)≤n*2^u/(d*2^v)∧u≤100000∧v≤100000:=by
 obtain ⟨k,hk⟩:∃k:Nat,max 0 (wi64 (wi64 (wi64 ((b:Int)+2)+(bl d:Int)) - (bl n:Int)))=(k:Int):=⟨(max 0 (wi64 (wi64 (wi64 ((b:Int)+2)+(bl d:Int)) - (bl n:Int)))).toNat,by omega⟩
 have hk2:max 0 ((b:Int)+2+(bl d:Int) - (bl n:Int))=(k:Int):=by
  rwa [w64 (x:=(b:Int)+2) (by omega) (by omega),w64 (x:=(b:Int)+2+(bl d:Int)) (by omega) (by omega),w64 (x:=(b:Int)+2+(bl d:Int) - (bl n:Int)) (by omega) (by omega)] at hk
 have hn1:Sm n:=by unfold Sm;omega
 have hd1:Sm d:=by unfold Sm;omega
 have hNs:Sm (n*2^k):=Qv hns (by omega)
 obtain ⟨b',hb2⟩:∃b',b' + bl d=bl n+k:=⟨bl n+k - bl d,by omega⟩
 have hg:=floor_ge (b:=b') (u:=k) (v:=0) hd hn (by omega) (by omega)
 rw [Nat.pow_zero,Nat.mul_one] at hg
 have hQs:Sm (n*2^k/d):=Im (Nat.div_le_self _ _) hNs
 have hbQ:b+2≤bl (n*2^k/d):=by
  refine Nat.le_of_not_lt fun h=>?_
  have h2:=Eb.1 (show bl (n*2^k/d)≤b' - 1 by omega)
  omega
 have hbd:=Di (n:=n*2^k/d) (by intro h;rw [h,FG] at hbQ;omega)
 have hQn:bl (n*2^k/d)≤1000000:=hQs
 have hQk:bl (n*2^k/d)≤bl n+k:=Nat.le_trans (Jp _ _) (Kr n k)
 refine ⟨k,bl (n*2^k/d) - b,?_,?_,?_,by omega,by omega⟩
 ·unfold AM
  rw [sign,sB,if_neg (by rw [if_neg hn];split<;>decide),wBits hd1,sB,wBits hn1,sB]
  simp only [hk]
  rw [wShl hn1 (by omega),sB,wDiv hNs hd1 hd,sB]
  simp only [Mt]
  rw [w64 (x:=e - f) (by omega) (by omega),w64 (x:=e - f - k) (by omega) (by omega)]
  rw [Oh _ _ _ b dir (n*2^k) d hQs (by omega) rfl hb hbQ (by omega) (by omega),sB]
  congr 2
  omega
 ·rw [←Nat.div_div_eq_div_mul,Nat.div_lt_iff_lt_mul (Nat.two_pow_pos _),←Nat.pow_add,show b+(bl (n*2^k/d) - b)=bl (n*2^k/d) by omega]
  exact hbd.2.1
 ·rw [←Nat.div_div_eq_div_mul,Nat.le_div_iff_mul_le (Nat.two_pow_pos _),←Nat.pow_add,show b - 1+(bl (n*2^k/d) - b)=bl (n*2^k/d) - 1 by omega]
  exact hbd.1
theorem Ss (s t:Bool) (n d:Nat) (e f:Int) (b i j:Nat) (dir:Int) (hd:d≠0) (hb:1≤b) (hb':b≤10000) (hns:bl n≤10000) (hds:bl d≤10000)
  (he : -5000≤e) (he':e≤5000) (hf : -5000≤f) (hf':f≤5000) (hi:i≤20000) (hj:j≤20000) (hij:e - f=(i:Int) - j) :
  ∃r,AM ⟨⟨s,n⟩,e⟩ ⟨⟨t,d⟩,f⟩ (b:Int) dir=some r∧IsR b dir (decide (¬s=t)) (n*2^i) (d*2^j) r:=by
 by_cases h0:n=0
 ·subst h0
  refine ⟨⟨⟨false,0⟩,0⟩,?_,Or.inl ⟨Nat.zero_mul _,rfl⟩⟩
  unfold AM;rw [sign,sB];rfl
 ·obtain ⟨u,v,hp,h1,h2,h3,h4⟩:=quotientB s t n d e f b dir h0 hd hb hb' hns hds (by omega) (by omega) (by omega) (by omega)
  have hn0:n*2^i≠0:=by have:=Nat.mul_pos (Nat.pos_of_ne_zero h0) (Nat.two_pow_pos i);omega
  have e1:n*2^i*2^(u+j)=n*2^u*2^(i+j):=by simp only [Nat.pow_add,Nat.mul_assoc,Nat.mul_comm,Nat.mul_left_comm]
  have e2:d*2^j*2^(v+i)=d*2^v*2^(i+j):=by simp only [Nat.pow_add,Nat.mul_assoc,Nat.mul_comm,Nat.mul_left_comm]
  have e3:n*2^i*2^(u+j)/(d*2^j*2^(v+i))=n*2^u/(d*2^v):=by
   rw [e1,e2,Nat.mul_div_mul_right _ _ (Nat.two_pow_pos _)]
  have dv:0<d*2^v:=Nat.mul_pos (Nat.pos_of_ne_zero hd) (Nat.two_pow_pos v)
  refine ⟨_,hp,Or.inr ⟨hn0,u+j,v+i,?_,by rw [e3];exact h1,by rw [e3];exact h2,by omega,by omega⟩⟩
  rw [show ((v+i:Nat):Int) - ((u+j:Nat):Int)=e - f+v - u by omega,e1,e2]
  refine OS _ _ dv (Nat.mul_pos dv (Nat.two_pow_pos _)) ?_
  simp only [Nat.mul_assoc,Nat.mul_comm,Nat.mul_left_comm]
theorem Z_turn (s t:Bool) (n:Nat):Z (decide (¬s=t)) n=if t=true then - Z s n else Z s n:=by
 cases s<;>cases t<;>simp [Z]
structure L5 (d:Al):Prop where
 v:VT d
 m:bl d.Man.Abs≤640
 lo : -1200≤d.Exp
 hi:d.Exp≤800
theorem L5.lt {d:Al} (h:L5 d):Lt d:=mkLt h.v (by have:=h.m;omega) (by have:=h.lo;omega) (by have:=h.hi;omega)
theorem L5.base {d:Al} (h:L5 d):∃i:Nat,d.Exp+1200=(i:Int)∧i≤2000∧V d=Z d.Man.Neg (d.Man.Abs*2^i)*(2^(K6 - 1200):Nat)∧bl (d.Man.Abs*2^i)≤2640:=by
 have h1:=h.lo
 have h2:=h.hi
 have h3:=h.m
 refine ⟨(d.Exp+1200).toNat,by omega,by omega,?_,?_⟩
 ·unfold V
  rw [GB,Int.mul_assoc,←p2add]
  congr 3
  unfold K6;omega
 ·have:=Kr d.Man.Abs (d.Exp+1200).toNat;omega
theorem VEq.same {r:Aj} {N N' E:Int} (h:VEq r N E) (h':VEq r N' E):N=N':=by
 have hij:r.e - r.e=((0:Nat):Int) - (0:Nat):=by omega
 exact Int.le_antisymm ((h.cross h' hij).1 (Int.le_refl _)) ((h'.cross h hij).1 (Int.le_refl _))
theorem SX {r:Aj} {N E:Int} {p:Nat} (h:VEq r N E) (hv:VT (toD r)) (hl:Lt (toD r)) (hp:E+6000=p):V (toD r)=N*(2^p:Nat):=by
 have h1:VEq r (N*(2^p:Nat)) (-6000):=h.base (p:=p) (q:=0) (by omega) (by simp)
 exact (vV hv hl).same h1
theorem VEq.small {d:Al} {N E:Int} {B:Nat} (h:VEq (ofD d) N E) (hv:VT d) (hN:N.natAbs<2^B):d.Man.Abs=0∨(E≤d.Exp∧d.Exp+bl d.Man.Abs≤E+B):=by
 by_cases h0:d.Man.Abs=0
 ·exact Or.inl h0
 ·refine Or.inr ?_
  have hodd:=(hv.o h0).1
  have hE:E≤d.Exp:=by
   refine Int.not_lt.1 fun hlt=>?_
   obtain ⟨j,hj⟩:∃j:Nat,E - d.Exp=(j:Int)+1:=⟨(E - d.Exp - 1).toNat,by omega⟩
   have h1:=h.2 0 (j+1) (by show d.Exp - E=_;omega)
   rw [Nat.pow_succ,Nat.pow_zero] at h1
   have h2:Z d.Man.Neg d.Man.Abs=N*(2^j:Nat)*2:=by
    have e1:((2^j*2:Nat):Int)=(2^j:Nat)*2:=by rw [Int.natCast_mul];rfl
    have e2:Z (ofD d).m.Neg (ofD d).m.Abs=Z d.Man.Neg d.Man.Abs:=rfl
    rw [e1,e2,←Int.mul_assoc] at h1
    simpa using h1
   generalize N*((2^j:Nat):Int)=X at h2
   unfold Z at h2
   split at h2<;>omega
  obtain ⟨i,hi⟩:∃i:Nat,d.Exp - E=(i:Int):=⟨(d.Exp - E).toNat,by omega⟩
  have h1:=h.2 i 0 (by show d.Exp - E=_;omega)
  have h2:Z d.Man.Neg d.Man.Abs*(2^i:Nat)=N:=by
   have e2:Z (ofD d).m.Neg (ofD d).m.Abs=Z d.Man.Neg d.Man.Abs:=rfl
   rw [e2,Nat.pow_zero] at h1
   simpa using h1
  have h3:N.natAbs=d.Man.Abs*2^i:=by
   rw [←h2,Int.natAbs_mul,Int.natAbs_natCast]
   congr 1
   unfold Z;split
   ·rw [Int.natAbs_neg,Int.natAbs_natCast]
   ·rw [Int.natAbs_natCast]
  rw [h3] at hN
  obtain ⟨a1,a2,a3⟩:=Di h0
  have h4:2^(bl d.Man.Abs - 1+i)<2^B:=by
   rw [Nat.pow_add]
   exact Nat.lt_of_le_of_lt (Nat.mul_le_mul_right _ a1) hN
  have h5:=(Nat.pow_lt_pow_iff_right (by decide:1<2)).1 h4
  omega
theorem VEq.lt {r:Aj} {N E:Int} {B:Nat} (h:VEq r N E) (hv:VT (toD r)) (hN:N.natAbs<2^B) (hE : -2600≤E) (hE0:E≤0) (hB:E+B≤3000) (hm:bl r.m.Abs≤9000):Lt (toD r)∧-2600≤r.e∧r.e≤3000∧r.e+bl r.m.Abs≤3000:=by
 have h1:=VEq.small (d:=toD r) h hv hN
 have hr : -2600≤r.e∧r.e≤3000∧r.e+bl r.m.Abs≤3000:=by
  rcases h1 with h0 | h0
  ·have:r.e=0:=(hv.z h0).2
   have h0':r.m.Abs=0:=h0
   rw [this,h0',FG];omega
  ·have h2:E≤r.e:=h0.1
   have h3:r.e+bl r.m.Abs≤E+B:=h0.2
   omega
 exact ⟨mkLt hv hm (by show _≤r.e;omega) (by show r.e≤_;omega),hr⟩
theorem Ou (s:Bool) (n:Nat):(Z s n).natAbs=n:=by unfold Z;split<;>simp
theorem plusG (s t:Bool) (n m:Nat) (e f:Int) (i j:Nat) (hi:e+1200=i) (hj:f+1200=j) (hi':i≤2000) (hj':j≤2000) (hn:bl n≤640) (hm:bl m≤640) :
  ∃r,BD ⟨⟨s,n⟩,e⟩ ⟨⟨t,m⟩,f⟩=some r∧Cb r∧bl r.m.Abs≤2641∧VEq r (Z s (n*2^i)+Z t (m*2^j)) (-1200):=by
 have nzb:∀(σ:Bool) (M:Nat) (E:Int),bl M≤2641→bl (nz σ M E).m.Abs≤2641:=by
  intro σ M E h
  unfold nz
  split
  ·simp only;rw [FG];omega
  ·simp only;exact Nat.le_trans (Jp _ _) h
 by_cases h0:n=0
 ·subst h0
  refine ⟨_,plus0l s t m e f (by omega) (by omega) (by omega) (by omega) (by omega),Cb.of (by omega) (by omega) (by omega),nzb _ _ _ (by omega),?_⟩
  refine (Lz t m f).base (p:=j) (q:=0) (by omega) ?_
  rw [Nat.zero_mul,Z0,Int.zero_add,GB];simp
 ·by_cases h1:m=0
  ·subst h1
   refine ⟨_,plus0r s t n e f h0 (by omega) (by omega) (by omega),Cb.of (by omega) (by omega) (by omega),nzb _ _ _ (by omega),?_⟩
   refine (Lz s n e).base (p:=i) (q:=0) (by omega) ?_
   rw [Nat.zero_mul,Z0,Int.add_zero,GB];simp
  ·obtain ⟨a,ha⟩:∃a:Nat,(e - min e f).toNat=a:=⟨_,rfl⟩
   obtain ⟨c,hc⟩:∃c:Nat,(f - min e f).toNat=c:=⟨_,rfl⟩
   have hp:=plusP s t n m e f h0 h1 (by omega) (by omega) (by omega) (by omega) (by omega) (by omega) (by omega) (by omega) _ _ rfl rfl
   rw [ha,hc] at hp
   have hb:bl (addZ s (n*2^a) t (m*2^c)).2≤2641:=by
    have e1:bl (n*2^a)≤2640:=by have:=Kr n a;omega
    have e2:bl (m*2^c)≤2640:=by have:=Kr m c;omega
    generalize n*2^a=A at *
    generalize m*2^c=C at *
    have l0:=NL e1 e2
    have hsum:∀X:Nat,X≤A+C→bl X≤2641:=fun X hX=>by have:=KE hX;omega
    apply hsum
    unfold addZ
    split
    ·exact Nat.le_refl _
    ·split<;>simp only<;>omega
   obtain ⟨k,hk⟩:∃k:Nat,min e f+1200=(k:Int):=⟨(min e f+1200).toNat,by omega⟩
   refine ⟨_,hp,Cb.of (by omega) (by omega) (by omega),nzb _ _ _ hb,(Lz _ _ _).base (p:=k) (q:=0) (by omega) ?_⟩
   rw [RX,Int.add_mul,←GB,←GB,Nat.mul_assoc,Nat.mul_assoc,←Nat.pow_add,←Nat.pow_add,show a+k=i by omega,show c+k=j by omega]
   simp
theorem SC (x y:Al) (hx:L5 x) (hy:L5 y) (t:Bool) (b:Nat) (hb:1≤b) (hb':b≤500) (Y:Int) (hY:Y=Z t y.Man.Abs*(2^(y.Exp+6000).toNat:Nat)) :
  ∃r5 r4,FO (ofD x) ⟨⟨t,y.Man.Abs⟩,y.Exp⟩ (b:Int) 5=some r5∧FO (ofD x) ⟨⟨t,y.Man.Abs⟩,y.Exp⟩ (b:Int) 4=some r4∧En r5 b (-5000) 5000∧En r4 b (-5000) 5000∧V (toD r5)≤V x+Y∧V x+Y≤V (toD r4):=by
 obtain ⟨i,hi,hi',vx,bx⟩:=hx.base
 have h1:=hy.lo
 have h2:=hy.hi
 have h3:=hy.m
 have h4:=hx.lo
 have h5:=hx.hi
 have h6:=hx.m
 obtain ⟨j,hj⟩:∃j:Nat,y.Exp+1200=(j:Int):=⟨(y.Exp+1200).toNat,by omega⟩
 obtain ⟨r,hp,hc,hm,he⟩:=plusG x.Man.Neg t x.Man.Abs y.Man.Abs x.Exp y.Exp i j hi hj hi' (by omega) h6 h3
 have hv:VT (toD r):=VT.of hc
 obtain ⟨k,hk⟩:∃k:Nat,k=2640:=⟨_,rfl⟩
 have hN:(Z x.Man.Neg (x.Man.Abs*2^i)+Z t (y.Man.Abs*2^j)).natAbs<2^(k+1):=by
  have g1:x.Man.Abs*2^i<2^k:=Eb.1 (by omega)
  have g2:y.Man.Abs*2^j<2^k:=Eb.1 (Nat.le_trans (Kr _ _) (by omega))
  have g3:2^(k+1)=2^k+2^k:=Nat.two_pow_succ k
  rw [g3]
  refine Nat.lt_of_le_of_lt (Int.natAbs_add_le _ _) ?_
  rw [Ou,Ou]
  exact Nat.add_lt_add g1 g2
 obtain ⟨hl,l1,l2,l3⟩:=he.lt hv hN (by omega) (by omega) (by omega) (by omega)
 obtain ⟨r5,r4,q5,q4,n5,n4,v5,v4⟩:=Ql (toD r) b hv (by show bl r.m.Abs≤_;omega) (by show _≤r.e;omega) (by show r.e+bl r.m.Abs≤_;omega) (by show r.e≤_;omega) hb hb'
 have hV:V (toD r)=V x+Y:=by
  rw [SX he hv hl (p:=K6 - 1200) (by unfold K6;rfl),Int.add_mul,←vx,hY,GB,Int.mul_assoc,←p2add]
  congr 4
  unfold K6;omega
 rw [hV] at v5 v4
 have hnear:=nearT (ofD x) ⟨⟨t,y.Man.Abs⟩,y.Exp⟩ (by show bl x.Man.Abs≤_;omega) (by simp only;omega) (by show _≤x.Exp;omega) (by show x.Exp≤_;omega) (by simp only;omega) (by simp only;omega)
 have hp':BD (ofD x) ⟨⟨t,y.Man.Abs⟩,y.Exp⟩=some r:=hp
 have hq:ofD (toD r)=r:=rfl
 rw [hq] at q5 q4
 refine ⟨r5,r4,?_,?_,n5,n4,v5,v4⟩
 ·unfold FO;rw [hnear,sB,if_pos rfl,hp',sB,q5,sB]
 ·unfold FO;rw [hnear,sB,if_pos rfl,hp',sB,q4,sB]
theorem Pi (x y:Al) (hx:L5 x) (hy:L5 y):∃r,CV (ofD x) (ofD y)=some r∧Cb r∧VT (toD r)∧Lt (toD r)∧V (toD r)*KK=V x*V y∧bl r.m.Abs≤1280∧-2600≤r.e∧r.e≤3000∧r.e+bl r.m.Abs≤3000:=by
 have h1:=hy.lo
 have h2:=hy.hi
 have h3:=hy.m
 have h4:=hx.lo
 have h5:=hx.hi
 have h6:=hx.m
 have hp:=Ov x.Man.Neg y.Man.Neg x.Man.Abs y.Man.Abs x.Exp y.Exp (by omega) (by omega) (by omega) (by omega) (by omega) (by omega)
 have hb:=MT x.Man.Abs y.Man.Abs
 have hc:Cb (nz (decide (¬x.Man.Neg=y.Man.Neg)) (x.Man.Abs*y.Man.Abs) (x.Exp+y.Exp)):=Cb.of (by omega) (by omega) (by omega)
 have he:=Lz (decide (¬x.Man.Neg=y.Man.Neg)) (x.Man.Abs*y.Man.Abs) (x.Exp+y.Exp)
 have hm:bl (nz (decide (¬x.Man.Neg=y.Man.Neg)) (x.Man.Abs*y.Man.Abs) (x.Exp+y.Exp)).m.Abs≤1280:=by
  unfold nz
  split
  ·simp only;rw [FG];omega
  ·simp only;exact Nat.le_trans (Jp _ _) (by omega)
 generalize hr:nz (decide (¬x.Man.Neg=y.Man.Neg)) (x.Man.Abs*y.Man.Abs) (x.Exp+y.Exp)=r at hp hc he hm
 have hv:VT (toD r):=VT.of hc
 obtain ⟨i,hi⟩:∃i:Nat,x.Exp+y.Exp+2400=(i:Int):=⟨(x.Exp+y.Exp+2400).toNat,by omega⟩
 obtain ⟨k,hk⟩:∃k:Nat,k=5300:=⟨_,rfl⟩
 have hN:(Z (decide (¬x.Man.Neg=y.Man.Neg)) (x.Man.Abs*y.Man.Abs*2^i)).natAbs<2^k:=by
  rw [Ou];exact Eb.1 (Nat.le_trans (Kr _ _) (by omega))
 have he':VEq r (Z (decide (¬x.Man.Neg=y.Man.Neg)) (x.Man.Abs*y.Man.Abs*2^i)) (-2400):=he.base (p:=i) (q:=0) (by omega) (by rw [GB _ (x.Man.Abs*y.Man.Abs) (2^i)];simp)
 obtain ⟨hl,l1,l2,l3⟩:=he'.lt hv hN (by omega) (by omega) (by omega) (by omega)
 refine ⟨r,hp,hc,hv,hl,?_,hm,l1,l2,l3⟩
 rw [SX he hv hl (p:=(x.Exp+y.Exp+6000).toNat) (by omega)]
 unfold V KK
 have hz:Z (decide (¬x.Man.Neg=y.Man.Neg)) (x.Man.Abs*y.Man.Abs)=Z x.Man.Neg x.Man.Abs*Z y.Man.Neg y.Man.Abs:=by
  cases x.Man.Neg<;>cases y.Man.Neg<;>simp [Z,Int.neg_mul,Int.mul_neg]
 rw [hz,Int.mul_assoc,←p2add]
 have e1:(x.Exp+y.Exp+6000).toNat+K6=(x.Exp+6000).toNat+(y.Exp+6000).toNat:=by unfold K6;omega
 rw [e1,p2add]
 simp only [Int.mul_assoc,Int.mul_comm,Int.mul_left_comm]
theorem QF (x y:Al) (hx:L5 x) (hy:L5 y) (b:Nat) (hb:1≤b) (hb':b≤500) (h0:y.Man.Abs≠0) :
  ∃l u,AM (ofD x) (ofD y) (b:Int) 5=some l∧AM (ofD x) (ofD y) (b:Int) 4=some u∧En l b (-5000) 5000∧En u b (-5000) 5000∧
   (0<V y→V (toD l)*V y≤V x*KK∧V x*KK≤V (toD u)*V y)∧(V y<0→V x*KK≤V (toD l)*V y∧V (toD u)*V y≤V x*KK):=by
 obtain ⟨i,hi,hi',vx,bx⟩:=hx.base
 obtain ⟨j,hj,hj',vy,bY⟩:=hy.base
 have h1:=hy.lo
 have h2:=hy.hi
 have h3:=hy.m
 have h4:=hx.lo
 have h5:=hx.hi
 have h6:=hx.m
 obtain ⟨l,p5,i5⟩:=Ss x.Man.Neg y.Man.Neg x.Man.Abs y.Man.Abs x.Exp y.Exp b i j 5 h0 hb (by omega) (by omega) (by omega) (by omega) (by omega) (by omega) (by omega) (by omega) (by omega) (by omega)
 obtain ⟨u,p4,i4⟩:=Ss x.Man.Neg y.Man.Neg x.Man.Abs y.Man.Abs x.Exp y.Exp b i j 4 h0 hb (by omega) (by omega) (by omega) (by omega) (by omega) (by omega) (by omega) (by omega) (by omega) (by omega)
 have hd:y.Man.Abs*2^j≠0:=Nat.pos_iff_ne_zero.1 (Nat.mul_pos (Nat.pos_of_ne_zero h0) (Nat.two_pow_pos j))
 obtain ⟨n5,a5,_⟩:=OG hb hb' hd (by omega) (by omega) i5
 obtain ⟨n4,_,a4⟩:=OG hb hb' hd (by omega) (by omega) i4
 have a5:=a5 rfl
 have a4:=a4 rfl
 have hP:=p2 (K6 - 1200)
 have m5:=Int.mul_le_mul_of_nonneg_right a5 (Int.le_of_lt hP)
 have m4:=Int.mul_le_mul_of_nonneg_right a4 (Int.le_of_lt hP)
 generalize ((2^(K6 - 1200):Nat):Int)=P at *
 have hdp:(0:Int)<((y.Man.Abs*2^j:Nat):Int):=by omega
 refine ⟨l,u,p5,p4,⟨n5.c,n5.v,n5.l,n5.m,by have:=n5.lo;omega,by have:=n5.hi;omega⟩,⟨n4.c,n4.v,n4.l,n4.m,by have:=n4.lo;omega,by have:=n4.hi;omega⟩,?_⟩
 rw [Z_turn] at m5 m4
 rw [vx,vy]
 cases hs:y.Man.Neg
 ·rw [hs,if_neg (by decide)] at m5 m4
  have hz:Z false (y.Man.Abs*2^j)=((y.Man.Abs*2^j:Nat):Int):=rfl
  rw [hz]
  refine ⟨fun _=>⟨?_,?_⟩,fun h=>?_⟩
  ·rw [←Int.mul_assoc]
   refine Int.le_trans m5 (Int.le_of_eq (Int.mul_right_comm ..))
  ·rw [←Int.mul_assoc]
   refine Int.le_trans (Int.le_of_eq (Int.mul_right_comm ..)) m4
  ·have:=Int.mul_pos hdp hP;omega
 ·rw [hs,if_pos rfl] at m5 m4
  have hz:Z true (y.Man.Abs*2^j) = -((y.Man.Abs*2^j:Nat):Int):=rfl
  rw [hz]
  refine ⟨fun h=>?_,fun _=>⟨?_,?_⟩⟩
  ·have:=Int.mul_pos hdp hP
   rw [Int.neg_mul] at h;omega
  ·rw [Int.neg_mul,Int.mul_neg,←Int.mul_assoc]
   rw [Int.neg_mul,Int.neg_mul] at m5
   have:=Int.mul_right_comm (Z x.Man.Neg (x.Man.Abs*2^i)) P KK
   omega
  ·rw [Int.neg_mul,Int.mul_neg,←Int.mul_assoc]
   rw [Int.neg_mul,Int.neg_mul] at m4
   have:=Int.mul_right_comm (Z x.Man.Neg (x.Man.Abs*2^i)) P KK
   omega
theorem rootP (s:Bool) (n b:Nat) (e:Int) (hn:n≠0) (hns:bl n≤2000) (hb:1≤b) (hb':b≤500) (he : -2000≤e) (he':e≤2000) :
  ∃(i u:Nat) (ei:Int),e - i=2*ei∧i≤1100∧u*u≤n*2^i∧n*2^i<(u+1)*(u+1)∧b+2≤bl u∧bl u≤1600∧∀dir:Int,EN ⟨⟨s,n⟩,e⟩ (b:Int) dir=some (RT (n*2^i) u b ei dir):=by
 have hnS:Sm n:=by unfold Sm;omega
 obtain ⟨i,hi,hi1,hi2,hi3⟩:∃i:Nat,(if ¬(((wi64 (e - ((max 0 ((wi64 (((wi64 (((wi64 (2*(b:Int))))+4))) - (bl n:Int)))))))))%2)=0 then some ((wi64 (((max 0 ((wi64 (((wi64 (((wi64 (2*(b:Int))))+4))) - (bl n:Int))))))+1))) else some ((max 0 ((wi64 (((wi64 (((wi64 (2*(b:Int))))+4))) - (bl n:Int)))))))=some (i:Int)∧
   (e - i)%2=0∧2*b+4≤bl n+i∧i≤1100:=by
  rw [w64 (x:=2*(b:Int)) (by omega) (by omega),w64 (x:=2*(b:Int)+4) (by omega) (by omega),w64 (x:=2*(b:Int)+4 - (bl n:Int)) (by omega) (by omega)]
  obtain ⟨u,hu⟩:∃u:Nat,max 0 (2*(b:Int)+4 - (bl n:Int))=(u:Int):=⟨(max 0 (2*(b:Int)+4 - (bl n:Int))).toNat,by omega⟩
  rw [hu,w64 (x:=e - (u:Int)) (by omega) (by omega),w64 (x:=(u:Int)+1) (by omega) (by omega)]
  by_cases h:(e - (u:Int))%2=0
  ·exact ⟨u,by rw [if_neg (by simp [h])],h,by omega,by omega⟩
  ·exact ⟨u+1,by rw [if_pos h];rfl,by omega,by omega,by omega⟩
 have hbn:=(Di hn).2.2
 have hbi:=St (k:=i) hn
 have hni:n*2^i≠0:=by have:=Nat.mul_pos (Nat.pos_of_ne_zero hn) (Nat.two_pow_pos i);omega
 obtain ⟨u,u1,u2⟩:=sqrt_ex (n*2^i)
 have hu:b+2≤bl u∧bl u≤1600:=by
  obtain ⟨b1,b2,b3⟩:=Di hni
  constructor
  ·refine Nat.le_of_not_lt fun h=>?_
   have h5:u<2^(b+1):=Eb.1 (by omega)
   have h6:(u+1)*(u+1)≤2^(b+1)*2^(b+1):=Nat.mul_le_mul h5 h5
   rw [←Nat.pow_add] at h6
   have h7:2^(b+1+(b+1))≤2^(bl (n*2^i) - 1):=Nat.pow_le_pow_right (by decide) (by omega)
   omega
  ·have:∀k,bl (n*2^i)≤k+k→bl u≤k:=fun k hk=>Eb.2 (QQ.2 (Nat.lt_of_le_of_lt u1 (Nat.lt_of_lt_of_le b2 (by rw [←Nat.pow_add];exact Nat.pow_le_pow_right (by decide) hk))))
   exact this 1600 (by omega)
 have hst:(decide (0<(Sbn.sz (n*2^i - u*u):Int)))=decide ((2*u+if n*2^i - u*u=0 then 0 else 1)%2≠0):=by
  apply decide_eq_decide.2
  rw [Mt]
  split<;>omega
 obtain ⟨ei,hei⟩:∃ei,e - (i:Int)=2*ei:=⟨(e - (i:Int))/2,by omega⟩
 refine ⟨i,u,ei,hei,hi3,u1,u2,hu.1,hu.2,fun dir=>?_⟩
 unfold EN
 rw [sign,sB,if_neg (by rw [if_neg hn];split<;>decide),wBits hnS,sB]
 simp only
 rw [hi,sB,wShl hnS (by omega),sB,wRoot _ u (by omega) hni u1 u2,sB]
 simp only
 rw [w64 (x:=e - (i:Int)) (by omega) (by omega),hei,show (2*ei).tdiv 2=ei from Int.mul_tdiv_cancel_left _ (by decide),w64 (x:=ei) (by omega) (by omega)]
 rw [hst]
 have hodd:(2*u+if n*2^i - u*u=0 then 0 else 1)/2=u:=by split<;>omega
 rw [Oh false u ei b dir (2*u+if n*2^i - u*u=0 then 0 else 1) 2 (by unfold Sm;omega) (by decide) hodd.symm hb (by omega) (by omega) (by omega),sB]
 unfold RT
 congr 2
 rw [show bl u+1 - b=(bl u - b)+1 by omega,Nat.pow_succ,Nat.mul_comm]
theorem SE (d:Al) (hd:VT d) (hm:bl d.Man.Abs≤600) (h1 : -2000≤d.Exp) (h2:d.Exp≤2000) (h0:0≤sv d.Man.Neg d.Man.Abs) (b:Nat) (hb:1≤b) (hb':b≤500) :
  ∃l u,EN (ofD d) (b:Int) 5=some l∧EN (ofD d) (b:Int) 4=some u∧En l b (-5000) 5000∧En u b (-5000) 5000∧V (toD l)*V (toD l)≤V d*KK∧V d*KK≤V (toD u)*V (toD u)∧0≤V (toD u):=by
 obtain ⟨⟨s,n⟩,e⟩:=d
 simp only at hm h1 h2 h0
 by_cases hn:n=0
 ·subst hn
  have zz:En (⟨⟨false,0⟩,0⟩:Aj) b (-5000) 5000:=by
   have hc:Cb (⟨⟨false,0⟩,0⟩:Aj):=⟨by show bl 0≤_;rw [FG];omega,by decide,by decide,false,0,0,rfl⟩
   have hv:=VT.of hc
   exact ⟨hc,hv,mkLt hv (by show bl 0≤_;rw [FG];omega) (by decide) (by decide),by show bl 0≤_;rw [FG];omega,by decide,by decide⟩
  have hV:V ⟨⟨s,0⟩,e⟩=0:=by unfold V;rw [Z0,Int.zero_mul]
  have hV2:V (toD ⟨⟨false,0⟩,0⟩)=0:=by unfold V toD;rw [Z0,Int.zero_mul]
  refine ⟨⟨⟨false,0⟩,0⟩,⟨⟨false,0⟩,0⟩,?_,?_,zz,zz,?_,?_,?_⟩
  ·unfold EN ofD;rw [sign,sB];rfl
  ·unfold EN ofD;rw [sign,sB];rfl
  ·rw [hV,hV2];simp
  ·rw [hV,hV2];simp
  ·rw [hV2];exact Int.le_refl _
 ·obtain ⟨i,u,ei,hei,hi,u1,u2,k1,k2,hp⟩:=rootP s n b e hn (by omega) hb hb' h1 h2
  have hs:s=false:=by
   cases s
   ·rfl
   ·unfold sv at h0;rw [if_neg hn,if_pos rfl] at h0;exact absurd h0 (by decide)
  subst hs
  obtain ⟨j,hj⟩:∃j,j=bl u - b:=⟨_,rfl⟩
  have hu0:u≠0:=by intro h;subst h;rw [FG] at k1;omega
  obtain ⟨c1,c2,c3⟩:=Di hu0
  have res:∀m:Nat,m≤2^b→En (nz false m (ei+j)) b (-5000) 5000∧V (toD (nz false m (ei+j)))=((m*2^j:Nat):Int)*(2^(ei+6000).toNat:Nat):=by
   intro m hM
   obtain ⟨a1,_,a3⟩:=QD (s:=false) (e:=ei+j) hb hM
   have he:=Lz false m (ei+j)
   have hbd : -3000≤(nz false m (ei+j)).e∧(nz false m (ei+j)).e≤4000:=by
    by_cases hm0:m=0
    ·subst hm0;unfold nz;rw [if_pos rfl];exact ⟨by decide,by decide⟩
    ·have:=a3 hm0;omega
   generalize hr:nz false m (ei+j)=r at *
   have hc:Cb r:=⟨by omega,by omega,by omega,false,m,ei+j,hr.symm⟩
   have hv:=VT.of hc
   have hl:Lt (toD r):=mkLt hv (by show bl r.m.Abs≤_;omega) (by show _≤r.e;omega) (by show r.e≤_;omega)
   refine ⟨⟨hc,hv,hl,a1,by omega,by omega⟩,?_⟩
   rw [SX he hv hl (p:=j+(ei+6000).toNat) (by omega),p2add,←Int.mul_assoc]
   rfl
  have hq:(2*u+(if n*2^i - u*u=0 then 0 else 1))/2^(bl u+1 - b)=u/2^j:=by
   rw [show bl u+1 - b=j+1 by omega,Nat.pow_succ,Nat.mul_comm (2^j) 2,←Nat.div_div_eq_div_mul]
   congr 1
   split<;>omega
  have hlt:u/2^j<2^b:=by
   rw [Nat.div_lt_iff_lt_mul (Nat.two_pow_pos _),←Nat.pow_add,show b+j=bl u by omega];exact c2
  obtain ⟨st,hst⟩:∃st:Nat,st=if n*2^i - u*u=0 then 0 else 1:=⟨_,rfl⟩
  obtain ⟨up,hup⟩:∃c:Nat,c=if (2*u+(if n*2^i - u*u=0 then 0 else 1))%2^(bl u+1 - b)=0 then 0 else 1:=⟨_,rfl⟩
  have r5:RT (n*2^i) u b ei 5=nz false (u/2^j) (ei+j):=by
   unfold RT
   rw [rn5,if_neg (by decide),hq,←hj]
  have r4:RT (n*2^i) u b ei 4=nz false (u/2^j+up) (ei+j):=by
   unfold RT
   rw [rn4,if_neg (by decide),hq,←hj,hup]
  have b1:∀(p:Prop) [Decidable p],(if p then 0 else 1)≤1:=fun p _=>by split<;>omega
  have hupl:up≤1:=by rw [hup];exact b1 _
  obtain ⟨e5,v5⟩:=res (u/2^j) (by omega)
  obtain ⟨e4,v4⟩:=res (u/2^j+up) (by omega)
  have hlow:u/2^j*2^j≤u:=Nat.div_mul_le_self _ _
  have hhigh:u+st≤(u/2^j+up)*2^j:=by
   rw [←hst] at hup
   have hdm:=Nat.div_add_mod (2*u+st) (2^(bl u+1 - b))
   have hml:=Nat.mod_lt (2*u+st) (Nat.two_pow_pos (bl u+1 - b))
   rw [←hst] at hq
   rw [hq,show bl u+1 - b=j+1 by omega,Nat.pow_succ] at hdm
   rw [show bl u+1 - b=j+1 by omega,Nat.pow_succ] at hml hup
   have hpj:=Nat.two_pow_pos j
   have g1:2^j*2*(u/2^j)=2*(u/2^j*2^j):=by
    rw [Nat.mul_comm (2^j) 2,Nat.mul_assoc,Nat.mul_comm (2^j)]
   rw [g1] at hdm
   have hst1:st≤1:=by rw [hst];split<;>omega
   rw [Nat.add_mul]
   generalize u/2^j*2^j=A at *
   generalize hR:(2*u+st)%(2^j*2)=R at *
   generalize 2^j=B at *
   by_cases h:R=0
   ·rw [if_pos h] at hup;subst hup;omega
   ·rw [if_neg h] at hup;subst hup;omega
  have hV:V ⟨⟨false,n⟩,e⟩ * KK=((n*2^i:Nat):Int)*((2^(ei+6000).toNat:Nat)*(2^(ei+6000).toNat:Nat)):=by
   unfold V KK
   show ((n:Nat):Int)*_*_=_
   rw [Int.natCast_mul,Int.mul_assoc,Int.mul_assoc,←p2add,←p2add,←p2add]
   congr 3
   unfold K6
   simp only
   omega
  have hP:=p2 (ei+6000).toNat
  rw [hV]
  refine ⟨_,_,by rw [←r5];exact hp 5,by rw [←r4];exact hp 4,e5,e4,?_,?_,?_⟩
  ·rw [v5]
   have:((u/2^j*2^j:Nat):Int)*(u/2^j*2^j:Nat)≤((n*2^i:Nat):Int):=by
    rw [←Int.natCast_mul];exact Int.ofNat_le.2 (Nat.le_trans (Nat.mul_le_mul hlow hlow) u1)
   generalize ((2^(ei+6000).toNat:Nat):Int)=P at *
   have h:=Int.mul_le_mul_of_nonneg_right this (Int.le_of_lt (Int.mul_pos hP hP))
   refine Int.le_trans (Int.le_of_eq ?_) h
   simp only [Int.mul_assoc,Int.mul_comm,Int.mul_left_comm]
  ·rw [v4]
   have:((n*2^i:Nat):Int)≤(((u/2^j+up)*2^j:Nat):Int)*((u/2^j+up)*2^j:Nat):=by
    rw [←Int.natCast_mul]
    refine Int.ofNat_le.2 (Nat.le_trans ?_ (Nat.mul_le_mul hhigh hhigh))
    by_cases h:n*2^i - u*u=0
    ·rw [if_pos h] at hst
     rw [hst,Nat.add_zero];omega
    ·rw [if_neg h] at hst
     rw [hst];omega
   generalize ((2^(ei+6000).toNat:Nat):Int)=P at *
   have h:=Int.mul_le_mul_of_nonneg_right this (Int.le_of_lt (Int.mul_pos hP hP))
   refine Int.le_trans h (Int.le_of_eq ?_)
   simp only [Int.mul_assoc,Int.mul_comm,Int.mul_left_comm]
  ·rw [v4];exact Int.mul_nonneg (Int.natCast_nonneg _) (Int.le_of_lt hP)
theorem LeV.trans {x y z:Aj} (h:LeV x y) (h':LeV y z):LeV x z:=by
 intro i j hij
 obtain ⟨a,b,hab⟩:=Ll x.e y.e
 obtain ⟨c,d,hcd⟩:=Ll y.e z.e
 have g1:=h a b hab
 have g2:=h' c d hcd
 refine (Ks (a:=a+c) (c:=d+b) (i:=i) (j:=j) (by omega)).1 ?_
 rw [p2add,p2add,←Int.mul_assoc,←Int.mul_assoc]
 have g3:=Int.mul_le_mul_of_nonneg_right g1 (Int.le_of_lt (p2 c))
 have g4:=Int.mul_le_mul_of_nonneg_right g2 (Int.le_of_lt (p2 b))
 refine Int.le_trans g3 (Int.le_trans (Int.le_of_eq ?_) g4)
 rw [Int.mul_assoc,Int.mul_assoc,Int.mul_comm ((2^b:Nat):Int)]
theorem MX (x:Aj):LeV x x:=fun i j hij=>by rw [show i=j by omega];exact Int.le_refl _
theorem PH {x y:Aj} (hx:Cb x) (hy:Cb y):∃c,Bb x y=some c∧(¬c<0↔LeV y x)∧(¬0<c↔LeV x y):=
 cmpV x y hx.1 hy.1 hx.2.1 hx.2.2.1 hy.2.1 hy.2.2.1
theorem Nm {x y:Aj} {c:Int} (h:(¬c<0↔LeV y x)∧(¬0<c↔LeV x y)):LeV y (if 0<c then x else y)∧LeV x (if 0<c then x else y):=by
 by_cases h0:0<c
 ·rw [if_pos h0];exact ⟨h.1.1 (by omega),MX _⟩
 ·rw [if_neg h0];exact ⟨MX _,h.2.1 h0⟩
theorem Nn {x y:Aj} {c:Int} (h:(¬c<0↔LeV y x)∧(¬0<c↔LeV x y)):LeV (if c<0 then x else y) y∧LeV (if c<0 then x else y) x:=by
 by_cases h0:c<0
 ·rw [if_pos h0];exact ⟨h.2.1 (by omega),MX _⟩
 ·rw [if_neg h0];exact ⟨MX _,h.1.1 h0⟩
abbrev overF (X Y:An) (b:Int) (x0 x1 y0 y1:Aj):Option An:=
 (IZ X Y b x0 y0).bind fun s84=>(EH X Y b s84 x0 y1).bind fun s85=>(EH X Y b s85 x1 y0).bind fun s86=>EH X Y b s86 x1 y1
theorem foldOver (X Y:An) (b:Int) (x0 x1 y0 y1:Aj) {l1 l2 l3 l4 u1 u2 u3 u4:Aj}
  (a1:AM x0 y0 b 5=some l1) (a2:AM x0 y0 b 4=some u1) (b1:AM x0 y1 b 5=some l2) (b2:AM x0 y1 b 4=some u2)
  (c1:AM x1 y0 b 5=some l3) (c2:AM x1 y0 b 4=some u3) (d1:AM x1 y1 b 5=some l4) (d2:AM x1 y1 b 4=some u4)
  (g1:Cb l1) (g2:Cb l2) (g3:Cb l3) (g4:Cb l4) (h1:Cb u1) (h2:Cb u2) (h3:Cb u3) (h4:Cb u4) :
  ∃L H,overF X Y b x0 x1 y0 y1=some ⟨L,H⟩∧(L=l1∨L=l2∨L=l3∨L=l4)∧(H=u1∨H=u2∨H=u3∨H=u4)∧
   (LeV L l1∧LeV L l2∧LeV L l3∧LeV L l4)∧(LeV u1 H∧LeV u2 H∧LeV u3 H∧LeV u4 H):=by
 obtain ⟨z1,hz1,_⟩:=PH g1 g1
 obtain ⟨z2,hz2,_⟩:=PH h1 h1
 obtain ⟨e2,he2,i2⟩:=PH g2 g1
 obtain ⟨f2,hf2,j2⟩:=PH h2 h1
 have el2:(if e2<0 then l2 else l1)=l1∨(if e2<0 then l2 else l1)=l2:=by split<;>simp
 have eh2:(if 0<f2 then u2 else u1)=u1∨(if 0<f2 then u2 else u1)=u2:=by split<;>simp
 have bl2:Cb (if e2<0 then l2 else l1):=by split<;>assumption
 have bh2:Cb (if 0<f2 then u2 else u1):=by split<;>assumption
 have pl2:=Nn i2
 have ph2:=Nm j2
 generalize gL2:(if e2<0 then l2 else l1)=L2 at el2 bl2 pl2
 generalize gH2:(if 0<f2 then u2 else u1)=H2 at eh2 bh2 ph2
 obtain ⟨e3,he3,i3⟩:=PH g3 bl2
 obtain ⟨f3,hf3,j3⟩:=PH h3 bh2
 have el3:(if e3<0 then l3 else L2)=L2∨(if e3<0 then l3 else L2)=l3:=by split<;>simp
 have eh3:(if 0<f3 then u3 else H2)=H2∨(if 0<f3 then u3 else H2)=u3:=by split<;>simp
 have bl3:Cb (if e3<0 then l3 else L2):=by split<;>assumption
 have bh3:Cb (if 0<f3 then u3 else H2):=by split<;>assumption
 have pl3:=Nn i3
 have ph3:=Nm j3
 generalize gL3:(if e3<0 then l3 else L2)=L3 at el3 bl3 pl3
 generalize gH3:(if 0<f3 then u3 else H2)=H3 at eh3 bh3 ph3
 obtain ⟨e4,he4,i4⟩:=PH g4 bl3
 obtain ⟨f4,hf4,j4⟩:=PH h4 bh3
 have el4:(if e4<0 then l4 else L3)=L3∨(if e4<0 then l4 else L3)=l4:=by split<;>simp
 have eh4:(if 0<f4 then u4 else H3)=H3∨(if 0<f4 then u4 else H3)=u4:=by split<;>simp
 have pl4:=Nn i4
 have ph4:=Nm j4
 generalize gL4:(if e4<0 then l4 else L3)=L4 at el4 pl4
 generalize gH4:(if 0<f4 then u4 else H3)=H4 at eh4 ph4
 refine ⟨L4,H4,?_,?_,?_,⟨(pl4.1.trans pl3.1).trans pl2.1,(pl4.1.trans pl3.1).trans pl2.2,pl4.1.trans pl3.2,pl4.2⟩,⟨(ph2.1.trans ph3.1).trans ph4.1,(ph2.2.trans ph3.1).trans ph4.1,ph3.2.trans ph4.1,ph4.2⟩⟩
 ·unfold overF IZ
  rw [a1,sB,a2,sB,hz1,sB,NM,sB,hz2,sB,NM,sB,sB]
  unfold EH
  simp only
  rw [b1,sB,b2,sB,he2,sB,pickn,sB,hf2,sB,pickn,sB,sB,gL2,gH2]
  simp only
  rw [c1,sB,c2,sB,he3,sB,pickn,sB,hf3,sB,pickn,sB,sB,gL3,gH3]
  simp only
  rw [d1,sB,d2,sB,he4,sB,pickn,sB,hf4,sB,pickn,sB,gL4,gH4]
 ·rcases el4 with h | h
  ·rcases el3 with h3 | h3
   ·rcases el2 with h2 | h2
    ·left;rw [h,h3,h2]
    ·right;left;rw [h,h3,h2]
   ·right;right;left;rw [h,h3]
  ·right;right;right;exact h
 ·rcases eh4 with h | h
  ·rcases eh3 with h3 | h3
   ·rcases eh2 with h2 | h2
    ·left;rw [h,h3,h2]
    ·right;left;rw [h,h3,h2]
   ·right;right;left;rw [h,h3]
  ·right;right;right;exact h
theorem Over_8 (x y:Ao) (b:Int) (p0:Be ⟨toL x.Lo,toL x.Hi⟩=some true) (p1:Be ⟨toL y.Lo,toL y.Hi⟩=some true) (h:1≤b∧b≤4096)
  (hs:¬0<wi64 (sv y.Lo.Man.Neg y.Lo.Man.Abs*sv y.Hi.Man.Neg y.Hi.Man.Abs)):EP ⟨toL x.Lo,toL x.Hi⟩ ⟨toL y.Lo,toL y.Hi⟩ b=some (zS,8):=by
 rw [QP x y b _ _ rfl rfl p0 p1 h]
 unfold Fj
 rw [show AU (An.lo ⟨ofD y.Lo,ofD y.Hi⟩)=some (sv y.Lo.Man.Neg y.Lo.Man.Abs) from sign _ _ _,sB,show AU (An.hi ⟨ofD y.Lo,ofD y.Hi⟩)=some (sv y.Hi.Man.Neg y.Hi.Man.Abs) from sign _ _ _,sB,decide_eq_false hs]
 rfl
theorem Over_0 (x y:Ao) (b:Int) (p0:Be ⟨toL x.Lo,toL x.Hi⟩=some true) (p1:Be ⟨toL y.Lo,toL y.Hi⟩=some true) (h:1≤b∧b≤4096)
  (hs:0<wi64 (sv y.Lo.Man.Neg y.Lo.Man.Abs*sv y.Hi.Man.Neg y.Hi.Man.Abs)) {L H:Aj} (cL:Cb L) (cH:Cb H)
  (hf:overF ⟨ofD x.Lo,ofD x.Hi⟩ ⟨ofD y.Lo,ofD y.Hi⟩ b (ofD x.Lo) (ofD x.Hi) (ofD y.Lo) (ofD y.Hi)=some ⟨L,H⟩):EP ⟨toL x.Lo,toL x.Hi⟩ ⟨toL y.Lo,toL y.Hi⟩ b=some (⟨toD L,toD H⟩,0):=by
 rw [QP x y b _ _ rfl rfl p0 p1 h]
 unfold Fj
 rw [show AU (An.lo ⟨ofD y.Lo,ofD y.Hi⟩)=some (sv y.Lo.Man.Neg y.Lo.Man.Abs) from sign _ _ _,sB,show AU (An.hi ⟨ofD y.Lo,ofD y.Hi⟩)=some (sv y.Hi.Man.Neg y.Hi.Man.Abs) from sign _ _ _,sB,decide_eq_true hs]
 have e1:∀ {α β:Type} (a:α) (f:α→M β),mb (some (.ok a)) f=f a:=fun _ _=>rfl
 rw [show Cg true 8=some (.ok ()) from rfl,e1]
 obtain ⟨t1,u1,u2⟩:=Option.bind_eq_some_iff.1 hf
 obtain ⟨t2,u3,u4⟩:=Option.bind_eq_some_iff.1 u2
 obtain ⟨t3,u5,u6⟩:=Option.bind_eq_some_iff.1 u4
 simp only
 rw [u1,sB,u3,sB,u5,sB,u6,sB,Jv cL cH]
 rfl
theorem Root_0 (x:Ao) (b:Int) (p0:Be ⟨toL x.Lo,toL x.Hi⟩=some true) (h:1≤b∧b≤4096) (hs:0≤sv x.Lo.Man.Neg x.Lo.Man.Abs) {L H:Aj} (cL:Cb L) (cH:Cb H)
  (h1:EN (ofD x.Lo) b 5=some L) (h2:EN (ofD x.Hi) b 4=some H):GC ⟨toL x.Lo,toL x.Hi⟩ b=some (⟨toD L,toD H⟩,0):=by
 rw [root_ok x b _ rfl p0 h]
 unfold Ga
 rw [show AU (An.lo ⟨ofD x.Lo,ofD x.Hi⟩)=some (sv x.Lo.Man.Neg x.Lo.Man.Abs) from sign _ _ _,sB,decide_eq_true hs]
 have e1:∀ {α β:Type} (a:α) (f:α→M β),mb (some (.ok a)) f=f a:=fun _ _=>rfl
 rw [show Cg true 3=some (.ok ()) from rfl,e1]
 simp only
 rw [h1,sB,h2,sB,Jv cL cH]
 rfl
theorem QZ {lo hi:Al} (h1:VT lo) (h2:VT hi) (l1:Lt lo) (l2:Lt hi):LeV (ofD lo) (ofD hi)↔V lo≤V hi:=by
 obtain ⟨i,j,hij⟩:=Ll (ofD lo).e (ofD hi).e
 constructor
 ·intro h
  exact ((vV h1 l1).cross (vV h2 l2) hij).1 (h i j hij)
 ·intro h i j hij
  exact ((vV h1 l1).cross (vV h2 l2) hij).2 h
theorem Lt.bm {d:Al} (l:Lt d):bl (ofD d).m.Abs≤20000∧-1000000≤(ofD d).e∧(ofD d).e≤1000000:=by
 have:=l.2
 have:=l.1.l
 have:=l.1.u
 exact ⟨by show bl d.Man.Abs≤_;omega,by show _≤d.Exp;omega,by show d.Exp≤_;omega⟩
theorem properV {lo hi:Al} (h1:VT lo) (h2:VT hi) (l1:Lt lo) (l2:Lt hi) (h:V lo≤V hi):Be ⟨toL lo,toL hi⟩=some true:=by
 obtain ⟨c,hc,c1,c2⟩:=(vV h1 l1).cmp (vV h2 l2) l1.bm l2.bm
 have hle:c≤0:=by have:=c2;omega
 unfold Be
 simp only
 rw [(validT h1).2,sB,if_pos rfl,(validT h2).2,sB,if_pos rfl,toNT,sB,inT,sB,toNT,sB,inT,sB,hc,sB,decide_eq_true hle]
theorem cbV {d:Al} (h:VT d) (l:Lt d):Cb (ofD d):=⟨l.bm.1,l.bm.2.1,l.bm.2.2,_,_,_,canonV h⟩
theorem proper1 {X:Am} (p0:Be X=some true):Hf X=some (.ok ()):=by
 unfold Hf;rw [p0];rfl
theorem PT (x:Al) (hx:VT x) (lx:Lt x) (s:Bool) (n d:Nat) (hd:d≠0) (bn:bl n≤9000) (bd:bl d≤9000) :
  ∃T c,CV (ofD x) (nz false d 0)=some T∧Bb T (nz s n 0)=some c∧(c<0↔V x*d<Z s n*KK)∧(0<c↔Z s n*KK<V x*d):=by
 have bm:=lx.2
 have hl:=lx.1.l
 have hu:=lx.1.u
 obtain ⟨q,hq⟩:=LU d
 have hpd:0<2^tz d:=Nat.two_pow_pos _
 have ed:d/2^tz d=q:=by
  conv=>lhs;lhs;rw [hq]
  exact Nat.mul_div_cancel _ hpd
 have bq:bl q≤9000:=by rw [←ed];exact Nat.le_trans (Jp _ _) (by omega)
 obtain ⟨_,_,td⟩:=Hn hd
 have btz:tz d≤9000:=by omega
 have fd:nz false d 0=⟨⟨false,q⟩,((tz d:Nat):Int)⟩:=by unfold nz;rw [if_neg hd,ed,Int.zero_add]
 have ht:=Ov x.Man.Neg false x.Man.Abs q x.Exp (tz d:Nat) (by omega) (by omega) (by omega) (by omega) (by omega) (by omega)
 have hdec:decide (¬x.Man.Neg=false)=x.Man.Neg:=by cases x.Man.Neg<;>rfl
 rw [hdec] at ht
 have v1:VEq (nz x.Man.Neg (x.Man.Abs*q) (x.Exp+(tz d:Nat))) (V x*d) (-6000):=by
  refine (Lz _ _ _).base (p:=(x.Exp+6000).toNat+tz d) (q:=0) (by omega) ?_
  unfold V
  rw [SB,p2add]
  have:((q:Int)*((2^tz d:Nat):Int))=(d:Int):=by
   rw [←Int.natCast_mul,←hq]
  rw [←this,Nat.pow_zero]
  simp only [Int.mul_assoc,Int.mul_comm,Int.mul_left_comm]
  simp
 have v2:VEq (nz s n 0) (Z s n*KK) (-6000):=(Lz s n 0).base (p:=K6) (q:=0) (by unfold K6;omega) (by unfold KK;simp)
 have small:∀(σ:Bool) (M:Nat) (F:Int),bl M≤20000→-20000≤F→F≤20000→bl (nz σ M F).m.Abs≤20000∧-1000000≤(nz σ M F).e∧(nz σ M F).e≤1000000:=by
  intro σ M F h1 h2 h3
  unfold nz
  by_cases h0:M=0
  ·subst h0
   rw [if_pos rfl]
   exact ⟨by show bl 0≤_;rw [FG];omega,by show (-1000000:Int)≤0;omega,by show (0:Int)≤_;omega⟩
  ·obtain ⟨_,_,t1⟩:=Hn h0
   rw [if_neg h0]
   have:=Jp M (2^tz M)
   exact ⟨by show bl (M/2^tz M)≤_;omega,by show (-1000000:Int)≤F+(tz M:Nat);omega,by show F+(tz M:Nat)≤(1000000:Int);omega⟩
 have bmq:=MT x.Man.Abs q
 obtain ⟨c,hc,c1,c2⟩:=v1.cmp v2 (small _ _ _ (by omega) (by omega) (by omega)) (small _ _ _ (by omega) (by omega) (by omega))
 exact ⟨_,c,by rw [fd];exact ht,hc,c1,c2⟩
theorem hasV (lo hi:Al) (h1:VT lo) (h2:VT hi) (l1:Lt lo) (l2:Lt hi) (s:Bool) (n d:Nat) (hd:d≠0) (bn:bl n≤9000) (bd:bl d≤9000) (r0:BN ⟨⟨s,limbs n⟩,limbs d⟩=some true)
  (hlo:V lo*d≤Z s n*KK) (hhi:Z s n*KK≤V hi*d):Jo ⟨toL lo,toL hi⟩ ⟨⟨s,limbs n⟩,limbs d⟩=some (true,0):=by
 have hd':(0:Int)<d:=by omega
 have p0:=properV h1 h2 l1 l2 (Int.le_of_mul_le_mul_right (Int.le_trans hlo hhi) hd')
 obtain ⟨T,a,t1,t2,t3,t4⟩:=PT lo h1 l1 s n d hd bn bd
 obtain ⟨U,b,u1,u2,u3,u4⟩:=PT hi h2 l2 s n d hd bn bd
 unfold Jo LM
 rw [proper1 p0,mbo,r0,sB,wantT,mbo,IG,sB,IG,sB]
 simp only
 rw [PB s n d (by unfold Sm;omega) (by unfold Sm;omega),sB,toNT,sB,inT,sB]
 simp only
 have ha:a≤0:=Int.not_lt.1 fun h=>by have:=t4.1 h;omega
 have hb:0≤b:=Int.not_lt.1 fun h=>by have:=u3.1 h;omega
 rw [t1,sB,t2,sB,if_pos ha,toNT,sB,inT,sB,u1,sB,u2,sB,decide_eq_true hb]
 rfl
theorem properP (x:Am) (h0:Dig x.Lo.Man.Abs) (h1:Dig x.Hi.Man.Abs) (k0:∀d,x.Lo=toL d→VT d→L5 d) (k1:∀d,x.Hi=toL d→VT d→L5 d) :
  ∃v,Be x=some v∧(v=true→∃lo hi,x=⟨toL lo,toL hi⟩∧VT lo∧VT hi∧L5 lo∧L5 hi∧V lo≤V hi):=by
 obtain ⟨a,b⟩:=x
 obtain ⟨v0,e0,f0,g0⟩:=Ph a h0
 obtain ⟨v1,e1,f1,g1⟩:=Ph b h1
 unfold Be
 simp only
 rw [f0,sB]
 cases v0
 ·exact ⟨false,rfl,fun h=>by cases h⟩
 ·rw [if_pos rfl,f1,sB]
  cases v1
  ·exact ⟨false,rfl,fun h=>by cases h⟩
  ·obtain ⟨lo,rfl,hlo⟩:=g0 rfl
   obtain ⟨hi,rfl,hhi⟩:=g1 rfl
   have o0:=k0 lo rfl hlo
   have o1:=k1 hi rfl hhi
   obtain ⟨c,hc,_,hc2⟩:=(vV hlo o0.lt).cmp (vV hhi o1.lt) o0.lt.bm o1.lt.bm
   rw [if_pos rfl,toNT,sB,inT,sB,toNT,sB,inT,sB,hc,sB]
   refine ⟨_,rfl,fun hv=>⟨lo,hi,rfl,hlo,hhi,o0,o1,Int.not_lt.1 fun h=>?_⟩⟩
   have:=of_decide_eq_true hv
   have:=hc2.2 h
   omega
theorem few3 (x:Am) (h0:Dig x.Lo.Man.Abs) (h1:Dig x.Hi.Man.Abs):∃v,Fe x=some v∧(v=true→(∀d,x.Lo=toL d→VT d→L5 d)∧∀d,x.Hi=toL d→VT d→L5 d):=by
 obtain ⟨a,b⟩:=x
 obtain ⟨v0,e0,_,_⟩:=Ph a h0
 obtain ⟨v1,e1,_,_⟩:=Ph b h1
 have step:∀(a:Aq) (v:Bool),BM a=some v→∃q,(if 20<((List.length a.Man.Abs:Int)) then some (true) else (BM a).bind fun r144=>
   (if r144=true then (if a.Exp<((-800)) then some (true) else some ((decide (800<a.Exp)))).bind fun m209=>some (m209) else some (false)).bind fun m178=>some (m178))=some q∧(q=false→∀d,a=toL d→VT d→L5 d):=by
  intro a v hv
  by_cases hl:20<(List.length a.Man.Abs:Int)
  ·exact ⟨true,if_pos hl,fun h=>by cases h⟩
  ·rw [if_neg hl,hv,sB]
   have key:(-800≤a.Exp∧a.Exp≤800)→∀d,a=toL d→VT d→L5 d:=by
    rintro ⟨k1,k2⟩ d rfl hd
    have e1:(toL d).Exp=d.Exp:=rfl
    have e2:(toL d).Man.Abs.length=Sbn.sz d.Man.Abs:=rfl
    exact ⟨hd,by have:=Fi (show Sbn.sz d.Man.Abs≤20 by omega);omega,by omega,by omega⟩
   cases v
   ·refine ⟨false,rfl,fun _ d hd hv'=>?_⟩
    subst hd;rw [(validT hv').1] at hv;cases hv
   ·rw [if_pos rfl]
    by_cases k1:a.Exp < -800
    ·exact ⟨true,by rw [if_pos k1];rfl,fun h=>by cases h⟩
    ·rw [if_neg k1]
     exact ⟨decide (800<a.Exp),rfl,fun h=>key ⟨by omega,by have:=of_decide_eq_false h;omega⟩⟩
 obtain ⟨q0,s0,k0⟩:=step a v0 e0
 obtain ⟨q1,s1,k1⟩:=step b v1 e1
 unfold Fe
 simp only
 rw [s0,sB]
 cases q0
 ·rw [if_neg (by decide),s1,sB]
  cases q1
  ·exact ⟨true,rfl,fun _=>⟨k0 rfl,k1 rfl⟩⟩
  ·exact ⟨false,rfl,fun h=>by cases h⟩
 ·exact ⟨false,rfl,fun h=>by cases h⟩
structure Sp (lo hi:Al) (N d:Int):Prop where
 a:L5 lo
 b:L5 hi
 lo:V lo*d≤N*KK
 hi:N*KK≤V hi*d
theorem Sp.le {lo hi:Al} {N d:Int} (h:Sp lo hi N d) (hd:0<d):V lo≤V hi:=Int.le_of_mul_le_mul_right (Int.le_trans h.lo h.hi) hd
theorem Sp.proper {lo hi:Al} {N d:Int} (h:Sp lo hi N d) (hd:0<d):Be ⟨toL lo,toL hi⟩=some true:=properV h.a.v h.b.v h.a.lt h.b.lt (h.le hd)
structure Rs (l u:Aj) (N d:Int):Prop where
 a:En l 500 (-5000) 5000
 b:En u 500 (-5000) 5000
 lo:V (toD l)*d≤N*KK
 hi:N*KK≤V (toD u)*d
theorem En.w {r:Aj} {m m':Nat} {lo hi lo' hi':Int} (h:En r m lo hi) (hm:m≤m') (hl:lo'≤lo) (hh:hi≤hi'):En r m' lo' hi':=⟨h.c,h.v,h.l,Nat.le_trans h.m hm,Int.le_trans hl h.lo,Int.le_trans h.hi hh⟩
theorem OX (s:Bool) (n d:Nat) (hd:d≠0) (hn:Sbn.sz n≤40) (hds:Sbn.sz d≤40) (p0:BN ⟨⟨s,limbs n⟩,limbs d⟩=some true) (b:Nat) (hb:1≤b) (hb':b≤500) :
  ∃l u,GM ⟨⟨s,limbs n⟩,limbs d⟩ (b:Int)=some (⟨toD l,toD u⟩,0)∧Rs l u (Z s n) d∧-((bl d:Int)+b)≤l.e∧l.e≤bl n+3∧-((bl d:Int)+b)≤u.e∧u.e≤bl n+3∧(s=false→l.m.Neg=false):=by
 have hbn:bl n≤1280:=Fi hn
 have hbd:bl d≤1280:=Fi hds
 have hq:∀dir:Int,∃r,AM (nz s n 0) (nz false d 0) (b:Int) dir=some r∧IsR b dir s n d r:=by
  intro dir
  obtain ⟨qd,hqd⟩:=LU d
  have hpd:0<2^tz d:=Nat.two_pow_pos _
  have ed:d/2^tz d=qd:=by
   conv=>lhs;lhs;rw [hqd]
   exact Nat.mul_div_cancel _ hpd
  have hqd0:qd≠0:=fun h=>hd (by rw [hqd,h,Nat.zero_mul])
  obtain ⟨_,_,td⟩:=Hn hd
  have bqd:bl qd≤1920:=by rw [←ed];exact Nat.le_trans (Jp _ _) (by omega)
  have fd:nz false d 0=⟨⟨false,qd⟩,((tz d:Nat):Int)⟩:=by unfold nz;rw [if_neg hd,ed,Int.zero_add]
  rw [fd]
  by_cases h0:n=0
  ·subst h0
   refine ⟨⟨⟨false,0⟩,0⟩,?_,Or.inl ⟨rfl,rfl⟩⟩
   unfold AM;rw [QL,sB];rfl
  ·obtain ⟨qn,hqn⟩:=LU n
   have hpn:0<2^tz n:=Nat.two_pow_pos _
   have en:n/2^tz n=qn:=by
    conv=>lhs;lhs;rw [hqn]
    exact Nat.mul_div_cancel _ hpn
   obtain ⟨_,_,tn⟩:=Hn h0
   have bqn:bl qn≤1920:=by rw [←en];exact Nat.le_trans (Jp _ _) (by omega)
   have fn:nz s n 0=⟨⟨s,qn⟩,((tz n:Nat):Int)⟩:=by unfold nz;rw [if_neg h0,en,Int.zero_add]
   rw [fn]
   obtain ⟨r,p1,p2⟩:=Ss s false qn qd ((tz n:Nat):Int) ((tz d:Nat):Int) b (tz n) (tz d) dir hqd0 hb (by omega) (by omega) (by omega) (by omega) (by omega) (by omega) (by omega) (by omega) (by omega) rfl
   rw [←hqn,←hqd,show decide (¬s=false)=s by cases s<;>rfl] at p2
   exact ⟨r,p1,p2⟩
 obtain ⟨l,l1,l2⟩:=hq 5
 obtain ⟨u,u1,u2⟩:=hq 4
 obtain ⟨n5,a5,_⟩:=OG hb hb' hd (by omega) (by omega) l2
 obtain ⟨n4,_,a4⟩:=OG hb hb' hd (by omega) (by omega) u2
 refine ⟨l,u,?_,⟨n5.w hb' (by omega) (by omega),n4.w hb' (by omega) (by omega),a5 rfl,a4 rfl⟩,n5.lo,n5.hi,n4.lo,n4.hi,?_⟩
 ·unfold GM Kw
  rw [p0,sB,wantT,mbo,fineP,if_pos ⟨by omega,by omega⟩,mbo,IG,sB,IG,sB]
  simp only
  rw [PB s n d (by unfold Sm;omega) (by unfold Sm;omega),sB]
  simp only
  rw [l1,sB,u1,sB,Jv n5.c n4.c,mbo]
  rfl
 ·intro hs
  subst hs
  rcases l2 with ⟨_,h⟩ | ⟨_,u,v,h,_⟩
  ·rw [h]
  ·have z:∀(M:Nat) (e:Int),(nz false M e).m.Neg=false:=fun M e=>by unfold nz;split<;>rfl
   rw [h,rn5];exact z _ _
theorem plusSp {x0 x1 y0 y1:Al} {A p B q:Int} (hx:Sp x0 x1 A p) (hy:Sp y0 y1 B q) (hp:0<p) (hq:0<q) (b:Nat) (hb:1≤b) (hb':b≤500) :
  ∃l u,HS ⟨toL x0,toL x1⟩ ⟨toL y0,toL y1⟩ (b:Int)=some (⟨toD l,toD u⟩,0)∧Rs l u (A*q+B*p) (p*q):=by
 obtain ⟨l,_,l1,_,l2,_,l3,_⟩:=SC x0 y0 hx.a hy.a y0.Man.Neg b hb hb' (V y0) rfl
 obtain ⟨_,u,_,u1,_,u2,_,u3⟩:=SC x1 y1 hx.b hy.b y1.Man.Neg b hb hb' (V y1) rfl
 refine ⟨l,u,madePlus.2 ⟨x0,x1⟩ ⟨y0,y1⟩ b _ _ rfl rfl (hx.proper hp) (hy.proper hq) (by omega) _ _ ?_,l2.w hb' (by omega) (by omega),u2.w hb' (by omega) (by omega),?_,?_⟩
 ·unfold GP
  simp only
  rw [show FO (ofD x0) (ofD y0) (b:Int) 5=_ from l1,sB,show FO (ofD x1) (ofD y1) (b:Int) 4=_ from u1,sB,Jv l2.c u2.c];rfl
 ·exact sumB hp hq hx.lo hy.lo l3
 ·exact SN hp hq hx.hi hy.hi u3
theorem minusSp {x0 x1 y0 y1:Al} {A p B q:Int} (hx:Sp x0 x1 A p) (hy:Sp y0 y1 B q) (hp:0<p) (hq:0<q) (b:Nat) (hb:1≤b) (hb':b≤500) :
  ∃l u,Hw ⟨toL x0,toL x1⟩ ⟨toL y0,toL y1⟩ (b:Int)=some (⟨toD l,toD u⟩,0)∧Rs l u (A*q + -B*p) (p*q):=by
 have hm:∀d:Al,-V d=Z (!d.Man.Neg) d.Man.Abs*(2^(d.Exp+6000).toNat:Nat):=by
  intro d
  unfold V
  rw [←Int.neg_mul]
  congr 1
  cases d.Man.Neg<;>simp [Z]
 have hmp:∀d:Al,Ei (ofD d)=some ⟨⟨!d.Man.Neg,d.Man.Abs⟩,d.Exp⟩:=by
  intro d
  obtain ⟨⟨s,n⟩,e⟩:=d
  unfold Ei Hh ofD;cases s<;>rfl
 obtain ⟨l,_,l1,_,l2,_,l3,_⟩:=SC x0 y1 hx.a hy.b (!y1.Man.Neg) b hb hb' _ (hm y1)
 obtain ⟨_,u,_,u1,_,u2,_,u3⟩:=SC x1 y0 hx.b hy.a (!y0.Man.Neg) b hb hb' _ (hm y0)
 refine ⟨l,u,madeMinus.2 ⟨x0,x1⟩ ⟨y0,y1⟩ b _ _ rfl rfl (hx.proper hp) (hy.proper hq) (by omega) _ _ ?_,l2.w hb' (by omega) (by omega),u2.w hb' (by omega) (by omega),?_,?_⟩
 ·unfold Gm
  simp only
  rw [hmp,sB,l1,sB,hmp,sB,u1,sB,Jv l2.c u2.c];rfl
 ·exact sumB hp hq hx.lo (y:=-V y1) (by rw [Int.neg_mul,Int.neg_mul];have:=hy.hi;omega) l3
 ·exact SN hp hq hx.hi (y:=-V y0) (by rw [Int.neg_mul,Int.neg_mul];have:=hy.lo;omega) u3
theorem Oz {x y:Aj} (hx:Cb x) (hy:Cb y):∃c,Bb x y=some c∧(¬c<0↔LeV y x)∧(¬0<c↔LeV x y):=
 cmpV x y hx.1 hy.1 hx.2.1 hx.2.2.1 hy.2.1 hy.2.2.1
theorem timesSp {x0 x1 y0 y1:Al} {A p B q:Int} (hx:Sp x0 x1 A p) (hy:Sp y0 y1 B q) (hp:0<p) (hq:0<q) (b:Nat) (hb:1≤b) (hb':b≤500) :
  ∃l u,GJ ⟨toL x0,toL x1⟩ ⟨toL y0,toL y1⟩ (b:Int)=some (⟨toD l,toD u⟩,0)∧Rs l u (A*B) (p*q):=by
 obtain ⟨r1,p1,b1,v1,t1,k1,m1⟩:=Pi x0 y0 hx.a hy.a
 obtain ⟨r2,p2,b2,v2,t2,k2,m2⟩:=Pi x0 y1 hx.a hy.b
 obtain ⟨r3,p3,b3,v3,t3,k3,m3⟩:=Pi x1 y0 hx.b hy.a
 obtain ⟨r4,p4,b4,v4,t4,k4,m4⟩:=Pi x1 y1 hx.b hy.b
 obtain ⟨z1,hz1,_⟩:=Oz b1 b1
 obtain ⟨c2,hc2,i2⟩:=Oz b2 b1
 have el2:(if c2<0 then r2 else r1)=r1∨(if c2<0 then r2 else r1)=r2:=by split<;>simp
 have eh2:(if 0<c2 then r2 else r1)=r1∨(if 0<c2 then r2 else r1)=r2:=by split<;>simp
 have bl2:Cb (if c2<0 then r2 else r1):=by split<;>assumption
 have bh2:Cb (if 0<c2 then r2 else r1):=by split<;>assumption
 have pl2:=Nn i2
 have ph2:=Nm i2
 generalize gL2:(if c2<0 then r2 else r1)=L2 at el2 bl2 pl2
 generalize gH2:(if 0<c2 then r2 else r1)=H2 at eh2 bh2 ph2
 obtain ⟨c3,hc3,i3⟩:=Oz b3 bl2
 obtain ⟨d3,hd3,j3⟩:=Oz b3 bh2
 have el3:(if c3<0 then r3 else L2)=L2∨(if c3<0 then r3 else L2)=r3:=by split<;>simp
 have eh3:(if 0<d3 then r3 else H2)=H2∨(if 0<d3 then r3 else H2)=r3:=by split<;>simp
 have bl3:Cb (if c3<0 then r3 else L2):=by split<;>assumption
 have bh3:Cb (if 0<d3 then r3 else H2):=by split<;>assumption
 have pl3:=Nn i3
 have ph3:=Nm j3
 generalize gL3:(if c3<0 then r3 else L2)=L3 at el3 bl3 pl3
 generalize gH3:(if 0<d3 then r3 else H2)=H3 at eh3 bh3 ph3
 obtain ⟨c4,hc4,i4⟩:=Oz b4 bl3
 obtain ⟨d4,hd4,j4⟩:=Oz b4 bh3
 have el4:(if c4<0 then r4 else L3)=L3∨(if c4<0 then r4 else L3)=r4:=by split<;>simp
 have eh4:(if 0<d4 then r4 else H3)=H3∨(if 0<d4 then r4 else H3)=r4:=by split<;>simp
 have pl4:=Nn i4
 have ph4:=Nm j4
 generalize gL4:(if c4<0 then r4 else L3)=L4 at el4 pl4
 generalize gH4:(if 0<d4 then r4 else H3)=H4 at eh4 ph4
 have hL:L4=r1∨L4=r2∨L4=r3∨L4=r4:=by
  rcases el4 with h | h<;>rcases el3 with h3 | h3<;>rcases el2 with h2 | h2<;>simp [h,h3,h2]
 have hH:H4=r1∨H4=r2∨H4=r3∨H4=r4:=by
  rcases eh4 with h | h<;>rcases eh3 with h3 | h3<;>rcases eh2 with h2 | h2<;>simp [h,h3,h2]
 have inf:∀r,r=r1∨r=r2∨r=r3∨r=r4→Cb r∧VT (toD r)∧Lt (toD r)∧bl r.m.Abs≤1280∧-2600≤r.e∧r.e≤3000∧r.e+bl r.m.Abs≤3000:=by
  rintro r (rfl | rfl | rfl | rfl)
  ·exact ⟨b1,v1,t1,m1⟩
  ·exact ⟨b2,v2,t2,m2⟩
  ·exact ⟨b3,v3,t3,m3⟩
  ·exact ⟨b4,v4,t4,m4⟩
 obtain ⟨cL,vL,tL,mL,eL,eL',sL⟩:=inf L4 hL
 obtain ⟨cH,vH,tH,mH,eH,eH',sH⟩:=inf H4 hH
 obtain ⟨l,_,w1,_,w2,_,w3,_⟩:=Ql (toD L4) b vL (by show bl L4.m.Abs≤_;omega) eL (by show L4.e+bl L4.m.Abs≤_;omega) (by show L4.e≤_;omega) hb hb'
 obtain ⟨_,u,_,w4,_,w5,_,w6⟩:=Ql (toD H4) b vH (by show bl H4.m.Abs≤_;omega) eH (by show H4.e+bl H4.m.Abs≤_;omega) (by show H4.e≤_;omega) hb hb'
 have lo:∀ {r:Aj},VT (toD r)→Lt (toD r)→LeV L4 r→V (toD l)≤V (toD r):=fun hv hl h=>Int.le_trans w3 ((QZ vL hv tL hl).1 h)
 have hi:∀ {r:Aj},VT (toD r)→Lt (toD r)→LeV r H4→V (toD r)≤V (toD u):=fun hv hl h=>Int.le_trans ((QZ hv vH hl tH).1 h) w6
 refine ⟨l,u,madeTimes.2 ⟨x0,x1⟩ ⟨y0,y1⟩ b _ _ rfl rfl (hx.proper hp) (hy.proper hq) (by omega) _ _ ?_,w2.w hb' (by omega) (by omega),w5.w hb' (by omega) (by omega),?_,?_⟩
 ·unfold Gs JT
  rw [p1,sB,hz1,sB,NM,sB,sB,NM,sB,sB]
  unfold GA
  simp only
  rw [p2,sB,hc2,sB,pickn,sB,sB,pickn,sB,sB,gL2,gH2]
  simp only
  rw [p3,sB,hc3,sB,pickn,sB,hd3,sB,pickn,sB,sB,gL3,gH3]
  simp only
  rw [p4,sB,hc4,sB,pickn,sB,hd4,sB,pickn,sB,sB,gL4,gH4]
  unfold GU
  simp only
  rw [show AH L4 (b:Int) 5 false=_ from w1,sB,show AH H4 (b:Int) 4 false=_ from w4,sB,sB,Jv w2.c w5.c]
  rfl
 ·exact SF KK0 hp hq k1 k2 k3 k4 (lo v1 t1 ((pl4.1.trans pl3.1).trans pl2.1)) (lo v2 t2 ((pl4.1.trans pl3.1).trans pl2.2)) (lo v3 t3 (pl4.1.trans pl3.2)) (lo v4 t4 pl4.2) hx.lo hx.hi hy.lo hy.hi
 ·have g:=SF (L:=-V (toD u)) (A:=-A) (x0:=-V x1) (x1:=-V x0) (r1:=-V (toD r3)) (r2:=-V (toD r4)) (r3:=-V (toD r1)) (r4:=-V (toD r2)) KK0 hp hq (by rw [Int.neg_mul,Int.neg_mul,k3]) (by rw [Int.neg_mul,Int.neg_mul,k4]) (by rw [Int.neg_mul,Int.neg_mul,k1]) (by rw [Int.neg_mul,Int.neg_mul,k2])
   (Int.neg_le_neg (hi v3 t3 (ph3.2.trans ph4.1))) (Int.neg_le_neg (hi v4 t4 ph4.2)) (Int.neg_le_neg (hi v1 t1 ((ph2.1.trans ph3.1).trans ph4.1))) (Int.neg_le_neg (hi v2 t2 ((ph2.2.trans ph3.1).trans ph4.1)))
   (by rw [Int.neg_mul,Int.neg_mul];exact Int.neg_le_neg hx.hi) (by rw [Int.neg_mul,Int.neg_mul];exact Int.neg_le_neg hx.lo) hy.lo hy.hi
  rw [Int.neg_mul,Int.neg_mul,Int.neg_mul] at g
  exact Int.neg_le_neg_iff.1 g
theorem svV (d:Al):(0<sv d.Man.Neg d.Man.Abs↔0<V d)∧(sv d.Man.Neg d.Man.Abs<0↔V d<0):=by
 have hp:=p2 (d.Exp+6000).toNat
 unfold V sv Z
 generalize ((2^(d.Exp+6000).toNat:Nat):Int)=P at *
 by_cases h0:d.Man.Abs=0
 ·rw [if_pos h0,h0];simp
 ·have hn:(0:Int)<(d.Man.Abs:Int):=by omega
  have:=Int.mul_pos hn hp
  rw [if_neg h0]
  cases d.Man.Neg
  ·simp only [Bool.false_eq_true,if_false];omega
  ·simp only [if_true];rw [Int.neg_mul];omega
theorem overSp {x0 x1 y0 y1:Al} {A p B q:Int} (hx:Sp x0 x1 A p) (hy:Sp y0 y1 B q) (hp:0<p) (hq:0<q) (b:Nat) (hb:1≤b) (hb':b≤500) :
  EP ⟨toL x0,toL x1⟩ ⟨toL y0,toL y1⟩ (b:Int)=some (zS,8) ∨
  (B≠0∧∃l u,EP ⟨toL x0,toL x1⟩ ⟨toL y0,toL y1⟩ (b:Int)=some (⟨toD l,toD u⟩,0)∧En l 500 (-5000) 5000∧En u 500 (-5000) 5000∧
   (0<B→V (toD l)*(B*p)≤A*q*KK∧A*q*KK≤V (toD u)*(B*p))∧(B<0→A*q*KK≤V (toD l)*(B*p)∧V (toD u)*(B*p)≤A*q*KK)):=by
 have px:=hx.proper hp
 have py:=hy.proper hq
 by_cases hs:0<wi64 (sv y0.Man.Neg y0.Man.Abs*sv y1.Man.Neg y1.Man.Abs)
 ·right
  have n0:y0.Man.Abs≠0:=by intro h;rw [show sv y0.Man.Neg y0.Man.Abs=0 by unfold sv;rw [if_pos h],Int.zero_mul] at hs;exact absurd hs (by decide)
  have n1:y1.Man.Abs≠0:=by intro h;rw [show sv y1.Man.Neg y1.Man.Abs=0 by unfold sv;rw [if_pos h],Int.mul_zero] at hs;exact absurd hs (by decide)
  obtain ⟨l1,u1,a1,a2,a3,a4,a5,a6⟩:=QF x0 y0 hx.a hy.a b hb hb' n0
  obtain ⟨l2,u2,b1,b2,b3,b4,b5,b6⟩:=QF x0 y1 hx.a hy.b b hb hb' n1
  obtain ⟨l3,u3,c1,c2,c3,c4,c5,c6⟩:=QF x1 y0 hx.b hy.a b hb hb' n0
  obtain ⟨l4,u4,d1,d2,d3,d4,d5,d6⟩:=QF x1 y1 hx.b hy.b b hb hb' n1
  obtain ⟨L,H,f1,f2,f3,⟨g1,g2,g3,g4⟩,h1,h2,h3,h4⟩:=foldOver ⟨ofD x0,ofD x1⟩ ⟨ofD y0,ofD y1⟩ (b:Int) (ofD x0) (ofD x1) (ofD y0) (ofD y1) a1 a2 b1 b2 c1 c2 d1 d2 a3.c b3.c c3.c d3.c a4.c b4.c c4.c d4.c
  have eL:En L 500 (-5000) 5000:=by rcases f2 with h | h | h | h<;>rw [h]<;>(refine En.w ?_ hb' (Int.le_refl _) (Int.le_refl _);assumption)
  have eH:En H 500 (-5000) 5000:=by rcases f3 with h | h | h | h<;>rw [h]<;>(refine En.w ?_ hb' (Int.le_refl _) (Int.le_refl _);assumption)
  have lo:∀ {r:Aj},En r b (-5000) 5000→LeV L r→V (toD L)≤V (toD r):=fun hr h=>(QZ eL.v hr.v eL.l hr.l).1 h
  have hi:∀ {r:Aj},En r b (-5000) 5000→LeV r H→V (toD r)≤V (toD H):=fun hr h=>(QZ hr.v eH.v hr.l eH.l).1 h
  have k1:=lo a3 g1
  have k2:=lo b3 g2
  have k3:=lo c3 g3
  have k4:=lo d3 g4
  have q1:=hi a4 h1
  have q2:=hi b4 h2
  have q3:=hi c4 h3
  have q4:=hi d4 h4
  have hyy:=hy.le hq
  have s0:=svV y0
  have s1:=svV y1
  have hsg:(0<V y0∧0<V y1)∨(V y0<0∧V y1<0):=by
   have w0:=sv01 y0.Man.Neg y0.Man.Abs
   have w1:=sv01 y1.Man.Neg y1.Man.Abs
   generalize sv y0.Man.Neg y0.Man.Abs=σ at *
   generalize sv y1.Man.Neg y1.Man.Abs=τ at *
   rcases w0 with rfl | rfl | rfl<;>rcases w1 with rfl | rfl | rfl<;>first | exact absurd hs (by decide) | exact Or.inl ⟨s0.1.1 (by decide),s1.1.1 (by decide)⟩ | exact Or.inr ⟨s0.2.1 (by decide),s1.2.1 (by decide)⟩
  have hB:(0<V y0→0<B)∧(V y1<0→B<0):=by
   constructor
   ·intro h
    have:=Int.lt_of_lt_of_le (Int.mul_pos h hq) hy.lo
    refine Int.not_le.1 fun h7=>?_
    have h8:=Int.mul_le_mul_of_nonneg_right h7 (Int.le_of_lt KK0)
    rw [Int.zero_mul] at h8
    omega
   ·intro h
    have h5:V y1*q<0:=Int.mul_neg_of_neg_of_pos h hq
    have h6:=Int.lt_of_le_of_lt hy.hi h5
    refine Int.not_le.1 fun h7=>?_
    have:=Int.mul_nonneg h7 (Int.le_of_lt KK0)
    omega
  have mul:∀ {a c y:Int},a≤c→(0<y→a*y≤c*y)∧(y<0→c*y≤a*y):=fun h=>⟨fun hy=>Int.mul_le_mul_of_nonneg_right h (Int.le_of_lt hy),fun hy=>Int.mul_le_mul_of_nonpos_right h (Int.le_of_lt hy)⟩
  refine ⟨?_,L,H,Over_0 ⟨x0,x1⟩ ⟨y0,y1⟩ _ px py (by omega) hs eL.c eH.c f1,eL,eH,?_,?_⟩
  ·rcases hsg with h | h
   ·have:=hB.1 h.1;omega
   ·have:=hB.2 h.2;omega
  ·intro hBp
   rcases hsg with h | h
   ·refine ⟨ovr KK0 hq hp (Int.le_trans ((mul k1).1 h.1) (a5 h.1).1) (Int.le_trans ((mul k2).1 h.2) (b5 h.2).1) hy.lo hy.hi hx.lo,?_⟩
    have g:=ovr (L:=-V (toD H)) (X:=-V x1) (A:=-A) (Y0:=V y0) (Y1:=V y1) KK0 hq hp
     (by rw [Int.neg_mul,Int.neg_mul];exact Int.neg_le_neg (Int.le_trans (c5 h.1).2 ((mul q3).1 h.1)))
     (by rw [Int.neg_mul,Int.neg_mul];exact Int.neg_le_neg (Int.le_trans (d5 h.2).2 ((mul q4).1 h.2))) hy.lo hy.hi (by rw [Int.neg_mul,Int.neg_mul];exact Int.neg_le_neg hx.hi)
    rw [Int.neg_mul,Int.neg_mul,Int.neg_mul] at g
    exact Int.neg_le_neg_iff.1 g
   ·have:=hB.2 h.2;omega
  ·intro hBn
   rcases hsg with h | h
   ·have:=hB.1 h.1;omega
   ·constructor
    ·have g:=ovr (L:=-V (toD L)) (X:=-V x1) (A:=-A) (Y0:=V y0) (Y1:=V y1) KK0 hq hp
      (by rw [Int.neg_mul,Int.neg_mul];exact Int.neg_le_neg (Int.le_trans (c6 h.1).1 ((mul k3).2 h.1)))
      (by rw [Int.neg_mul,Int.neg_mul];exact Int.neg_le_neg (Int.le_trans (d6 h.2).1 ((mul k4).2 h.2))) hy.lo hy.hi (by rw [Int.neg_mul,Int.neg_mul];exact Int.neg_le_neg hx.hi)
     rw [Int.neg_mul,Int.neg_mul,Int.neg_mul] at g
     exact Int.neg_le_neg_iff.1 g
    ·exact ovr KK0 hq hp (Int.le_trans ((mul q1).2 h.1) (a6 h.1).2) (Int.le_trans ((mul q2).2 h.2) (b6 h.2).2) hy.lo hy.hi hx.lo
 ·exact Or.inl (Over_8 ⟨x0,x1⟩ ⟨y0,y1⟩ _ px py (by omega) hs)
theorem hullSp {y0 y1:Al} {B q:Int} (hy:Sp y0 y1 B q) (hq:0<q) (more:Am) (h0:Dig more.Lo.Man.Abs) (h1:Dig more.Hi.Man.Abs) (hf:Fe more=some true) :
  (∃w e,FX ⟨toL y0,toL y1⟩ more=some (w,e)∧e≠0)∨∃lo hi,FX ⟨toL y0,toL y1⟩ more=some (⟨lo,hi⟩,0)∧Sp lo hi B q:=by
 obtain ⟨v,f1,f2⟩:=few3 more h0 h1
 rw [hf] at f1
 cases f1
 obtain ⟨k0,k1⟩:=f2 rfl
 obtain ⟨v,p1,p2⟩:=properP more h0 h1 k0 k1
 have p0:=hy.proper hq
 cases v
 ·left
  refine ⟨zS,1,?_,by decide⟩
  unfold FX DJ Ff Ba
  rw [p0,p1];rfl
 ·right
  obtain ⟨c0,c1,rfl,vc0,vc1,lc0,lc1,hc⟩:=p2 rfl
  obtain ⟨k,hk,k2,k3⟩:=(vV vc0 lc0.lt).cmp (vV hy.a.v hy.a.lt) lc0.lt.bm hy.a.lt.bm
  obtain ⟨m,hm,m2,m3⟩:=(vV vc1 lc1.lt).cmp (vV hy.b.v hy.b.lt) lc1.lt.bm hy.b.lt.bm
  have e0:(if k<0 then ofD c0 else ofD y0)=ofD (if k<0 then c0 else y0):=by split<;>rfl
  have e1:(if 0<m then ofD c1 else ofD y1)=ofD (if 0<m then c1 else y1):=by split<;>rfl
  have l0:L5 (if k<0 then c0 else y0)∧V (if k<0 then c0 else y0)≤V y0:=by
   split
   ·exact ⟨lc0,by have:=k2.1 ‹_›;omega⟩
   ·exact ⟨hy.a,Int.le_refl _⟩
  have l1:L5 (if 0<m then c1 else y1)∧V y1≤V (if 0<m then c1 else y1):=by
   split
   ·exact ⟨lc1,by have:=m3.1 ‹_›;omega⟩
   ·exact ⟨hy.b,Int.le_refl _⟩
  refine ⟨if k<0 then c0 else y0,if 0<m then c1 else y1,?_,l0.1,l1.1,Int.le_trans (Int.mul_le_mul_of_nonneg_right l0.2 (Int.le_of_lt hq)) hy.lo,Int.le_trans hy.hi (Int.mul_le_mul_of_nonneg_right l1.2 (Int.le_of_lt hq))⟩
  have hH:GN ⟨ofD y0,ofD y1⟩ ⟨ofD c0,ofD c1⟩ 1=some (.ok ⟨if k<0 then c0 else y0,if 0<m then c1 else y1⟩):=by
   unfold GN
   simp only
   rw [hk,sB,pickn,sB,hm,sB,pickn,sB,e0,e1]
   show mb (Cp ⟨ofD (if k<0 then c0 else y0),ofD (if 0<m then c1 else y1)⟩) _=_
   rw [Jv (cbV l0.1.v l0.1.lt) (cbV l1.1.v l1.1.lt)];rfl
  unfold FX DJ Ff Ba
  rw [p0,p1,fineP,if_pos (by decide)]
  unfold toL
  simp only [IM]
  show ((mb (GN ⟨ofD y0,ofD y1⟩ ⟨ofD c0,ofD c1⟩ 1) _).bind _).bind _=_
  rw [hH];rfl
theorem rootSp {x0 x1:Al} (v0:VT x0) (v1:VT x1) (m0:bl x0.Man.Abs≤500) (m1:bl x1.Man.Abs≤500) (a0 : -2000≤x0.Exp) (a1:x0.Exp≤2000) (b0 : -2000≤x1.Exp) (b1:x1.Exp≤2000) (hs:x0.Man.Neg=false) (hle:V x0≤V x1) (b:Nat) (hb:1≤b) (hb':b≤500) :
  ∃l u,GC ⟨toL x0,toL x1⟩ (b:Int)=some (⟨toD l,toD u⟩,0)∧En l 500 (-5000) 5000∧En u 500 (-5000) 5000∧V (toD l)*V (toD l)≤V x0*KK∧V x1*KK≤V (toD u)*V (toD u)∧0≤V (toD u):=by
 have l0:=mkLt v0 (by omega) (by omega) (by omega)
 have l1:=mkLt v1 (by omega) (by omega) (by omega)
 have g0:0≤V x0:=by
  unfold V Z
  rw [hs]
  exact Int.mul_nonneg (Int.natCast_nonneg _) (Int.le_of_lt (p2 _))
 have s0:0≤sv x0.Man.Neg x0.Man.Abs:=Int.not_lt.1 fun h=>by have:=(svV x0).2.1 h;omega
 have s1:0≤sv x1.Man.Neg x1.Man.Abs:=Int.not_lt.1 fun h=>by have:=(svV x1).2.1 h;omega
 obtain ⟨l,_,c1,_,c2,_,c3,_,_⟩:=SE x0 v0 (by omega) a0 a1 s0 b hb hb'
 obtain ⟨_,u,_,d1,_,d2,_,d3,d4⟩:=SE x1 v1 (by omega) b0 b1 s1 b hb hb'
 exact ⟨l,u,Root_0 ⟨x0,x1⟩ _ (properV v0 v1 l0 l1 hle) (by omega) s0 c2.c d2.c c1 d1,c2.w hb' (Int.le_refl _) (Int.le_refl _),d2.w hb' (Int.le_refl _) (Int.le_refl _),c3,d3,d4⟩
structure Rv (s:Bool) (n d k:Nat):Prop where
 z:n=0→s=false
 d0:d≠0
 g:Nat.gcd n d=1
 n:Sbn.sz n≤k
 d:Sbn.sz d≤k
theorem Rv.valid {s:Bool} {n d k:Nat} (h:Rv s n d k) (hk:k≤1024):BN ⟨⟨s,limbs n⟩,limbs d⟩=some true:=ratio_true s n d h.z (Nat.le_trans h.n hk) (Nat.le_trans h.d hk) h.d0 h.g
theorem Rv.pos {s:Bool} {n d k:Nat} (h:Rv s n d k):(0:Int)<d:=by have:=h.d0;omega
theorem wantR (e:Int):Hq true e=some (.ok ()):=rfl
theorem PA {s t:Bool} {n d m c k:Nat} (h:Rv s n d k) (h':Rv t m c k) (hk:k≤1024):Ej ⟨⟨s,n⟩,d⟩ ⟨⟨t,m⟩,c⟩=some (.ok ()):=by
 unfold Ej
 simp only
 rw [h.valid hk,sB,wantR,mbo,h'.valid hk,sB,wantR,mbo]
theorem ratV (x:BT) (h1:Dig x.Num.Abs) (h2:Dig x.Den):∃v,BN x=some v∧(v=true→∃(s:Bool) (n d:Nat),x=⟨⟨s,limbs n⟩,limbs d⟩∧Rv s n d 1024):=by
 obtain ⟨v,e,f,g⟩:=NR x.Num h1
 unfold BN
 rw [f,sB]
 cases v
 ·exact ⟨false,rfl,fun h=>by cases h⟩
 obtain ⟨m,hm,hs,hz⟩:=g rfl
 rw [nValid h2]
 by_cases hP:x.Den.length≤1024∧limbs (val x.Den)=x.Den
 ·rw [decide_eq_true hP]
  obtain ⟨hl,hc⟩:=hP
  obtain ⟨N,D⟩:=x
  simp only at hm hl hc
  generalize val D=d at hc
  subst hc hm
  by_cases h0:d=0
  ·subst h0
   exact ⟨false,rfl,fun h=>by cases h⟩
  ·have hln:((limbs d).length:Int)≠0:=by
    intro h;exact h0 (GS (by have:Sbn.sz d=(limbs d).length:=rfl;omega))
   have hg:=natGcd m.Abs d hs hl h0
   refine ⟨decide (Nat.gcd m.Abs d=1),?_,fun hv=>⟨m.Neg,m.Abs,d,rfl,hz,h0,of_decide_eq_true hv,hs,hl⟩⟩
   simp only [not_true_eq_false,if_false,sB,decide_false,Bool.false_eq_true,decide_eq_false hln,IG,hg]
   exact Qy _
 ·rw [decide_eq_false hP]
  exact ⟨false,rfl,fun h=>by cases h⟩
theorem Ra (s:Bool) (n:Nat):Z (s && decide (n≠0)) n=Z s n:=by
 by_cases h:n=0
 ·subst h;rw [Z0,Z0]
 ·rw [decide_eq_true h,Bool.and_true]
theorem andz {s:Bool} {n:Nat} (h:n=0):(s && decide (n≠0))=false:=by rw [decide_eq_false (fun k=>k h),Bool.and_false]
theorem wholeArgs2 (s t:Bool) (a b:Nat) (ha:Sbn.sz a≤1024) (hb:Sbn.sz b≤1024) (h1:a=0→s=false) (h2:b=0→t=false):HA ⟨s,a⟩ ⟨t,b⟩=some (.ok ()):=by
 unfold HA BK Cd Fz
 simp only
 rw [wholeValid s a ha h1,wholeValid t b hb h2];rfl
theorem szm {a b i j:Nat} (ha:Sbn.sz a≤i) (hb:Sbn.sz b≤j):Sbn.sz (a*b)≤i+j:=EF (Nat.le_trans (MT a b) (by have:=Fi ha;have:=Fi hb;omega))
theorem szd {a b i:Nat} (ha:Sbn.sz a≤i):Sbn.sz (a/b)≤i:=EF (Nat.le_trans (Jp _ _) (Fi ha))
theorem ratioJoined (s t:Bool) (a x b y:Nat) (ha:Sbn.sz a≤31) (hx:Sbn.sz x≤31) (hb:Sbn.sz b≤31) (hy:Sbn.sz y≤31) :
  ∃A:Nat,HM ⟨s,a⟩ x ⟨t,b⟩ y=some (⟨decide (Z s (a*x)+Z t (b*y)<0),A⟩,true)∧A=(Z s (a*x)+Z t (b*y)).natAbs∧Sbn.sz A≤63:=by
 have k1:=szm ha hx
 have k2:=szm hb hy
 have hz:=RX (s && decide (a*x≠0)) (a*x) (t && decide (b*y≠0)) (b*y)
 rw [Ra,Ra] at hz
 have hA:(addZ (s && decide (a*x≠0)) (a*x) (t && decide (b*y≠0)) (b*y)).2=(Z s (a*x)+Z t (b*y)).natAbs:=by rw [←hz,Ou]
 have hS:((addZ (s && decide (a*x≠0)) (a*x) (t && decide (b*y≠0)) (b*y)).1 && decide ((addZ (s && decide (a*x≠0)) (a*x) (t && decide (b*y≠0)) (b*y)).2≠0))=decide (Z s (a*x)+Z t (b*y)<0):=by
  rw [←hz]
  generalize addZ (s && decide (a*x≠0)) (a*x) (t && decide (b*y≠0)) (b*y)=q
  obtain ⟨σ,N⟩:=q
  simp only
  unfold Z
  cases σ
  ·simp
  ·rw [Bool.true_and];exact decide_eq_decide.2 (by simp only [if_true];omega)
 have hw:=wholeSum (s && decide (a*x≠0)) (t && decide (b*y≠0)) (a*x) (b*y) (by omega) (by omega)
 rw [hS,hA] at hw
 have hbl:Sbn.sz (Z s (a*x)+Z t (b*y)).natAbs≤63:=by
  refine EF ?_
  have e1:bl (a*x)≤1984:=by have:=Fi k1;omega
  have e2:bl (b*y)≤1984:=by have:=Fi k2;omega
  have h3:=NL e1 e2
  have h4:(Z s (a*x)+Z t (b*y)).natAbs≤a*x+b*y:=Nat.le_trans (Int.natAbs_add_le _ _) (by rw [Ou,Ou];exact Nat.le_refl _)
  have:=KE h4
  omega
 refine ⟨_,?_,rfl,hbl⟩
 unfold HM
 simp only
 rw [natMulN a x (by omega) (by omega) (by omega),sB,natMulN b y (by omega) (by omega) (by omega),sB]
 simp only [not_true_eq_false,if_false,sB,decide_false,Bool.false_eq_true]
 rw [ratioSigned,sB,ratioSigned,sB]
 unfold KB Dk EE FJ
 rw [wholeArgs2 _ _ _ _ (by omega) (by omega) andz andz,mbo,hw,mbo,wholeOwn _ _ (by omega),sB,mbo]
 rfl
theorem SO:FT 0=some (.ok ()):=rfl
theorem Pz {s t:Bool} {n d m c:Nat} (h:Rv s n d 20) (h':Rv t m c 20) :
  ∃(σ:Bool) (N D:Nat),IJ ⟨⟨s,n⟩,d⟩ ⟨⟨t,m⟩,c⟩=some (.ok ⟨⟨σ,N⟩,D⟩)∧Rv σ N D 130∧Z σ N*((d*c:Nat):Int)=(Z s n*(c:Int)+Z t m*(d:Int))*(D:Int):=by
 have i1:=h.n
 have i2:=h.d
 have i3:=h'.n
 have i4:=h'.d
 have g0:Nat.gcd d c≠0:=Nat.pos_iff_ne_zero.1 (Nat.gcd_pos_of_pos_right _ (Nat.pos_of_ne_zero h'.d0))
 have hg:Sbn.sz (Nat.gcd d c)≤20:=EF (Nat.le_trans (KE (Nat.gcd_le_right _ (Nat.pos_of_ne_zero h'.d0))) (Fi i4))
 obtain ⟨A,j1,j2,j3⟩:=ratioJoined s t n (c/Nat.gcd d c) m (d/Nat.gcd d c) (by omega) (szd (by omega)) (by omega) (szd (by omega))
 have hnum:Z s (n*(c/Nat.gcd d c))+Z t (m*(d/Nat.gcd d c))=Z s n*((c/Nat.gcd d c:Nat):Int)+Z t m*((d/Nat.gcd d c:Nat):Int):=by rw [SB,SB]
 have low:=sum_lowest s t h.g h'.g h.d0 h'.d0 hnum
 have val:=sum_value s t h.d0 h'.d0 hnum
 rw [←j2] at low val
 have h0:Nat.gcd A (Nat.gcd d c)≠0:=Nat.pos_iff_ne_zero.1 (Nat.gcd_pos_of_pos_right _ (Nat.pos_of_ne_zero g0))
 have hh:Sbn.sz (Nat.gcd A (Nat.gcd d c))≤20:=EF (Nat.le_trans (KE (Nat.gcd_le_right _ (Nat.pos_of_ne_zero g0))) (Fi hg))
 have kx:Sbn.sz (d/Nat.gcd d c)≤20:=szd i2
 have ky:Sbn.sz (c/Nat.gcd d c)≤20:=szd i4
 have kk:Sbn.sz (Nat.gcd d c/Nat.gcd A (Nat.gcd d c))≤20:=szd hg
 have kxy:=szm kx ky
 have kd:=szm kxy kk
 have kA:Sbn.sz (A/Nat.gcd A (Nat.gcd d c))≤63:=szd j3
 have dv:∀ {u v:Nat},u∣v→v≠0→v/u≠0:=fun {u v} hd hv hq=>hv (by have:=Nat.div_mul_cancel hd;rw [hq,Nat.zero_mul] at this;exact this.symm)
 have d1:=dv (Nat.gcd_dvd_left d c) h.d0
 have d2:=dv (Nat.gcd_dvd_right d c) h'.d0
 have d3:=dv (Nat.gcd_dvd_right A (Nat.gcd d c)) g0
 refine ⟨decide (Z s (n*(c/Nat.gcd d c))+Z t (m*(d/Nat.gcd d c))<0) && decide (A/Nat.gcd A (Nat.gcd d c)≠0),A/Nat.gcd A (Nat.gcd d c),_,?_,⟨andz,Nat.mul_ne_zero (Nat.mul_ne_zero d1 d2) d3,low,by omega,by omega⟩,by rw [Ra];exact val⟩
 unfold IJ
 simp only
 rw [natGcd d c (by omega) (by omega) h'.d0,sB]
 simp only
 rw [SO,mbo,ratioDivided d _ (by omega) (by omega) g0,mbo,ratioDivided c _ (by omega) (by omega) g0,mbo]
 simp only
 rw [j1,sB]
 simp only
 rw [if_pos trivial,natGcd A _ (by omega) (by omega) g0,sB]
 simp only
 rw [SO,mbo,ratioDivided A _ (by omega) (by omega) h0,mbo,ratioDivided _ _ (by omega) (by omega) h0,mbo]
 simp only
 rw [ratioSigned,sB,ratioTimes _ _ (by omega) (by omega) (by omega),mbo,ratioTimes _ _ (by omega) (by omega) (by omega),mbo]
theorem ratioNegative (s:Bool) (n d:Nat):Ge ⟨⟨s,n⟩,d⟩=some ⟨⟨(!s) && decide (n≠0),n⟩,d⟩:=by
 unfold Ge JC
 simp only
 rw [ratioSigned,sB,sB]
 cases s<;>rfl
theorem Z_not (s:Bool) (n:Nat):Z (!s) n = -Z s n:=by cases s<;>simp [Z]
theorem ratioAdd {s t:Bool} {n d m c:Nat} (h:Rv s n d 20) (h':Rv t m c 20) :
  ∃(σ:Bool) (N D:Nat),JH ⟨⟨s,n⟩,d⟩ ⟨⟨t,m⟩,c⟩=some (⟨⟨σ,N⟩,D⟩,0)∧Rv σ N D 130∧Z σ N*((d*c:Nat):Int)=(Z s n*(c:Int)+Z t m*(d:Int))*(D:Int):=by
 obtain ⟨σ,N,D,h1,h2,h3⟩:=Pz h h'
 refine ⟨σ,N,D,?_,h2,h3⟩
 unfold JH Lu
 rw [PA h h' (by decide),mbo,h1,mbo];rfl
theorem ratioSub {s t:Bool} {n d m c:Nat} (h:Rv s n d 20) (h':Rv t m c 20) :
  ∃(σ:Bool) (N D:Nat),JG ⟨⟨s,n⟩,d⟩ ⟨⟨t,m⟩,c⟩=some (⟨⟨σ,N⟩,D⟩,0)∧Rv σ N D 130∧Z σ N*((d*c:Nat):Int)=(Z s n*(c:Int) + -Z t m*(d:Int))*(D:Int):=by
 obtain ⟨σ,N,D,h1,h2,h3⟩:=Pz (t:=(!t) && decide (m≠0)) h ⟨andz,h'.d0,h'.g,h'.n,h'.d⟩
 rw [Ra,Z_not] at h3
 refine ⟨σ,N,D,?_,h2,h3⟩
 unfold JG LB
 rw [PA h h' (by decide),mbo,ratioNegative,sB,h1,mbo];rfl
theorem Ox {s t:Bool} {n d m c:Nat} (h:Rv s n d 20) (hg:Nat.gcd m c=1) (c0:c≠0) (hm:Sbn.sz m≤20) (hc:Sbn.sz c≤20) :
  ∃(σ:Bool) (N D:Nat),FN ⟨⟨s,n⟩,d⟩ ⟨⟨t,m⟩,c⟩=some (.ok ⟨⟨σ,N⟩,D⟩)∧Rv σ N D 40∧Z σ N*((d*c:Nat):Int)=Z s n*Z t m*(D:Int)∧(s=t→σ=false):=by
 have i1:=h.n
 have i2:=h.d
 have low:=prod_lowest h.g hg h.d0 c0
 have val:=prod_value (n:=n) (m:=m) h.d0 c0
 have dv:∀ {u v:Nat},u∣v→v≠0→v/u≠0:=fun {u v} hd hv hq=>hv (by have:=Nat.div_mul_cancel hd;rw [hq,Nat.zero_mul] at this;exact this.symm)
 refine ⟨_,_,_,ratioProduct s t n d m c (by omega) (by omega) (by omega) (by omega) h.d0 c0,⟨andz,Nat.mul_ne_zero (dv (Nat.gcd_dvd_right n c) c0) (dv (Nat.gcd_dvd_right m d) h.d0),low,szm (i:=20) (j:=20) (szd i1) (szd hm),szm (i:=20) (j:=20) (szd hc) (szd i2)⟩,?_,fun e=>by subst e;simp⟩
 rw [Ra]
 have hz:∀M:Nat,Z (decide (¬s=t)) M=(if s=true then -1 else 1)*(if t=true then -1 else 1)*(M:Int):=by
  intro M
  cases s<;>cases t<;>simp [Z]
 have hz2:Z s n*Z t m=(if s=true then -1 else 1)*(if t=true then -1 else 1)*((n*m:Nat):Int):=by
  rw [Int.natCast_mul]
  cases s<;>cases t<;>simp [Z,Int.neg_mul,Int.mul_neg]
 rw [hz,hz2,Int.mul_assoc,Int.mul_assoc _ ((n*m:Nat):Int),←Int.natCast_mul,←Int.natCast_mul,val]
theorem PN {s t:Bool} {n d m c:Nat} (h:Rv s n d 20) (h':Rv t m c 20) :
  ∃(σ:Bool) (N D:Nat),IN ⟨⟨s,n⟩,d⟩ ⟨⟨t,m⟩,c⟩=some (⟨⟨σ,N⟩,D⟩,0)∧Rv σ N D 40∧Z σ N*((d*c:Nat):Int)=Z s n*Z t m*(D:Int)∧(s=t→σ=false):=by
 obtain ⟨σ,N,D,h1,h2,h3,h4⟩:=Ox (t:=t) h h'.g h'.d0 h'.n h'.d
 refine ⟨σ,N,D,?_,h2,h3,h4⟩
 unfold IN Lx
 rw [PA h h' (by decide),mbo,h1,mbo];rfl
theorem ratioDiv {s t:Bool} {n d m c:Nat} (h:Rv s n d 20) (h':Rv t m c 20) :
  (m=0→∃r,Hl ⟨⟨s,n⟩,d⟩ ⟨⟨t,m⟩,c⟩=some (r,8))∧
  (m≠0→∃(σ:Bool) (N D:Nat),Hl ⟨⟨s,n⟩,d⟩ ⟨⟨t,m⟩,c⟩=some (⟨⟨σ,N⟩,D⟩,0)∧Rv σ N D 40∧Z σ N*(Z t m*(d:Int))=Z s n*(c:Int)*(D:Int)):=by
 constructor
 ·intro h0
  subst h0
  refine ⟨⟨⟨false,0⟩,0⟩,?_⟩
  unfold Hl Kj Ja
  rw [PA h h' (by decide),mbo,sB];rfl
 ·intro h0
  obtain ⟨σ,N,D,h1,h2,h3,_⟩:=Ox (t:=t && decide (c≠0)) (m:=c) (c:=m) h (by rw [Nat.gcd_comm];exact h'.g) h0 h'.d h'.n
  refine ⟨σ,N,D,?_,h2,?_⟩
  ·have hz:(decide (((sz m:Int))=0))=false:=decide_eq_false (fun h=>h0 (by rw [sz0] at h;exact h))
   unfold Hl Kj Ja Iz
   simp only
   rw [PA h h' (by decide),mbo,sB,hz,show decide (¬(false=true))=true from rfl,wantR,mbo,ratioSigned,sB,sB,h1,mbo];rfl
  ·rw [Ra,Int.natCast_mul] at h3
   cases t
   ·have e1:Z false m=(m:Int):=rfl
    have e2:Z false c=(c:Int):=rfl
    rw [e2] at h3
    rw [e1,Int.mul_comm (m:Int)];exact h3
   ·have e1:Z true m = -(m:Int):=rfl
    have e2:Z true c = -(c:Int):=rfl
    rw [e2,Int.mul_neg,Int.neg_mul] at h3
    rw [e1,Int.neg_mul,Int.mul_neg,Int.mul_comm (m:Int)]
    omega
theorem moderateV (x y:BT) (h0:Dig x.Num.Abs) (h1:Dig x.Den) (h2:Dig y.Num.Abs) (h3:Dig y.Den) :
  ∃v,Dn x y=some v∧(v=true→∃(s t:Bool) (n d m c:Nat),x=⟨⟨s,limbs n⟩,limbs d⟩∧y=⟨⟨t,limbs m⟩,limbs c⟩∧Rv s n d 20∧Rv t m c 20):=by
 have one:∀(x:BT),Dig x.Num.Abs→Dig x.Den→∃q,((if 20<((List.length x.Num.Abs:Int)) then some (true) else some ((decide (20<((List.length x.Den:Int)))))).bind fun m28=>
   (if m28=true then some (true) else (BN x).bind fun r72=>some ((decide (¬(r72=true))))))=some q∧(q=false→∃(s:Bool) (n d:Nat),x=⟨⟨s,limbs n⟩,limbs d⟩∧Rv s n d 20):=by
  intro x h0 h1
  obtain ⟨v,e,f⟩:=ratV x h0 h1
  by_cases k0:20<(x.Num.Abs.length:Int)
  ·exact ⟨true,by rw [if_pos k0];rfl,fun h=>by cases h⟩
  ·rw [if_neg k0,sB]
   by_cases k1:20<(x.Den.length:Int)
   ·exact ⟨true,by rw [decide_eq_true k1];rfl,fun h=>by cases h⟩
   ·rw [decide_eq_false k1,if_neg (by decide),e,sB]
    refine ⟨_,rfl,fun h=>?_⟩
    have hv:v=true:=by cases v<;>simp at h ⊢
    obtain ⟨s,n,d,rfl,r⟩:=f hv
    have e1:(limbs n).length=Sbn.sz n:=rfl
    have e2:(limbs d).length=Sbn.sz d:=rfl
    simp only at k0 k1
    exact ⟨s,n,d,rfl,r.z,r.d0,r.g,by omega,by omega⟩
 obtain ⟨q0,a0,b0⟩:=one x h0 h1
 obtain ⟨q1,a1,b1⟩:=one y h2 h3
 have bb:∀ {α β γ:Type} (o:Option α) (f:α→Option β) (g:β→Option γ),(o.bind fun a=>(f a).bind g)=(o.bind f).bind g:=fun o f g=>by cases o<;>rfl
 unfold Dn
 rw [bb,a0,sB]
 cases q0
 ·rw [if_neg (by decide),bb,a1,sB]
  cases q1
  ·obtain ⟨s,n,d,e,r⟩:=b0 rfl
   obtain ⟨t,m,c,e',r'⟩:=b1 rfl
   exact ⟨true,rfl,fun _=>⟨s,t,n,d,m,c,e,e',r,r'⟩⟩
  ·exact ⟨false,rfl,fun h=>by cases h⟩
 ·exact ⟨false,rfl,fun h=>by cases h⟩
theorem hasE {S:Ao} {e f:Int} {r:Ap} (h:e≠0∨f≠0):Bj S e r f=some true:=by
 unfold Bj
 rcases h with h | h
 ·rw [if_pos h];rfl
 ·by_cases h0:e=0
  ·rw [if_neg (fun k=>k h0),sB,decide_eq_true h];rfl
  ·rw [if_pos h0];rfl
theorem hasR {l u:Aj} {σ:Bool} {N D k:Nat} (h:Rs l u (Z σ N) D) (r:Rv σ N D k) (hk:k≤130):Bj ⟨toD l,toD u⟩ 0 ⟨⟨σ,N⟩,D⟩ 0=some true:=by
 have hb:=Fi r.n
 have hb':=Fi r.d
 have:=hasV (toD l) (toD u) h.a.v h.b.v h.a.l h.b.l σ N D r.d0 (by omega) (by omega) (r.valid (by omega)) h.lo h.hi
 unfold Bj
 rw [if_neg (by simp),sB,show decide (¬(0:Int)=0)=false from rfl,if_neg (by decide)]
 show ((Jo ⟨toL (toD l),toL (toD u)⟩ ⟨⟨σ,limbs N⟩,limbs D⟩).bind _)=_
 rw [this];rfl
theorem Rs.carry {l u:Aj} {N d n c:Int} (h:Rs l u N d) (hd:0<d) (hc:0≤c) (e:n*d=N*c):Rs l u n c:=⟨h.a,h.b,Pq.carry h.lo hd e hc,carry' h.hi hd e hc⟩
theorem ZZ (s:Bool) (n:Nat):Z s n*Z s n=(n:Int)*n:=by cases s<;>simp [Z,Int.neg_mul,Int.mul_neg]
theorem rooted {s:Bool} {n d:Nat} (h:Rv s n d 20) (b k:Nat) (hb:1≤b) (hb':b≤500) (hk:1≤k) (hk':k≤500):EU ⟨⟨s,n⟩,d⟩ (b:Int) (k:Int)=some true:=by
 obtain ⟨σ,N,D,m1,m2,m3,m4⟩:=PN h h
 obtain rfl:=m4 rfl
 have bn:=Fi m2.n
 have bd:=Fi m2.d
 obtain ⟨l,u,a1,a2,a3,a4,a5,a6,a7⟩:=OX false N D m2.d0 m2.n m2.d (m2.valid (by decide)) b hb hb'
 obtain ⟨l',u',r1,r2,r3,r4,r5,r6⟩:=rootSp a2.a.v a2.b.v a2.a.m a2.b.m (by show _≤l.e;omega) (by show l.e≤_;omega) (by show _≤u.e;omega) (by show u.e≤_;omega) (a7 rfl)
  (Int.le_of_mul_le_mul_right (Int.le_trans a2.lo a2.hi) m2.pos) k hk hk'
 have hN:Z false N=(N:Int):=rfl
 have e:Z false N*((d:Int)*d)=(n:Int)*n*(D:Int):=by
  rw [ZZ,Int.natCast_mul] at m3;exact m3
 have hRs:Rs l' u' (Z false n) d:=⟨r2,r3,rootB KK0 m2.pos (Int.natCast_nonneg n) r4 a2.lo e,rootB' KK0 m2.pos r6 (Int.natCast_nonneg d) r5 a2.hi e⟩
 have hR:Rv false n d 20:=⟨fun _=>rfl,h.d0,h.g,h.n,h.d⟩
 have hh:=hasR hRs hR (by decide)
 have hneg:(if s=true then (JP ⟨⟨s,n⟩,d⟩).bind fun r155=>some (r155.2,r155.1.Num.Neg,r155.1.Num.Abs,r155.1.Den) else some ((0:Int),s,n,d))=some (0,false,n,d):=by
  cases s
  ·rfl
  ·rw [if_pos rfl]
   unfold JP Lh Ic
   simp only
   rw [h.valid (by decide),sB,wantR,mbo,mbo,ratioNegative,sB]
   rfl
 unfold EU
 rw [m1,sB]
 simp only
 rw [a1,sB]
 simp only [not_true_eq_false,if_false,sB,decide_false,Bool.false_eq_true]
 have r1':GC (⟨⟨⟨(toD l).Man.Neg,limbs (toD l).Man.Abs⟩,(toD l).Exp⟩,⟨⟨(toD u).Man.Neg,limbs (toD u).Man.Abs⟩,(toD u).Exp⟩⟩:Am) (k:Int)=some (⟨toD l',toD u'⟩,0):=r1
 rw [r1',sB]
 simp only
 rw [hneg,sB]
 simp only
 rw [if_pos trivial,hh]
 rfl
theorem lawEncloses (x0 x1:BT) (x2:Am) (x3 x4:Int) (h0:Dig x0.Num.Abs) (h1:Dig x0.Den) (h2:Dig x1.Num.Abs) (h3:Dig x1.Den) (h4:Dig x2.Lo.Man.Abs) (h5:Dig x2.Hi.Man.Abs):Ez x0 x1 x2 x3 x4=some true:=by
 obtain ⟨w,e1,f1⟩:=moderateV x0 x1 h0 h1 h2 h3
 obtain ⟨v,e2,_⟩:=few3 x2 h4 h5
 unfold Ez
 rw [e1,sB]
 cases w
 ·rw [if_pos (by decide),sB,if_pos rfl,sB,if_pos rfl,sB,if_pos rfl,sB,if_pos rfl,sB,if_pos rfl,sanity];rfl
 rw [if_neg (by simp),e2,sB,sB]
 cases v
 ·rw [show decide (¬(false=true))=true from rfl,if_pos rfl,sB,if_pos rfl,sB,if_pos rfl,sB,if_pos rfl,sB,if_pos rfl,sanity];rfl
 rw [show decide (¬(true=true))=false from rfl,if_neg (by decide),sB]
 by_cases b1:x3<1
 ·rw [decide_eq_true b1,if_pos rfl,sB,if_pos rfl,sB,if_pos rfl,sB,if_pos rfl,sanity];rfl
 rw [decide_eq_false b1,if_neg (by decide),sB]
 by_cases b2:500<x3
 ·rw [decide_eq_true b2,if_pos rfl,sB,if_pos rfl,sB,if_pos rfl,sanity];rfl
 rw [decide_eq_false b2,if_neg (by decide),sB]
 by_cases b3:x4<1
 ·rw [decide_eq_true b3,if_pos rfl,sB,if_pos rfl,sanity];rfl
 rw [decide_eq_false b3,if_neg (by decide),sB]
 by_cases b4:500<x4
 ·rw [decide_eq_true b4,if_pos rfl,sanity];rfl
 rw [decide_eq_false b4,if_neg (by decide)]
 obtain ⟨s,t,n,d,m,c,rfl,rfl,ra,rb⟩:=f1 rfl
 obtain ⟨b,rfl⟩:∃b:Nat,x3=(b:Int):=⟨x3.toNat,by omega⟩
 obtain ⟨k,rfl⟩:∃k:Nat,x4=(k:Int):=⟨x4.toNat,by omega⟩
 have hb:1≤b:=by omega
 have hb':b≤500:=by omega
 have hk:1≤k:=by omega
 have hk':k≤500:=by omega
 have bn:=Fi ra.n
 have bd:=Fi ra.d
 have bm:=Fi rb.n
 have bc:=Fi rb.d
 obtain ⟨l,u,a1,a2,a3,a4,a5,a6,_⟩:=OX s n d ra.d0 (Nat.le_trans ra.n (by decide)) (Nat.le_trans ra.d (by decide)) (ra.valid (by decide)) b hb hb'
 obtain ⟨l',u',c1,c2,c3,c4,c5,c6,_⟩:=OX t m c rb.d0 (Nat.le_trans rb.n (by decide)) (Nat.le_trans rb.d (by decide)) (rb.valid (by decide)) b hb hb'
 have hx:=hasR a2 ra (by decide)
 have hy:=hasR c2 rb (by decide)
 have sx:Sp (toD l) (toD u) (Z s n) d:=⟨⟨a2.a.v,Nat.le_trans a2.a.m (by decide),by show _≤l.e;omega,by show l.e≤_;omega⟩,⟨a2.b.v,Nat.le_trans a2.b.m (by decide),by show _≤u.e;omega,by show u.e≤_;omega⟩,a2.lo,a2.hi⟩
 have sy:Sp (toD l') (toD u') (Z t m) c:=⟨⟨c2.a.v,Nat.le_trans c2.a.m (by decide),by show _≤l'.e;omega,by show l'.e≤_;omega⟩,⟨c2.b.v,Nat.le_trans c2.b.m (by decide),by show _≤u'.e;omega,by show u'.e≤_;omega⟩,c2.lo,c2.hi⟩
 rw [a1,sB,c1,sB]
 generalize toD l=p0 at *
 generalize toD u=p1 at *
 generalize toD l'=q0 at *
 generalize toD u'=q1 at *
 simp only [IG,sB,not_true_eq_false,if_false,decide_false,Bool.false_eq_true]
 rw [hx,sB,show decide (¬(true=true))=false from rfl,sB,if_neg (by decide),hy,sB,show decide (¬(true=true))=false from rfl,sB,if_neg (by decide)]
 have hull:∀(K:Bool × Nat × Int × Bool × Nat × Int→Option Bool),(∀y0 y1,Sp y0 y1 (Z t m) c→K (y0.Man.Neg,y0.Man.Abs,y0.Exp,y1.Man.Neg,y1.Man.Abs,y1.Exp)=some true)→
   ((FX ⟨⟨⟨q0.Man.Neg,limbs q0.Man.Abs⟩,q0.Exp⟩,⟨⟨q1.Man.Neg,limbs q1.Man.Abs⟩,q1.Exp⟩⟩ x2).bind fun r374=>(if r374.2=0 then some (r374.1.Lo.Man.Neg,r374.1.Lo.Man.Abs,r374.1.Lo.Exp,r374.1.Hi.Man.Neg,r374.1.Hi.Man.Abs,r374.1.Hi.Exp) else some (q0.Man.Neg,q0.Man.Abs,q0.Exp,q1.Man.Neg,q1.Man.Abs,q1.Exp)).bind K)=some true:=by
  intro K hK
  rcases hullSp sy rb.pos x2 h4 h5 e2 with ⟨w,e,g1,g2⟩ | ⟨lo,hi,g1,g2⟩
  ·have g1':FX ⟨⟨⟨q0.Man.Neg,limbs q0.Man.Abs⟩,q0.Exp⟩,⟨⟨q1.Man.Neg,limbs q1.Man.Abs⟩,q1.Exp⟩⟩ x2=some (w,e):=g1
   rw [g1',sB]
   simp only
   rw [if_neg g2,sB];exact hK q0 q1 sy
  ·have g1':FX ⟨⟨⟨q0.Man.Neg,limbs q0.Man.Abs⟩,q0.Exp⟩,⟨⟨q1.Man.Neg,limbs q1.Man.Abs⟩,q1.Exp⟩⟩ x2=some (⟨lo,hi⟩,0):=g1
   rw [g1',sB]
   simp only
   rw [if_pos trivial,sB];exact hK lo hi g2
 refine hull _ fun y0 y1 hs=>?_
 simp only
 have eX:(⟨⟨⟨p0.Man.Neg,limbs p0.Man.Abs⟩,p0.Exp⟩,⟨⟨p1.Man.Neg,limbs p1.Man.Abs⟩,p1.Exp⟩⟩:Am)=⟨toL p0,toL p1⟩:=rfl
 have eY:(⟨⟨⟨y0.Man.Neg,limbs y0.Man.Abs⟩,y0.Exp⟩,⟨⟨y1.Man.Neg,limbs y1.Man.Abs⟩,y1.Exp⟩⟩:Am)=⟨toL y0,toL y1⟩:=rfl
 simp only [eX,eY]
 have dc:(0:Int)<(d:Int)*c:=Int.mul_pos ra.pos rb.pos
 obtain ⟨l1,u1,i1,i2⟩:=plusSp sx hs ra.pos rb.pos k hk hk'
 obtain ⟨σ1,N1,D1,j1,j2,j3⟩:=ratioAdd ra rb
 rw [Int.natCast_mul] at j3
 rw [i1,sB,j1,sB,hasR (i2.carry dc (Int.natCast_nonneg _) j3) j2 (by decide),sB,if_neg (by simp)]
 clear i1 i2 j1 j2 j3
 obtain ⟨l1,u1,i1,i2⟩:=minusSp sx hs ra.pos rb.pos k hk hk'
 obtain ⟨σ1,N1,D1,j1,j2,j3⟩:=ratioSub ra rb
 rw [Int.natCast_mul] at j3
 rw [i1,sB,j1,sB,hasR (i2.carry dc (Int.natCast_nonneg _) j3) j2 (by decide),sB,if_neg (by simp)]
 clear i1 i2 j1 j2 j3
 obtain ⟨l1,u1,i1,i2⟩:=timesSp sx hs ra.pos rb.pos k hk hk'
 obtain ⟨σ1,N1,D1,j1,j2,j3,_⟩:=PN ra rb
 rw [Int.natCast_mul] at j3
 rw [i1,sB,j1,sB,hasR (i2.carry dc (Int.natCast_nonneg _) j3) j2 (by decide),sB,if_neg (by simp)]
 clear i1 i2 j1 j2 j3
 have quo:∃S e r f,EP ⟨toL p0,toL p1⟩ ⟨toL y0,toL y1⟩ (k:Int)=some (S,e)∧Hl ⟨⟨s,n⟩,d⟩ ⟨⟨t,m⟩,c⟩=some (r,f)∧Bj S e r f=some true:=by
  obtain ⟨z0,z1⟩:=ratioDiv ra rb
  rcases overSp sx hs ra.pos rb.pos k hk hk' with i1 | ⟨hB,l1,u1,i1,i2,i3,i4,i5⟩
  ·by_cases hm:m=0
   ·obtain ⟨r,j1⟩:=z0 hm
    exact ⟨_,_,_,_,i1,j1,hasE (Or.inl (by decide))⟩
   ·obtain ⟨σ1,N1,D1,j1,_⟩:=z1 hm
    exact ⟨_,_,_,_,i1,j1,hasE (Or.inl (by decide))⟩
  ·have hm:m≠0:=fun h=>hB (by rw [h,Z0])
   obtain ⟨σ1,N1,D1,j1,j2,j3⟩:=z1 hm
   refine ⟨_,_,_,_,i1,j1,hasR ⟨i2,i3,?_,?_⟩ j2 (by decide)⟩
   ·rcases Int.lt_or_gt_of_ne hB with h | h
    ·refine carry (M:=-(Z t m*(d:Int))) (N:=-(Z s n*(c:Int))) (by rw [Int.mul_neg,Int.neg_mul];exact Int.neg_le_neg (i5 h).1) (by have:=Int.mul_neg_of_neg_of_pos h ra.pos;omega) (by rw [Int.mul_neg,Int.neg_mul,j3]) (Int.natCast_nonneg _)
    ·exact carry (i4 h).1 (Int.mul_pos h ra.pos) j3 (Int.natCast_nonneg _)
   ·rcases Int.lt_or_gt_of_ne hB with h | h
    ·refine carry' (M:=-(Z t m*(d:Int))) (N:=-(Z s n*(c:Int))) (by rw [Int.mul_neg,Int.neg_mul];exact Int.neg_le_neg (i5 h).2) (by have:=Int.mul_neg_of_neg_of_pos h ra.pos;omega) (by rw [Int.mul_neg,Int.neg_mul,j3]) (Int.natCast_nonneg _)
    ·exact carry' (i4 h).2 (Int.mul_pos h ra.pos) j3 (Int.natCast_nonneg _)
 obtain ⟨S,e,r,f,i1,j1,i2⟩:=quo
 rw [i1,sB,j1,sB,i2,sB,if_neg (by simp),sanity,sB,if_pos rfl,rooted ra b k hb hb' hk hk']
 rfl
end Go.Proofs.Pq
