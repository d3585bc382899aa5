import Derived.Test.YtabiobmfelafoaaGreatDoorPC
namespace Go.Proofs.Pq
set_option linter.unusedVariables false
set_option linter.unusedSimpArgs false
set_option maxRecDepth 4000
open Go.Proofs Go.Sb Go.Proofs.Sbn Go.Proofs.Lf
def VEq (r:Al) (N:Int) (E:Int):Prop:=(∃s M F,r=nz s M F)∧∀i j:Nat,r.e - E=(i:Int) - j→Z r.m.Neg r.m.Abs*(2^i:Nat)=N*(2^j:Nat)
theorem p2 (k:Nat):(0:Int)<(2^k:Nat):=by have:=Nat.two_pow_pos k;omega
theorem p2add (a b:Nat):((2^(a+b):Nat):Int)=(2^a:Nat)*(2^b:Nat):=by rw [Nat.pow_add,Int.natCast_mul]
theorem Z0 (s:Bool):Z s 0=0:=by cases s<;>rfl
theorem Ph (s:Bool) (M:Nat) (F:Int):VEq (nz s M F) (Z s M) F:=by
 refine ⟨⟨s,M,F,rfl⟩,fun i j hij=>?_⟩
 unfold nz at hij ⊢
 by_cases h0:M=0
 ·subst h0
  rw [if_pos rfl] at hij ⊢
  rw [Z0,Z0,Int.zero_mul,Int.zero_mul]
 ·rw [if_neg h0] at hij ⊢
  simp only at hij ⊢
  obtain ⟨q,hq⟩:=Mp M
  have hqd:M/2^tz M=q:=by generalize tz M=z at *;rw [hq,Nat.mul_div_cancel _ (Nat.two_pow_pos z)]
  rw [hqd]
  generalize tz M=z at *
  rw [hq,QU,show i=z+j by omega,p2add,Int.mul_assoc]
theorem KG (a b:Int):∃i j:Nat,a - b=(i:Int) - j:=⟨(a - b).toNat,(-(a - b)).toNat,by omega⟩
theorem VEq.base {r:Al} {N N' E E':Int} {p q:Nat} (h:VEq r N E) (hpq:E - E'=(p:Int) - q) (hN:N*(2^p:Nat)=N' * (2^q:Nat)):VEq r N' E':=by
 refine ⟨h.1,fun i j hij=>?_⟩
 obtain ⟨a,b,hab⟩:=KG r.e E
 have h1:=h.2 a b hab
 have h2:=p2 b
 have h3:=p2 p
 have h4:=p2 q
 have e1:Z r.m.Neg r.m.Abs*(2^(a+p):Nat)=N' * (2^(b+q):Nat):=by
  rw [p2add,p2add,←Int.mul_assoc,h1,Int.mul_assoc,Int.mul_comm ((2^b:Nat):Int) ((2^p:Nat):Int),←Int.mul_assoc,hN,Int.mul_assoc,Int.mul_comm ((2^q:Nat):Int)]
 have k1:=(JV (X:=Z r.m.Neg r.m.Abs) (Y:=N') (a:=a+p) (c:=b+q) (i:=i) (j:=j) (by omega)).1 (Int.le_of_eq e1)
 have k2:=(JV (X:=N') (Y:=Z r.m.Neg r.m.Abs) (a:=b+q) (c:=a+p) (i:=j) (j:=i) (by omega)).1 (Int.le_of_eq e1.symm)
 exact Int.le_antisymm k1 k2
theorem VEq.cross {r r':Al} {N N' E:Int} (h:VEq r N E) (h':VEq r' N' E) {i j:Nat} (hij:r.e - r'.e=(i:Int) - j) :
  (Z r.m.Neg r.m.Abs*(2^i:Nat)≤Z r'.m.Neg r'.m.Abs*(2^j:Nat)↔N≤N'):=by
 obtain ⟨a,b,hab⟩:=KG r.e E
 obtain ⟨c,d,hcd⟩:=KG r'.e E
 have h1:=h.2 a b hab
 have h2:=h'.2 c d hcd
 rw [JV (a:=i) (c:=j) (i:=a+d) (j:=c+b) (by omega),p2add,p2add,←Int.mul_assoc,h1,←Int.mul_assoc,h2,Int.mul_assoc,Int.mul_assoc,Int.mul_comm ((2^d:Nat):Int)]
 have hp:(0:Int)<(2^b:Nat)*(2^d:Nat):=Int.mul_pos (p2 b) (p2 d)
 constructor
 ·intro h;exact Int.le_of_mul_le_mul_right h hp
 ·intro h;exact Int.mul_le_mul_of_nonneg_right h (Int.le_of_lt hp)
theorem VEq.cmp {x y:Al} {N N' E:Int} (hx:VEq x N E) (hy:VEq y N' E) (bx:bl x.m.Abs≤20000∧-1000000≤x.e∧x.e≤1000000) (by':bl y.m.Abs≤20000∧-1000000≤y.e∧y.e≤1000000) :
  ∃c,AI x y=some c∧(c<0↔N<N')∧(0<c↔N' < N):=by
 obtain ⟨c,hc,h⟩:=Pq.cmp x.m.Neg y.m.Neg x.m.Abs y.m.Abs x.e y.e bx.1 by'.1 bx.2.1 bx.2.2 by'.2.1 by'.2.2
 obtain ⟨i,j,hij⟩:=KG x.e y.e
 have h1:=h i j hij
 have h2:=hx.cross hy hij
 have h3:=hy.cross hx (i:=j) (j:=i) (by omega)
 refine ⟨c,hc,?_,?_⟩
 ·rw [h1.1,←Int.not_le,h3,Int.not_le]
 ·rw [h1.2,←Int.not_le,h2,Int.not_le]
theorem VT.veq {d:Ae} (h:VT d):VEq (ofD d) (Z d.Man.Neg d.Man.Abs) d.Exp:=by
 rw [canonV h];exact Ph _ _ _
theorem VT.of {r:Al} (h:Cb r):VT (toD r):=(outOK h).2
def ratD (d:Ae):BG:=if 0≤d.Exp then ⟨⟨d.Man.Neg,d.Man.Abs*2^d.Exp.toNat⟩,1⟩ else ⟨d.Man,2^(-d.Exp).toNat⟩
theorem value_ratD (x:Ae) (hx:VT x) (hs:bl x.Man.Abs≤9600) (hl : -5000≤x.Exp) (hu:x.Exp≤5000):FR x=some (ratD x):=by
 obtain ⟨⟨s,n⟩,e⟩:=x
 simp only at hs hl hu
 have hsm:Sm n:=hx.sm
 unfold FR ratD
 show (if 0≤e then _ else _:Option BG)=some (if 0≤e then _ else _)
 by_cases he:0≤e
 ·obtain ⟨k,rfl⟩:∃k:Nat,e=k:=⟨e.toNat,by omega⟩
  rw [if_pos he,if_pos he]
  show ((AU n (k:Int)).bind _)=_
  rw [rShl hsm (by omega),sB];rfl
 ·obtain ⟨k,rfl⟩:∃k:Nat,e = -(k:Int):=⟨(-e).toNat,by omega⟩
  have hn0:n≠0:=fun h=>by have:=(hx.z h).2;simp only at this;omega
  have hodd:=(hx.o hn0).1
  simp only at hodd
  have hb2:bl (2^k)≤k+1:=NO k
  have hg:Nat.gcd n (2^k)=1:=odd_gcd n k hodd
  have h1:Bm (limbs 1) (limbs 1)=some true:=by
   rw [show Bm (limbs 1) (limbs 1)=_ from RS (Ap _) (Ap _) (by decide),decide_eq_true ⟨rfl,rfl⟩]
  rw [if_neg he,if_neg he]
  show ((some 1).bind fun r61=>(AU r61 (wi64 (0 - -(k:Int)))).bind fun r70=>(Gz ⟨s,n⟩ r70).bind fun r79=>some r79)=_
  rw [sB,show wi64 (0 - -(k:Int))=(k:Int) from w64n (by omega) (by omega),rShl sm1 (by omega),sB,Nat.one_mul]
  unfold Gz
  simp only
  rw [gcd n (2^k) (by omega) (by omega),sB,hg,show BT=some 1 from rfl,sB]
  show (((Bm (limbs 1) (limbs 1)).bind _).bind _)=_
  rw [h1,Int.neg_neg];rfl
theorem OC (s:Bool) (n d:Nat) (h1:Sm n) (h2:Sm d):HT ⟨⟨s,n⟩,d⟩=some (nz s n 0,nz false d 0):=by
 unfold HT
 show (((some (⟨s,n⟩:Af)).bind fun r28=>(CX r28 0).bind fun r37=>(CX ((⟨false,d⟩:Af)) 0).bind fun r46=>some (r37,r46)))=_
 rw [sB,normal s n 0 h1 (by omega) (by omega),sB,normal false d 0 h2 (by omega) (by omega),sB]
theorem sgnc01 (a b:Nat) : -1≤sgnc a b∧sgnc a b≤1:=by unfold sgnc;split<;>(try split)<;>omega
theorem NB (a b:Int):∃c,FP a b=some c∧-1≤c∧c≤1:=by
 unfold FP
 split
 ·exact ⟨-1,rfl,by omega,by omega⟩
 ·split
  ·exact ⟨1,rfl,by omega,by omega⟩
  ·exact ⟨0,rfl,by omega,by omega⟩
theorem Oa (x:Al):∃c,Ba x=some c∧-1≤c∧c≤1:=by
 obtain ⟨⟨s,n⟩,e⟩:=x
 refine ⟨sv s n,sign s n e,?_⟩
 have:=RV s n
 omega
theorem Kz {α β:Type} {o:Option α} {f:α→Option β} {c:β} (h:o.bind f=some c):∃a,o=some a∧f a=some c:=by
 cases o with
 | none=>cases h
 | some a=>exact ⟨a,rfl,h⟩
theorem cmp01 {x y:Al} {c:Int} (h:AI x y=some c) : -1≤c∧c≤1:=by
 unfold AI at h
 obtain ⟨a,ha,a1,a2⟩:=Oa x
 obtain ⟨b,hb,b1,b2⟩:=Oa y
 rw [ha,hb,sB,sB] at h
 obtain ⟨m,_,h⟩:=Kz h
 split at h
 ·obtain ⟨d,hd,d1,d2⟩:=NB a b
  rw [hd,sB] at h
  cases h
  exact ⟨d1,d2⟩
 ·obtain ⟨t,_,h⟩:=Kz h
  obtain ⟨u,_,h⟩:=Kz h
  split at h
  ·obtain ⟨d,hd,d1,d2⟩:=NB t u
   rw [sB,hd,sB] at h
   cases h
   have ea:a = -1∨a=0∨a=1:=by omega
   have ed:d = -1∨d=0∨d=1:=by omega
   rcases ea with rfl | rfl | rfl<;>rcases ed with rfl | rfl | rfl<;>decide
  ·obtain ⟨v,_,h⟩:=Kz h
   obtain ⟨z,_,h⟩:=Kz h
   obtain ⟨d,hd,d1,d2⟩:=Oa z
   rw [hd,sB] at h
   cases h
   exact ⟨d1,d2⟩
theorem refCmp01 {x y:BG} {c:Int} (h1:Sm (x.Num.Abs*y.Den)) (h2:Sm (y.Num.Abs*x.Den)) (hx:Sm x.Num.Abs) (hxd:Sm x.Den) (hy:Sm y.Num.Abs) (hyd:Sm y.Den) (h:CE x y=some c) : -1≤c∧c≤1:=by
 obtain ⟨⟨s,n⟩,d⟩:=x
 obtain ⟨⟨t,m⟩,b⟩:=y
 simp only at h1 h2 hx hxd hy hyd
 unfold CE at h
 simp only at h
 rw [signed,sB] at h
 simp only [Bool.false_and] at h
 rw [Ot s n b hx hyd,sB,signed,sB] at h
 simp only [Bool.false_and] at h
 rw [Ot t m d hy hxd,sB] at h
 obtain ⟨k,hk,h⟩:=Kz h
 cases h
 have hs:=sgnc01 (n*b) (m*d)
 unfold Fp at hk
 simp only at hk
 rw [rCmp h1 h2,sB,sB] at hk
 split at hk
 ·split at hk<;>cases hk<;>decide
 ·split at hk
  ·cases hk
   rw [w64 (by omega) (by omega)]
   omega
  ·cases hk;exact hs
theorem eq01 {c k:Int} (h1 : -1≤c∧c≤1) (h2 : -1≤k∧k≤1) (h3:c<0↔k<0) (h4:0<c↔0<k):c=k:=by omega
theorem num_times (s t:Bool) (n k:Nat) (e f:Int) (hn:bl n≤9000) (hk:bl k≤9000) (h1 : -100000≤e) (h2:e≤100000) (h3 : -100000≤f) (h4:f≤100000) :
  DW ⟨⟨s,n⟩,e⟩ ⟨⟨t,k⟩,f⟩=some (nz (decide (¬s=t)) (n*k) (e+f)):=by
 have hb:=Lz n k
 unfold DW IA
 simp only
 rw [wMul (by unfold Sm;omega) (by unfold Sm;omega),sB,sB,w64 (x:=e+f) (by omega) (by omega),normal _ _ _ (by unfold Sm;omega) (by omega) (by omega),sB]
theorem Z_nm (s:Bool) (n m:Nat):Z s (n*m)=Z s n*m:=by
 unfold Z;split<;>simp [Int.natCast_mul,Int.neg_mul]
theorem Rp (x:Ae) (hx:VT x) (lx:Lt x) (s:Bool) (n d:Nat) (hd:d≠0) (bn:bl n≤9000) (bd:bl d≤9000) :
  ∃T c,DW (ofD x) (nz false d 0)=some T∧AI T (nz s n 0)=some c∧BY x ⟨⟨s,n⟩,d⟩=some c∧
   ∀i j:Nat,x.Exp=(i:Int) - j→(c<0↔Z x.Man.Neg x.Man.Abs*d*(2^i:Nat)<Z s n*(2^j:Nat))∧(0<c↔Z s n*(2^j:Nat)<Z x.Man.Neg x.Man.Abs*d*(2^i:Nat)):=by
 have bm:=lx.2
 have hl:=lx.1.l
 have hu:=lx.1.u
 have sn:Sm n:=by unfold Sm;omega
 have sd:Sm d:=by unfold Sm;omega
 have hval:=value_ratD x hx (by omega) (by omega) (by omega)
 obtain ⟨q,hq⟩:=Mp d
 have hpd:0<2^tz d:=Nat.two_pow_pos _
 have ed:d/2^tz d=q:=by
  conv=>lhs;lhs;rw [hq]
  exact Nat.mul_div_cancel _ hpd
 have bq:bl q≤9000:=by rw [←ed];exact Nat.le_trans (Ld _ _) (by omega)
 obtain ⟨_,_,td⟩:=GQ hd
 have btz:tz d≤9000:=by omega
 have fd:nz false d 0=⟨⟨false,q⟩,((tz d:Nat):Int)⟩:=by unfold nz;rw [if_neg hd,ed,Int.zero_add]
 have ht:=num_times x.Man.Neg false x.Man.Abs q x.Exp (tz d:Nat) (by omega) (by omega) (by omega) (by omega) (by omega) (by omega)
 have hdec:decide (¬x.Man.Neg=false)=x.Man.Neg:=by cases x.Man.Neg<;>rfl
 rw [hdec] at ht
 have v1:VEq (nz x.Man.Neg (x.Man.Abs*q) (x.Exp+(tz d:Nat))) (Z x.Man.Neg x.Man.Abs*d) x.Exp:=by
  refine (Ph _ _ _).base (p:=tz d) (q:=0) (by omega) ?_
  rw [Z_nm,Int.mul_assoc]
  have:((q:Int)*((2^tz d:Nat):Int))=(d:Int):=by
   rw [←Int.natCast_mul,←hq]
  rw [this];simp
 have small:∀(σ:Bool) (M:Nat) (F:Int),bl M≤20000→-20000≤F→F≤20000→bl (nz σ M F).m.Abs≤20000∧-1000000≤(nz σ M F).e∧(nz σ M F).e≤1000000:=by
  intro σ M F h1 h2 h3
  unfold nz
  by_cases h0:M=0
  ·subst h0
   rw [if_pos rfl]
   exact ⟨by show bl 0≤_;exact Nat.le_trans (Oc (Nat.zero_le 1)) (by decide),by show (-1000000:Int)≤0;omega,by show (0:Int)≤_;omega⟩
  ·obtain ⟨_,_,t1⟩:=GQ h0
   rw [if_neg h0]
   have:=Ld M (2^tz M)
   exact ⟨by show bl (M/2^tz M)≤_;omega,by show (-1000000:Int)≤F+(tz M:Nat);omega,by show F+(tz M:Nat)≤(1000000:Int);omega⟩
 have bmq:=Lz x.Man.Abs q
 have key:∀i j:Nat,x.Exp=(i:Int) - j→∃c,AI (nz x.Man.Neg (x.Man.Abs*q) (x.Exp+(tz d:Nat))) (nz s n 0)=some c∧(c<0↔Z x.Man.Neg x.Man.Abs*d*(2^i:Nat)<Z s n*(2^j:Nat))∧(0<c↔Z s n*(2^j:Nat)<Z x.Man.Neg x.Man.Abs*d*(2^i:Nat)):=by
  intro i j hij
  have hE:x.Exp - (x.Exp - i)=(i:Int) - (0:Nat):=by omega
  have w1:VEq (nz x.Man.Neg (x.Man.Abs*q) (x.Exp+(tz d:Nat))) (Z x.Man.Neg x.Man.Abs*d*(2^i:Nat)) (x.Exp - i):=v1.base (p:=i) (q:=0) hE (by simp)
  have w2:VEq (nz s n 0) (Z s n*(2^j:Nat)) (x.Exp - i):=(Ph s n 0).base (p:=j) (q:=0) (by omega) (by simp)
  exact w1.cmp w2 (small _ _ _ (by omega) (by omega) (by omega)) (small _ _ _ (by omega) (by omega) (by omega))
 obtain ⟨i,j,hij⟩:=KG x.Exp 0
 obtain ⟨c,hc,c1,c2⟩:=key i j (by omega)
 have hR:bl (ratD x).Num.Abs≤14100∧bl (ratD x).Den≤5100:=by
  unfold ratD
  split
  ·have:=Lz x.Man.Abs (2^x.Exp.toNat)
   have:=NO x.Exp.toNat
   exact ⟨by show bl (x.Man.Abs*2^x.Exp.toNat)≤_;omega,by show bl 1≤_;exact Nat.le_trans (NO 0) (by decide)⟩
  ·have:=NO (-x.Exp).toNat
   exact ⟨by show bl x.Man.Abs≤_;omega,by show bl (2^(-x.Exp).toNat)≤_;omega⟩
 obtain ⟨k,hk,k1,k2⟩:=refCmp (ratD x).Num.Neg s (ratD x).Num.Abs (ratD x).Den n d (by omega) (by omega) (by omega) (by omega)
 have hk':CE (ratD x) ⟨⟨s,n⟩,d⟩=some k:=hk
 have sA:=Lz (ratD x).Num.Abs d
 have sC:=Lz n (ratD x).Den
 have hk01:=refCmp01 (x:=ratD x) (y:=⟨⟨s,n⟩,d⟩) (by unfold Sm;show bl ((ratD x).Num.Abs*d)≤_;omega) (by unfold Sm;show bl (n*(ratD x).Den)≤_;omega) (by unfold Sm;omega) (by unfold Sm;omega) sn sd hk'
 have hcross:∃P:Nat,0<P∧Z x.Man.Neg x.Man.Abs*d*(2^i:Nat)=Z (ratD x).Num.Neg (ratD x).Num.Abs*d*P∧Z s n*(2^j:Nat)=Z s n*(ratD x).Den*P:=by
  unfold ratD
  by_cases he:0≤x.Exp
  ·rw [if_pos he]
   simp only
   refine ⟨2^j,Nat.two_pow_pos _,?_,by simp⟩
   have:i=x.Exp.toNat+j:=by omega
   rw [this,p2add,Z_nm,Int.mul_assoc,Int.mul_assoc,Int.mul_assoc,←Int.mul_assoc ((2^x.Exp.toNat:Nat):Int),Int.mul_comm ((2^x.Exp.toNat:Nat):Int) (d:Int),Int.mul_assoc]
  ·rw [if_neg he]
   simp only
   refine ⟨2^i,Nat.two_pow_pos _,rfl,?_⟩
   have:j=(-x.Exp).toNat+i:=by omega
   rw [this,p2add,Int.mul_assoc]
 obtain ⟨P,hP,e1,e2⟩:=hcross
 have hPi:(0:Int)<(P:Int):=by omega
 have hlt:∀a b:Int,a*P<b*P↔a<b:=fun a b=>⟨fun h=>Int.lt_of_mul_lt_mul_right h (Int.le_of_lt hPi),fun h=>Int.mul_lt_mul_of_pos_right h hPi⟩
 have e:c=k:=eq01 (cmp01 hc) hk01 (by rw [c1,e1,e2,hlt,k1]) (by rw [c2,e1,e2,hlt,k2])
 subst e
 refine ⟨_,c,by rw [fd];exact ht,hc,?_,fun i' j' h'=>?_⟩
 ·unfold BY
  rw [hval,sB,hk'];rfl
 ·obtain ⟨c',hc',c1',c2'⟩:=key i' j' h'
  rw [hc] at hc'
  cases hc'
  exact ⟨c1',c2'⟩
theorem MP {X:Am} (p0:Bj X=some true):CT X=some (.ok ()):=by
 unfold CT;rw [p0];rfl
theorem has_ok (lo hi:Ae) (h1:VT lo) (h2:VT hi) (l1:Lt lo) (l2:Lt hi) (p0:Bj ⟨toL lo,toL hi⟩=some true) (s:Bool) (n d:Nat) (hd:d≠0) (bn:bl n≤9000) (bd:bl d≤9000) (r0:DP ⟨⟨s,limbs n⟩,limbs d⟩=some true) :
  ∃a b,BY lo ⟨⟨s,n⟩,d⟩=some a∧BY hi ⟨⟨s,n⟩,d⟩=some b∧HH ⟨toL lo,toL hi⟩ ⟨⟨s,limbs n⟩,limbs d⟩=some (decide (a≤0∧0≤b),0)∧
   (∀i j:Nat,lo.Exp=(i:Int) - j→(0<a↔Z s n*(2^j:Nat)<Z lo.Man.Neg lo.Man.Abs*d*(2^i:Nat)))∧
   (∀i j:Nat,hi.Exp=(i:Int) - j→(b<0↔Z hi.Man.Neg hi.Man.Abs*d*(2^i:Nat)<Z s n*(2^j:Nat))):=by
 obtain ⟨T,a,t1,t2,t3,t4⟩:=Rp lo h1 l1 s n d hd bn bd
 obtain ⟨U,b,u1,u2,u3,u4⟩:=Rp hi h2 l2 s n d hd bn bd
 refine ⟨a,b,t3,u3,?_,fun i j h=>(t4 i j h).2,fun i j h=>(u4 i j h).1⟩
 unfold HH Kd
 rw [MP p0,mbo,r0,sB,wantT,mbo,HG,sB,HG,sB]
 simp only
 rw [OC s n d (by unfold Sm;omega) (by unfold Sm;omega),sB,toNT,sB,inT,sB]
 simp only
 rw [t1,sB,t2,sB]
 by_cases ha:a≤0
 ·rw [if_pos ha,toNT,sB,inT,sB,u1,sB,u2,sB]
  have:decide (0≤b)=decide (a≤0∧0≤b):=by simp [ha]
  rw [this];rfl
 ·rw [if_neg ha,decide_eq_false (fun h=>ha h.1)];rfl
def V (d:Ae):Int:=Z d.Man.Neg d.Man.Abs*(2^(d.Exp+6000).toNat:Nat)
theorem vV {x:Ae} (hx:VT x) (lx:Lt x):VEq (ofD x) (V x) (-6000):=by
 have:=lx.1.l
 exact hx.veq.base (p:=(x.Exp+6000).toNat) (q:=0) (by omega) (by unfold V;simp)
theorem NI {x y:Ae} (hx:VT x) (hy:VT y) (lx:Lt x) (ly:Lt y):∃c,AI (ofD x) (ofD y)=some c∧Bi x y=some c∧(c<0↔V x<V y)∧(0<c↔V y<V x):=by
 have bx:bl x.Man.Abs≤9000:=lx.2
 have by':bl y.Man.Abs≤9000:=ly.2
 have ex:=lx.1.l
 have ex2:=lx.1.u
 have ey:=ly.1.l
 have ey2:=ly.1.u
 obtain ⟨c,hc,h1,h2⟩:=(vV hx lx).cmp (vV hy ly) ⟨by show bl x.Man.Abs≤_;omega,by show _≤x.Exp;omega,by show x.Exp≤_;omega⟩ ⟨by show bl y.Man.Abs≤_;omega,by show _≤y.Exp;omega,by show y.Exp≤_;omega⟩
 obtain ⟨k,hk,k1,k2⟩:=Nm x.Man.Neg y.Man.Neg x.Man.Abs y.Man.Abs x.Exp y.Exp (by omega) (by omega) (by omega) (by omega) (by omega) (by omega) (by omega) (by omega)
 obtain ⟨c',hc',h⟩:=Pq.cmp x.Man.Neg y.Man.Neg x.Man.Abs y.Man.Abs x.Exp y.Exp (by omega) (by omega) (by omega) (by omega) (by omega) (by omega)
 have hcc:c'=c:=by have:AI (ofD x) (ofD y)=some c':=hc';rw [hc] at this;cases this;rfl
 subst hcc
 obtain ⟨i,j,hij⟩:=KG x.Exp y.Exp
 have g1:=h i j hij
 have g2:=k2 i j hij
 have e:c'=k:=eq01 (cmp01 hc) (by omega) (by rw [g1.1,g2.1]) (by rw [g1.2,g2.2])
 subst e
 exact ⟨c',hc,hk,h1,h2⟩
theorem cbV {d:Ae} (h:VT d) (l:Lt d):Cb (ofD d):=by
 have:=l.2
 have:=l.1.l
 have:=l.1.u
 exact ⟨by show bl d.Man.Abs≤_;omega,by show _≤d.Exp;omega,by show d.Exp≤_;omega,_,_,_,canonV h⟩
theorem properT {lo hi:Ae} (h1:VT lo) (h2:VT hi) (l1:Lt lo) (l2:Lt hi) (h:V lo≤V hi):Bj ⟨toL lo,toL hi⟩=some true∧Cl ⟨toL lo,toL hi⟩=some true:=by
 obtain ⟨c,hc,hr,c1,c2⟩:=NI h1 h2 l1 l2
 have hle:c≤0:=by have:=c2;omega
 constructor
 ·unfold Bj
  simp only
  rw [(validT h1).2,sB,if_pos rfl,(validT h2).2,sB,if_pos rfl,toNT,sB,inT,sB,toNT,sB,inT,sB,hc,sB,decide_eq_true hle]
 ·unfold Cl
  simp only
  rw [(validT h1).1,sB,if_pos rfl,(validT h2).1,sB,sB,if_pos rfl,toNT,sB,toNT,sB]
  show ((Bi lo hi).bind _).bind _=_
  rw [hr,sB,decide_eq_true hle];rfl
theorem RA {lo hi:Ae} (h1:VT lo) (h2:VT hi) (l1:Lt lo) (l2:Lt hi) (h:LeV (ofD lo) (ofD hi)):V lo≤V hi:=by
 obtain ⟨i,j,hij⟩:=KG (ofD lo).e (ofD hi).e
 exact ((vV h1 l1).cross (vV h2 l2) hij).1 (h i j hij)
theorem madeHull (x y:Aj) (X Y:Am) (hX:X=⟨toL x.Lo,toL x.Hi⟩) (hY:Y=⟨toL y.Lo,toL y.Hi⟩) (p0:Bj X=some true) (p1:Bj Y=some true) (lo hi:Ae)
  (hG:GJ ⟨ofD x.Lo,ofD x.Hi⟩ ⟨ofD y.Lo,ofD y.Hi⟩ 1=some (.ok ⟨lo,hi⟩)):GC X Y=some (⟨lo,hi⟩,0):=by
 unfold GC Eg FB CV
 rw [p0,p1,fineP,if_pos (by decide)]
 subst hX hY
 unfold toL
 simp only [JK]
 show ((mb (GJ ⟨ofD x.Lo,ofD x.Hi⟩ ⟨ofD y.Lo,ofD y.Hi⟩ 1) _).bind _).bind _=_
 rw [hG];rfl
theorem madeMeet (x y:Aj) (X Y:Am) (hX:X=⟨toL x.Lo,toL x.Hi⟩) (hY:Y=⟨toL y.Lo,toL y.Hi⟩) (p0:Bj X=some true) (p1:Bj Y=some true) :
  (∀lo hi,ET ⟨ofD x.Lo,ofD x.Hi⟩ ⟨ofD y.Lo,ofD y.Hi⟩ 1=some (.ok ⟨lo,hi⟩)→FH X Y=some (⟨lo,hi⟩,0))∧
  (ET ⟨ofD x.Lo,ofD x.Hi⟩ ⟨ofD y.Lo,ofD y.Hi⟩ 1=some (.error 5)→FH X Y=some (zS,5)):=by
 unfold FH Ee Fz CV
 rw [p0,p1,fineP,if_pos (by decide)]
 subst hX hY
 unfold toL
 simp only [JK]
 constructor
 ·intro lo hi hG
  show ((mb (ET ⟨ofD x.Lo,ofD x.Hi⟩ ⟨ofD y.Lo,ofD y.Hi⟩ 1) _).bind _).bind _=_
  rw [hG];rfl
 ·intro hG
  show ((mb (ET ⟨ofD x.Lo,ofD x.Hi⟩ ⟨ofD y.Lo,ofD y.Hi⟩ 1) _).bind _).bind _=_
  rw [hG];rfl
theorem hull_err (x y:Am) (v0 v1:Bool) (p0:Bj x=some v0) (p1:Bj y=some v1) (h:(v0 && v1)=false):GC x y=some (zS,1)∧FH x y=some (zS,1):=by
 unfold GC Eg FB FH Ee Fz CV
 rw [p0,p1]
 cases v0
 ·exact ⟨rfl,rfl⟩
 ·cases v1
  ·exact ⟨rfl,rfl⟩
  ·cases h
theorem hull_ok (a b c d:Ae) (ha:VT a) (hb:VT b) (hc:VT c) (hd:VT d) (la:Lt a) (lb:Lt b) (lc:Lt c) (ld:Lt d) (hab:V a≤V b) (hcd:V c≤V d) :
  ∃lo hi,GC ⟨toL a,toL b⟩ ⟨toL c,toL d⟩=some (⟨lo,hi⟩,0)∧Fe ⟨a,b⟩ ⟨c,d⟩=some ⟨lo,hi⟩∧VT lo∧VT hi∧Lt lo∧Lt hi∧V lo≤V a∧V lo≤V c∧V b≤V hi∧V d≤V hi:=by
 obtain ⟨k,k1,k2,k3,k4⟩:=NI hc ha lc la
 obtain ⟨m,m1,m2,m3,m4⟩:=NI hd hb ld lb
 have sel:∀(p:Prop) [Decidable p] (x y:Ae),(if p then some (x.Man.Neg,x.Man.Abs,x.Exp) else some (y.Man.Neg,y.Man.Abs,y.Exp))=some ((if p then x else y).Man.Neg,(if p then x else y).Man.Abs,(if p then x else y).Exp):=by
  intro p _ x y;split<;>rfl
 have w1:VT (if k<0 then c else a)∧Lt (if k<0 then c else a):=by split<;>exact ⟨by assumption,by assumption⟩
 have w2:VT (if 0<m then d else b)∧Lt (if 0<m then d else b):=by split<;>exact ⟨by assumption,by assumption⟩
 refine ⟨if k<0 then c else a,if 0<m then d else b,?_,?_,w1.1,w2.1,w1.2,w2.2,?_,?_,?_,?_⟩
 ·refine madeHull ⟨a,b⟩ ⟨c,d⟩ _ _ rfl rfl (properT ha hb la lb hab).1 (properT hc hd lc ld hcd).1 _ _ ?_
  unfold GJ
  simp only
  rw [k1,sB]
  have e1:=sel (k<0) c a
  have e2:=sel (0<m) d b
  show ((if k<0 then some (c.Man.Neg,c.Man.Abs,c.Exp) else some (a.Man.Neg,a.Man.Abs,a.Exp)).bind _)=_
  rw [e1,sB,m1,sB]
  show ((if 0<m then some (d.Man.Neg,d.Man.Abs,d.Exp) else some (b.Man.Neg,b.Man.Abs,b.Exp)).bind _)=_
  rw [e2,sB]
  show mb (Cv ⟨ofD (if k<0 then c else a),ofD (if 0<m then d else b)⟩) _=_
  rw [Lw (cbV w1.1 w1.2) (cbV w2.1 w2.2)];rfl
 ·unfold Fe
  simp only
  rw [k2,sB,sel,sB,m2,sB,sel,sB]
 ·split
  ·have:=k3.1 ‹_›;omega
  ·exact Int.le_refl _
 ·split
  ·exact Int.le_refl _
  ·have:=k3;omega
 ·split
  ·have:=m4.1 ‹_›;omega
  ·exact Int.le_refl _
 ·split
  ·exact Int.le_refl _
  ·have:=m4;omega
theorem meet_ok (a b c d:Ae) (ha:VT a) (hb:VT b) (hc:VT c) (hd:VT d) (la:Lt a) (lb:Lt b) (lc:Lt c) (ld:Lt d) (hab:V a≤V b) (hcd:V c≤V d) :
  ∃lo hi,VT lo∧VT hi∧Lt lo∧Lt hi∧V a≤V lo∧V c≤V lo∧(V lo=V a∨V lo=V c)∧V hi≤V b∧V hi≤V d∧(V hi=V b∨V hi=V d)∧
   ((V lo≤V hi∧FH ⟨toL a,toL b⟩ ⟨toL c,toL d⟩=some (⟨lo,hi⟩,0)∧Dp ⟨a,b⟩ ⟨c,d⟩=some ⟨⟨lo,hi⟩,0⟩) ∨
    (V hi<V lo∧FH ⟨toL a,toL b⟩ ⟨toL c,toL d⟩=some (zS,5)∧Dp ⟨a,b⟩ ⟨c,d⟩=some ⟨zS,5⟩)):=by
 obtain ⟨k,k1,k2,k3,k4⟩:=NI hc ha lc la
 obtain ⟨m,m1,m2,m3,m4⟩:=NI hd hb ld lb
 have sel:∀(p:Prop) [Decidable p] (x y:Ae),(if p then some (x.Man.Neg,x.Man.Abs,x.Exp) else some (y.Man.Neg,y.Man.Abs,y.Exp))=some ((if p then x else y).Man.Neg,(if p then x else y).Man.Abs,(if p then x else y).Exp):=by
  intro p _ x y;split<;>rfl
 have w1:VT (if 0<k then c else a)∧Lt (if 0<k then c else a):=by split<;>exact ⟨by assumption,by assumption⟩
 have w2:VT (if m<0 then d else b)∧Lt (if m<0 then d else b):=by split<;>exact ⟨by assumption,by assumption⟩
 obtain ⟨t,t1,t2,t3,t4⟩:=NI w1.1 w2.1 w1.2 w2.2
 have hM:=madeMeet ⟨a,b⟩ ⟨c,d⟩ _ _ rfl rfl (properT ha hb la lb hab).1 (properT hc hd lc ld hcd).1
 have hG:ET ⟨ofD a,ofD b⟩ ⟨ofD c,ofD d⟩ 1=if t≤0 then some (.ok ⟨if 0<k then c else a,if m<0 then d else b⟩) else some (.error 5):=by
  unfold ET
  simp only
  rw [k1,sB]
  have e1:=sel (0<k) c a
  have e2:=sel (m<0) d b
  show ((if 0<k then some (c.Man.Neg,c.Man.Abs,c.Exp) else some (a.Man.Neg,a.Man.Abs,a.Exp)).bind _)=_
  rw [e1,sB,m1,sB]
  show ((if m<0 then some (d.Man.Neg,d.Man.Abs,d.Exp) else some (b.Man.Neg,b.Man.Abs,b.Exp)).bind _)=_
  rw [e2,sB]
  show ((AI (ofD (if 0<k then c else a)) (ofD (if m<0 then d else b))).bind fun r111=>mb (BX ((decide (r111≤0))) 5) fun r117=>mb (Cv ⟨ofD (if 0<k then c else a),ofD (if m<0 then d else b)⟩) fun r124=>some (.ok r124))=_
  rw [t1,sB]
  by_cases ht:t≤0
  ·rw [decide_eq_true ht,if_pos ht,wantT,mbo,Lw (cbV w1.1 w1.2) (cbV w2.1 w2.2)];rfl
  ·rw [decide_eq_false ht,if_neg ht];rfl
 have hR:Dp ⟨a,b⟩ ⟨c,d⟩=if 0<t then some ⟨zS,5⟩ else some ⟨⟨if 0<k then c else a,if m<0 then d else b⟩,0⟩:=by
  unfold Dp
  simp only
  rw [k2,sB,sel,sB,m2,sB,sel,sB]
  show ((Bi (if 0<k then c else a) (if m<0 then d else b)).bind _)=_
  rw [t2,sB];rfl
 refine ⟨if 0<k then c else a,if m<0 then d else b,w1.1,w2.1,w1.2,w2.2,?_,?_,?_,?_,?_,?_,?_⟩
 ·split
  ·have:=k4.1 ‹_›;omega
  ·exact Int.le_refl _
 ·split
  ·exact Int.le_refl _
  ·have:=k4;omega
 ·split
  ·exact .inr rfl
  ·exact .inl rfl
 ·split
  ·have:=m3.1 ‹_›;omega
  ·exact Int.le_refl _
 ·split
  ·exact Int.le_refl _
  ·have:=m3;omega
 ·split
  ·exact .inr rfl
  ·exact .inl rfl
 ·by_cases ht:t≤0
  ·refine .inl ⟨by have:=t4;omega,hM.1 _ _ (by rw [hG,if_pos ht]),by rw [hR,if_neg (by omega)]⟩
  ·refine .inr ⟨t4.1 (by omega),hM.2 (by rw [hG,if_neg ht]),by rw [hR,if_pos (by omega)]⟩
def K6:Nat:=6000
theorem PI (s:Bool) (n d:Nat) (hz:n=0→s=false) (hd:d≠0) (hn:Sbn.sz n≤60) (hds:Sbn.sz d≤60) (b:Nat) (dir:Int) (hb:1≤b) (hb':b≤4096) (h1:1≤dir∧dir≤5) :
  ∃r,Cx (nz s n 0) (nz false d 0) (b:Int) dir=some r∧Cc ⟨⟨s,n⟩,d⟩ (b:Int) dir=some (toD r)∧Cb r:=by
 have hbn:bl n≤1920:=IL hn
 have hbd:bl d≤1920:=IL hds
 have hsn:Sm n:=by unfold Sm;omega
 have hsd:Sm d:=by unfold Sm;omega
 obtain ⟨qd,hqd⟩:=Mp d
 have hpd:0<2^tz d:=Nat.two_pow_pos _
 have ed:d/2^tz d=qd:=by
  conv=>lhs;lhs;rw [hqd]
  exact Nat.mul_div_cancel _ hpd
 have hqd0:qd≠0:=fun h=>hd (by rw [hqd,h,Nat.zero_mul])
 obtain ⟨_,_,td⟩:=GQ hd
 have bqd:bl qd≤1920:=by rw [←ed];exact Nat.le_trans (Ld _ _) hbd
 have fd:nz false d 0=⟨⟨false,qd⟩,((tz d:Nat):Int)⟩:=by unfold nz;rw [if_neg hd,ed,Int.zero_add]
 rw [fd]
 by_cases h0:n=0
 ·have hs:=hz h0
  subst h0 hs
  obtain ⟨r,q1,q2,q3⟩:=Pw false false 0 qd 0 d 0 (tz d) 0 ((tz d:Nat):Int) b dir false rfl hqd0 hb (by omega) (by decide) (by omega) (by omega) (by omega) (by omega) (by omega) hd (by simp) (by omega) (by simp) (by decide) (by omega)
  exact ⟨r,q1,q2,QW (by omega) q3⟩
 ·obtain ⟨qn,hqn⟩:=Mp n
  have hpn:0<2^tz n:=Nat.two_pow_pos _
  have en:n/2^tz n=qn:=by
   conv=>lhs;lhs;rw [hqn]
   exact Nat.mul_div_cancel _ hpn
  have hqn0:qn≠0:=fun h=>h0 (by rw [hqn,h,Nat.zero_mul])
  obtain ⟨_,_,tn⟩:=GQ h0
  have bqn:bl qn≤1920:=by rw [←en];exact Nat.le_trans (Ld _ _) hbn
  have fn:nz s n 0=⟨⟨s,qn⟩,((tz n:Nat):Int)⟩:=by unfold nz;rw [if_neg h0,en,Int.zero_add]
  rw [fn]
  obtain ⟨r,q1,q2,q3⟩:=Pw s false qn qd n d (tz n) (tz d) ((tz n:Nat):Int) ((tz d:Nat):Int) b dir s (by cases s<;>simp [hqn0]) hqd0 hb (by omega) (by omega) (by omega) (by omega) (by omega) (by omega) (by omega) hd ⟨fun h=>absurd h h0,fun h=>absurd h hqn0⟩ rfl (by
   generalize 2^tz n=P at *
   generalize 2^tz d=Q at *
   rw [Nat.mul_assoc,←hqd,Nat.mul_right_comm,←hqn]) (by omega) (by omega)
  exact ⟨r,q1,q2,QW (by omega) q3⟩
theorem MU (x:Et) (b:Int) (v:Bool) (p0:DP x=some v) (h:¬(v=true∧1≤b∧b≤4096)):Gg x b=some (zS,1):=by
 unfold Gg IK
 rw [p0,sB]
 cases v
 ·rfl
 ·rw [wantT,mbo,fineP,if_neg (fun hf=>h ⟨rfl,hf⟩)];rfl
theorem around_ok (s:Bool) (n d:Nat) (hz:n=0→s=false) (hd:d≠0) (hn:Sbn.sz n≤60) (hds:Sbn.sz d≤60) (p0:DP ⟨⟨s,limbs n⟩,limbs d⟩=some true) (b:Nat) (hb:1≤b) (hb':b≤4096) :
  ∃lo hi,Gg ⟨⟨s,limbs n⟩,limbs d⟩ (b:Int)=some (⟨lo,hi⟩,0)∧Ek ⟨⟨s,n⟩,d⟩ (b:Int)=some ⟨lo,hi⟩∧VT lo∧VT hi:=by
 have hbn:bl n≤1920:=IL hn
 have hbd:bl d≤1920:=IL hds
 obtain ⟨r5,a1,a2,a3⟩:=PI s n d hz hd hn hds b 5 hb hb' (by decide)
 obtain ⟨r4,b1,b2,b3⟩:=PI s n d hz hd hn hds b 4 hb hb' (by decide)
 refine ⟨toD r5,toD r4,?_,?_,(outOK a3).2,(outOK b3).2⟩
 ·unfold Gg IK
  rw [p0,sB,wantT,mbo,fineP,if_pos ⟨by omega,by omega⟩,mbo,HG,sB,HG,sB]
  simp only
  rw [OC s n d (by unfold Sm;omega) (by unfold Sm;omega),sB]
  simp only
  rw [a1,sB,b1,sB,Lw a3 b3];rfl
 ·unfold Ek
  rw [a2,sB,b2,sB]
theorem MF (x:Am) (b:Int) (v:Bool) (p0:Bj x=some v) (h:¬(v=true∧1≤b∧b≤4096)):FL x b=some (zS,1):=by
 unfold FL Il CT
 rw [p0]
 cases v
 ·rfl
 ·show ((mb (some (.ok ())) _:M _).bind _)=_
  rw [mbo,fineP,if_neg (fun hf=>h ⟨rfl,hf⟩)];rfl
theorem outward_ok (lo hi:Ae) (h1:VT lo) (h2:VT hi) (l1:Lt lo) (l2:Lt hi) (p0:Bj ⟨toL lo,toL hi⟩=some true) (b:Nat) (hb:1≤b) (hb':b≤4096) :
  ∃u v,FL ⟨toL lo,toL hi⟩ (b:Int)=some (⟨u,v⟩,0)∧DT ⟨lo,hi⟩ (b:Int)=some ⟨u,v⟩∧VT u∧VT v:=by
 obtain ⟨r5,a1,a2,a3⟩:=Pu lo.Man.Neg lo.Man.Abs b lo.Exp 5 (by have:=l1.2;omega) hb hb' (by have:=l1.1.l;omega) (by have:=l1.1.u;omega)
 obtain ⟨r4,b1,b2,b3⟩:=Pu hi.Man.Neg hi.Man.Abs b hi.Exp 4 (by have:=l2.2;omega) hb hb' (by have:=l2.1.l;omega) (by have:=l2.1.u;omega)
 rw [←canonV h1] at a1 a2
 rw [←canonV h2] at b1 b2
 refine ⟨toD r5,toD r4,?_,?_,(outOK a3).2,(outOK b3).2⟩
 ·unfold FL Il
  rw [MP p0,mbo,fineP,if_pos ⟨by omega,by omega⟩,mbo,toNT,sB,toNT,sB]
  show ((((Ff ⟨ofD lo,ofD hi⟩ (b:Int)).bind _:M _)).bind _)=_
  unfold Ff
  simp only
  rw [a1,sB,b1,sB,sB,Lw a3 b3];rfl
 ·have a2':BN lo (b:Int) 5=some (toD r5):=a2
  have b2':BN hi (b:Int) 4=some (toD r4):=b2
  unfold DT
  simp only
  rw [a2',sB,b2',sB]
theorem toL_inj {x y:Ae} (h:toL x=toL y):x=y:=by
 obtain ⟨⟨s,n⟩,e⟩:=x
 obtain ⟨⟨t,m⟩,f⟩:=y
 unfold toL at h
 simp only [Au.mk.injEq,AK.mk.injEq] at h
 obtain ⟨⟨rfl,h2⟩,rfl⟩:=h
 have:n=m:=by rw [←Ax n,h2,Ax]
 subst this
 rfl
theorem width_err (x:Am) (p0:Bj x=some false):Hf x=some (zD,1)∧HN x=some (0,1):=by
 unfold Hf Jd HN JG CT
 rw [p0];exact ⟨rfl,rfl⟩
theorem has_err (x:Am) (r:Et) (v0 v1:Bool) (p0:Bj x=some v0) (p1:DP r=some v1) (h:(v0 && v1)=false):HH x r=some (false,1):=by
 unfold HH Kd CT
 rw [p0,p1]
 cases v0
 ·rfl
 ·cases v1
  ·rfl
  ·cases h
theorem width_ok (lo hi:Ae) (h1:VT lo) (h2:VT hi) (l1:Lt lo) (l2:Lt hi) (p0:Bj ⟨toL lo,toL hi⟩=some true) :
  ∃r z,Hf ⟨toL lo,toL hi⟩=some (r,0)∧CH lo=some z∧BI hi z=some r∧VT r:=by
 obtain ⟨r,z,a1,a2,a3,a4⟩:=sub_ok hi lo h2 h1 l2 l1
 obtain ⟨z',b1,b2⟩:=QY (d:=lo)
 rw [a2] at b2
 have:=toL_inj (Option.some.inj b2)
 subst this
 refine ⟨toD r,z,?_,b1,a3,(outOK a4).2⟩
 unfold Hf Jd
 rw [MP p0,mbo]
 simp only
 rw [a1];rfl
theorem side_ok (lo hi:Ae) (h1:VT lo) (h2:VT hi) (p0:Bj ⟨toL lo,toL hi⟩=some true) (hle:LeV (ofD lo) (ofD hi)) :
  ∃k,HN ⟨toL lo,toL hi⟩=some (k,0)∧Fb ⟨lo,hi⟩=some k:=by
 obtain ⟨s1,s2⟩:=signs hle
 have r1:=RV lo.Man.Neg lo.Man.Abs
 have r2:=RV hi.Man.Neg hi.Man.Abs
 refine ⟨_,?_,refSide lo hi⟩
 unfold HN JG
 rw [MP p0,mbo,toNT,sB,inT,sB,show Ba (ofD lo)=some (sv lo.Man.Neg lo.Man.Abs) from sign _ _ _,sB,toNT,sB,inT,sB,show Ba (ofD hi)=some (sv hi.Man.Neg hi.Man.Abs) from sign _ _ _,sB]
 generalize sv lo.Man.Neg lo.Man.Abs=a at *
 generalize sv hi.Man.Neg hi.Man.Abs=c at *
 rcases r1 with rfl | rfl | rfl<;>rcases r2 with rfl | rfl | rfl<;>first | rfl | (exfalso;have:=s1 (by decide);revert this;decide) | (exfalso;have:=s2 (by decide);revert this;decide)
theorem argV (v:Bool):Fu v=some (if v=true then 0 else 1):=by cases v<;>rfl
theorem andB (u v:Bool):(if u=true then some v else some false)=some (u && v):=by cases u<;>rfl
theorem setsAround (x2:Et) (x3:Int) (v2:Bool) (f2:DP x2=some v2) (g2:v2=true→∃(s:Bool) (n d:Nat),x2=⟨⟨s,limbs n⟩,limbs d⟩∧(n=0→s=false)∧d≠0) (hl:(List.length x2.Num.Abs:Int)≤60∧(List.length x2.Den:Int)≤60) :
  ∃(X:Aj) (e:Int) (m:Bool × Nat × Int × Bool × Nat × Int),Gg x2 x3=some (X,e)∧
   (if (decide (1≤x3∧x3≤4096) && v2)=true then (toN x2.Num.Abs).bind fun m280=>(toN x2.Den).bind fun m285=>(Ek ((⟨(⟨x2.Num.Neg,m280⟩:Af),m285⟩:BG)) x3).bind fun r290=>some (r290.Lo.Man.Neg,r290.Lo.Man.Abs,r290.Lo.Exp,r290.Hi.Man.Neg,r290.Hi.Man.Abs,r290.Hi.Exp) else some (false,0,0,false,0,0))=some m∧
   AZ X e (if (decide (1≤x3∧x3≤4096) && v2)=true then 0 else 1) ⟨⟨⟨m.1,m.2.1⟩,m.2.2.1⟩,⟨⟨m.2.2.2.1,m.2.2.2.2.1⟩,m.2.2.2.2.2⟩⟩=some true:=by
 by_cases hf:1≤x3∧x3≤4096
 ·cases v2
  ·rw [Bool.and_false]
   exact ⟨zS,1,(false,0,0,false,0,0),MU x2 x3 false f2 (fun h=>by cases h.1),rfl,LX 1 _ (by decide)⟩
  ·obtain ⟨s,n,d,rfl,hz,hd⟩:=g2 rfl
   obtain ⟨b,rfl⟩:∃b:Nat,x3=b:=⟨x3.toNat,by omega⟩
   have l1:Sbn.sz n≤60:=by have:=hl.1;have e:(limbs n).length=Sbn.sz n:=rfl;simp only [e] at this;omega
   have l2:Sbn.sz d≤60:=by have:=hl.2;have e:(limbs d).length=Sbn.sz d:=rfl;simp only [e] at this;omega
   obtain ⟨lo,hi,a1,a2,a3,a4⟩:=around_ok s n d hz hd l1 l2 f2 b (by omega) (by omega)
   rw [decide_eq_true hf]
   refine ⟨⟨lo,hi⟩,0,(lo.Man.Neg,lo.Man.Abs,lo.Exp,hi.Man.Neg,hi.Man.Abs,hi.Exp),a1,?_,Ol _ _ a3 a4⟩
   simp only [Bool.and_true,if_true,HG,sB,a2]
 ·rw [decide_eq_false hf,Bool.false_and]
  exact ⟨zS,1,(false,0,0,false,0,0),MU x2 x3 v2 f2 (fun h=>hf h.2),rfl,LX 1 _ (by decide)⟩
structure Sp (x:Am) (v:Bool):Prop where
 r:Cl x=some v
 p:Bj x=some v
 k:v=true→∃lo hi,x=⟨toL lo,toL hi⟩∧VT lo∧VT hi∧Lt lo∧Lt hi∧LeV (ofD lo) (ofD hi)
theorem setsOutward (x0:Am) (x3:Int) (v:Bool) (h:Sp x0 v) :
  ∃(X:Aj) (e:Int) (m:Bool × Nat × Int × Bool × Nat × Int),FL x0 x3=some (X,e)∧
   (if (decide (1≤x3∧x3≤4096) && v)=true then (toN x0.Lo.Man.Abs).bind fun m386=>(toN x0.Hi.Man.Abs).bind fun m391=>(DT ((⟨(⟨(⟨x0.Lo.Man.Neg,m386⟩:Af),x0.Lo.Exp⟩:Ae),(⟨(⟨x0.Hi.Man.Neg,m391⟩:Af),x0.Hi.Exp⟩:Ae)⟩:Aj)) x3).bind fun r396=>some (r396.Lo.Man.Neg,r396.Lo.Man.Abs,r396.Lo.Exp,r396.Hi.Man.Neg,r396.Hi.Man.Abs,r396.Hi.Exp) else some (false,0,0,false,0,0))=some m∧
   AZ X e (if (decide (1≤x3∧x3≤4096) && v)=true then 0 else 1) ⟨⟨⟨m.1,m.2.1⟩,m.2.2.1⟩,⟨⟨m.2.2.2.1,m.2.2.2.2.1⟩,m.2.2.2.2.2⟩⟩=some true:=by
 by_cases hf:1≤x3∧x3≤4096
 ·cases v
  ·rw [Bool.and_false]
   exact ⟨zS,1,(false,0,0,false,0,0),MF x0 x3 false h.p (fun h=>by cases h.1),rfl,LX 1 _ (by decide)⟩
  ·obtain ⟨lo,hi,rfl,v1,v2,l1,l2,_⟩:=h.k rfl
   obtain ⟨b,rfl⟩:∃b:Nat,x3=b:=⟨x3.toNat,by omega⟩
   obtain ⟨u,w,a1,a2,a3,a4⟩:=outward_ok lo hi v1 v2 l1 l2 h.p b (by omega) (by omega)
   have d0:(⟨⟨(toL lo).Man.Neg,lo.Man.Abs⟩,(toL lo).Exp⟩:Ae)=lo:=rfl
   have d1:(⟨⟨(toL hi).Man.Neg,hi.Man.Abs⟩,(toL hi).Exp⟩:Ae)=hi:=rfl
   rw [decide_eq_true hf]
   refine ⟨⟨u,w⟩,0,(u.Man.Neg,u.Man.Abs,u.Exp,w.Man.Neg,w.Man.Abs,w.Exp),a1,?_,Ol _ _ a3 a4⟩
   simp only [Bool.and_true,if_true,toNT,sB,d0,d1,a2]
 ·rw [decide_eq_false hf,Bool.false_and]
  exact ⟨zS,1,(false,0,0,false,0,0),MF x0 x3 v h.p (fun h=>hf h.2),rfl,LX 1 _ (by decide)⟩
theorem setsHull (x0 x1:Am) (v0 v1:Bool) (h0:Sp x0 v0) (h1:Sp x1 v1) :
  ∃(X:Aj) (e:Int) (Y:Aj) (f:Int) (m:Bool × Nat × Int × Bool × Nat × Int × Bool × Nat × Int × Bool × Nat × Int × Int),GC x0 x1=some (X,e)∧FH x0 x1=some (Y,f)∧
   (if (v0 && v1)=true then (toN x0.Lo.Man.Abs).bind fun m533=>(toN x0.Hi.Man.Abs).bind fun m538=>(toN x1.Lo.Man.Abs).bind fun m543=>(toN x1.Hi.Man.Abs).bind fun m548=>
    (Fe ((⟨(⟨(⟨x0.Lo.Man.Neg,m533⟩:Af),x0.Lo.Exp⟩:Ae),(⟨(⟨x0.Hi.Man.Neg,m538⟩:Af),x0.Hi.Exp⟩:Ae)⟩:Aj)) ((⟨(⟨(⟨x1.Lo.Man.Neg,m543⟩:Af),x1.Lo.Exp⟩:Ae),(⟨(⟨x1.Hi.Man.Neg,m548⟩:Af),x1.Hi.Exp⟩:Ae)⟩:Aj))).bind fun r553=>
    (Dp ((⟨(⟨(⟨x0.Lo.Man.Neg,m533⟩:Af),x0.Lo.Exp⟩:Ae),(⟨(⟨x0.Hi.Man.Neg,m538⟩:Af),x0.Hi.Exp⟩:Ae)⟩:Aj)) ((⟨(⟨(⟨x1.Lo.Man.Neg,m543⟩:Af),x1.Lo.Exp⟩:Ae),(⟨(⟨x1.Hi.Man.Neg,m548⟩:Af),x1.Hi.Exp⟩:Ae)⟩:Aj))).bind fun r576=>
    some (r553.Lo.Man.Neg,r553.Lo.Man.Abs,r553.Lo.Exp,r553.Hi.Man.Neg,r553.Hi.Man.Abs,r553.Hi.Exp,r576.S.Lo.Man.Neg,r576.S.Lo.Man.Abs,r576.S.Lo.Exp,r576.S.Hi.Man.Neg,r576.S.Hi.Man.Abs,r576.S.Hi.Exp,r576.E) else some (false,0,0,false,0,0,false,0,0,false,0,0,1))=some m∧
   AZ X e (if (v0 && v1)=true then 0 else 1) ⟨⟨⟨m.1,m.2.1⟩,m.2.2.1⟩,⟨⟨m.2.2.2.1,m.2.2.2.2.1⟩,m.2.2.2.2.2.1⟩⟩=some true∧f=m.2.2.2.2.2.2.2.2.2.2.2.2∧
   Bl Y ⟨⟨⟨m.2.2.2.2.2.2.1,m.2.2.2.2.2.2.2.1⟩,m.2.2.2.2.2.2.2.2.1⟩,⟨⟨m.2.2.2.2.2.2.2.2.2.1,m.2.2.2.2.2.2.2.2.2.2.1⟩,m.2.2.2.2.2.2.2.2.2.2.2.1⟩⟩=some true:=by
 by_cases hv:(v0 && v1)=false
 ·obtain ⟨a1,a2⟩:=hull_err x0 x1 v0 v1 h0.p h1.p hv
  rw [hv]
  exact ⟨zS,1,zS,1,(false,0,0,false,0,0,false,0,0,false,0,0,1),a1,a2,rfl,LX 1 _ (by decide),rfl,sameS zS sm0 sm0⟩
 ·obtain ⟨q0,q1⟩:v0=true∧v1=true:=by simpa using hv
  subst q0 q1
  obtain ⟨a,b,rfl,ha,hb,la,lb,hab⟩:=h0.k rfl
  obtain ⟨c,d,rfl,hc,hd,lc,ld,hcd⟩:=h1.k rfl
  have vab:=RA ha hb la lb hab
  have vcd:=RA hc hd lc ld hcd
  obtain ⟨lo,hi,k1,k2,k3,k4,_⟩:=hull_ok a b c d ha hb hc hd la lb lc ld vab vcd
  obtain ⟨p,q,hp,hq,_,_,_,_,_,_,_,_,j7⟩:=meet_ok a b c d ha hb hc hd la lb lc ld vab vcd
  have da:(⟨⟨(toL a).Man.Neg,a.Man.Abs⟩,(toL a).Exp⟩:Ae)=a:=rfl
  have db:(⟨⟨(toL b).Man.Neg,b.Man.Abs⟩,(toL b).Exp⟩:Ae)=b:=rfl
  have dc:(⟨⟨(toL c).Man.Neg,c.Man.Abs⟩,(toL c).Exp⟩:Ae)=c:=rfl
  have dd:(⟨⟨(toL d).Man.Neg,d.Man.Abs⟩,(toL d).Exp⟩:Ae)=d:=rfl
  rcases j7 with ⟨_,j8,j9⟩ | ⟨_,j8,j9⟩
  ·refine ⟨⟨lo,hi⟩,0,⟨p,q⟩,0,(lo.Man.Neg,lo.Man.Abs,lo.Exp,hi.Man.Neg,hi.Man.Abs,hi.Exp,p.Man.Neg,p.Man.Abs,p.Exp,q.Man.Neg,q.Man.Abs,q.Exp,0),k1,j8,?_,Ol _ _ k3 k4,rfl,sameS ⟨p,q⟩ hp.sm hq.sm⟩
   simp only [Bool.and_true,if_true,toNT,sB,da,db,dc,dd,k2,j9]
  ·refine ⟨⟨lo,hi⟩,0,zS,5,(lo.Man.Neg,lo.Man.Abs,lo.Exp,hi.Man.Neg,hi.Man.Abs,hi.Exp,false,0,0,false,0,0,5),k1,j8,?_,Ol _ _ k3 k4,rfl,sameS zS sm0 sm0⟩
   simp only [Bool.and_true,if_true,toNT,sB,da,db,dc,dd,k2,j9]
   rfl
theorem Sp.of (x:Am) (h0:Dig x.Lo.Man.Abs) (h1:Dig x.Hi.Man.Abs) (k:(∀d,x.Lo=toL d→VT d→Lt d)∧∀d,x.Hi=toL d→VT d→Lt d):∃v,Sp x v:=by
 obtain ⟨v,e,f,g⟩:=proper_ x h0 h1 (fun d hd hv=>(k.1 d hd hv).1) (fun d hd hv=>(k.2 d hd hv).1)
 refine ⟨v,e,f,fun h=>?_⟩
 obtain ⟨lo,hi,rfl,a,b,_,_,c⟩:=g h
 exact ⟨lo,hi,rfl,a,b,k.1 lo rfl a,k.2 hi rfl b,c⟩
theorem setsHas (x0:Am) (x2:Et) (v0 v2:Bool) (h:Sp x0 v0) (f2:DP x2=some v2) (g2:v2=true→∃(s:Bool) (n d:Nat),x2=⟨⟨s,limbs n⟩,limbs d⟩∧(n=0→s=false)∧d≠0) (hl:(List.length x2.Num.Abs:Int)≤60∧(List.length x2.Den:Int)≤60) :
  ∃(b:Bool) (e:Int),HH x0 x2=some (b,e)∧∀f:Unit→Option Bool,
   (rj (if (!v0 || !v2)=true then (if ¬e=1 then some (true) else some b).bind fun m1304=>if m1304=true then some (.error false) else some (.ok ()) else (if ¬e=0 then some (true) else (toN x0.Lo.Man.Abs).bind fun m1258=>(toN x0.Hi.Man.Abs).bind fun m1263=>(toN x2.Num.Abs).bind fun m1268=>(toN x2.Den).bind fun m1273=>
    (FA ((⟨(⟨(⟨x0.Lo.Man.Neg,m1258⟩:Af),x0.Lo.Exp⟩:Ae),(⟨(⟨x0.Hi.Man.Neg,m1263⟩:Af),x0.Hi.Exp⟩:Ae)⟩:Aj)) ((⟨(⟨x2.Num.Neg,m1268⟩:Af),m1273⟩:BG))).bind fun r1278=>some ((decide (¬b=r1278)))).bind fun m1241=>if m1241=true then some (.error false) else some (.ok ())) f)=f ():=by
 by_cases hv:(v0 && v2)=false
 ·refine ⟨false,1,has_err x0 x2 v0 v2 h.p f2 hv,fun f=>?_⟩
  have:(!v0 || !v2)=true:=by cases v0<;>cases v2<;>first | rfl | cases hv
  rw [this];rfl
 ·obtain ⟨q0,q2⟩:v0=true∧v2=true:=by simpa using hv
  subst q0 q2
  obtain ⟨lo,hi,rfl,a1,a2,l1,l2,_⟩:=h.k rfl
  obtain ⟨s,n,d,rfl,hz,hd⟩:=g2 rfl
  have n1:Sbn.sz n≤60:=by have:=hl.1;have e:(limbs n).length=Sbn.sz n:=rfl;simp only [e] at this;omega
  have n2:Sbn.sz d≤60:=by have:=hl.2;have e:(limbs d).length=Sbn.sz d:=rfl;simp only [e] at this;omega
  have b1:=IL n1
  have b2:=IL n2
  obtain ⟨a,b,c1,c2,c3,_,_⟩:=has_ok lo hi a1 a2 l1 l2 h.p s n d hd (by omega) (by omega) f2
  refine ⟨_,0,c3,fun f=>?_⟩
  have d0:(⟨⟨(toL lo).Man.Neg,lo.Man.Abs⟩,(toL lo).Exp⟩:Ae)=lo:=rfl
  have d1:(⟨⟨(toL hi).Man.Neg,hi.Man.Abs⟩,(toL hi).Exp⟩:Ae)=hi:=rfl
  have hr:FA ⟨lo,hi⟩ ⟨⟨s,n⟩,d⟩=some (decide (a≤0∧0≤b)):=by
   unfold FA
   simp only
   rw [c1,sB]
   by_cases ha:a≤0
   ·rw [if_pos ha,c2,sB,sB]
    congr 1
    simp [ha]
   ·rw [if_neg ha,sB,decide_eq_false (fun h=>ha h.1)]
  simp only [toNT,HG,sB,d0,d1,hr,not_true_eq_false,if_false,decide_false,Bool.false_eq_true,Bool.not_true,Bool.or_self]
  rfl
theorem lawSets (x0 x1:Am) (x2:Et) (x3:Int) (h0:Dig x0.Lo.Man.Abs) (h1:Dig x0.Hi.Man.Abs) (h2:Dig x1.Lo.Man.Abs) (h3:Dig x1.Hi.Man.Abs) (h4:Dig x2.Num.Abs) (h5:Dig x2.Den):FT x0 x1 x2 x3=some true:=by
 obtain ⟨w0,fe0,fk0⟩:=Nt x0 h0 h1
 obtain ⟨w1,fe1,fk1⟩:=Nt x1 h2 h3
 obtain ⟨v2,e2,f2,g2⟩:=validRat x2 h4 h5
 have hlr:EI x2=some (decide ((List.length x2.Num.Abs:Int)≤60∧(List.length x2.Den:Int)≤60)):=by
  unfold EI
  by_cases q1:(List.length x2.Num.Abs:Int)≤60<;>by_cases q2:(List.length x2.Den:Int)≤60<;>simp [q1,q2]
 unfold FT
 rw [fe0,sB,fe1,hlr,sanity]
 cases w0
 ·rfl
 cases w1
 ·rfl
 by_cases hl:¬((List.length x2.Num.Abs:Int)≤60∧(List.length x2.Den:Int)≤60)
 ·rw [decide_eq_false hl];rfl
 have hl:=Decidable.not_not.1 hl
 rw [decide_eq_true hl]
 obtain ⟨v0,s0⟩:=Sp.of x0 h0 h1 (fk0 rfl)
 obtain ⟨v1,s1⟩:=Sp.of x1 h2 h3 (fk1 rfl)
 obtain ⟨X,e,m,a1,a2,a3⟩:=setsAround x2 x3 v2 f2 g2 hl
 obtain ⟨Y,f,n,b1,b2,b3⟩:=setsOutward x0 x3 v0 s0
 obtain ⟨H,he,M,me,k,c1,c2,c3,c4,c5,c6⟩:=setsHull x0 x1 v0 v1 s0 s1
 obtain ⟨hb,hx,d1,d2⟩:=setsHas x0 x2 v0 v2 s0 f2 g2 hl
 have a2':=a2
 have orB:(if ¬(v0=true) then some true else some (decide ¬(v2=true)))=some (!v0 || !v2):=by cases v0<;>cases v2<;>rfl
 simp only [not_true_eq_false,if_false,sB,decide_false,Bool.false_eq_true,s0.r,s1.r,e2,fineL,andB,argV]
 rw [a2]
 simp only [sB]
 rw [b2]
 simp only [sB]
 rw [c3]
 simp only [sB,a1,b1,c1,c2,d1,a3,b3,c4,c6,not_true_eq_false,if_false,if_true,decide_false,Bool.false_eq_true]
 rw [←c5]
 simp only [not_true_eq_false,decide_false,if_false,sB,Bool.false_eq_true,c6]
 rw [if_neg (by decide),orB,sB,d2]
 cases v0
 ·obtain ⟨g1,g3⟩:=width_err x0 s0.p
  have g4:BB zD ⟨⟨false,0⟩,0⟩=some true:=sameD zD sm0
  rw [g1,g3,sB,sB]
  simp only [not_false_eq_true,if_true,decide_true,Bool.and_self,g4,sB,Bool.false_eq_true]
 ·obtain ⟨lo,hi,rfl,q1,q2,q3,q4,q5⟩:=s0.k rfl
  obtain ⟨r,z,g1,g3,g4,g5⟩:=width_ok lo hi q1 q2 q3 q4 s0.p
  obtain ⟨kk,g6,g7⟩:=side_ok lo hi q1 q2 s0.p q5
  have w0:(⟨⟨(toL lo).Man.Neg,lo.Man.Abs⟩,(toL lo).Exp⟩:Ae)=lo:=rfl
  have w1:(⟨⟨(toL hi).Man.Neg,hi.Man.Abs⟩,(toL hi).Exp⟩:Ae)=hi:=rfl
  rw [g1,g6,sB,sB]
  simp only [not_true_eq_false,if_false,sB,toNT,w0,w1,g3,g4,agT_ok g5,decide_true,Bool.and_self,if_true,g7]
end Go.Proofs.Pq
