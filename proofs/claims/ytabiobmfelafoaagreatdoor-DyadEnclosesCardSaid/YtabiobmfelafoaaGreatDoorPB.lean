import Derived.Test.YtabiobmfelafoaaGreatDoorPA
namespace Go.Proofs.Pq
set_option linter.unusedVariables false
set_option linter.unusedSimpArgs false
set_option maxRecDepth 4000
open Go.Proofs Go.Sb Go.Proofs.Sbn Go.Proofs.Lf
theorem rn5 (s:Bool) (N D:Nat) (e:Int):rn s N D e 5=nz s (if s=true then N/D+(if N%D=0 then 0 else 1) else N/D) e:=by
 unfold rn;rw [up5]
 by_cases h:N%D=0<;>cases s<;>simp [h]
theorem rn4 (s:Bool) (N D:Nat) (e:Int):rn s N D e 4=nz s (if s=true then N/D else N/D+(if N%D=0 then 0 else 1)) e:=by
 unfold rn;rw [up4]
 by_cases h:N%D=0<;>cases s<;>simp [h]
theorem Ot {n m:Nat} : (Z false n≤Z false m↔n≤m)∧(Z true n≤Z true m↔m≤n):=by
 constructor<;>simp only [Z,if_true,Bool.false_eq_true,if_false]<;>omega
theorem Z_tf (n m:Nat):Z true n≤Z false m:=by simp only [Z,if_true,Bool.false_eq_true,if_false];omega
theorem SI {s:Bool} {n:Nat} (h:n≠0):(0≤Z s n↔s=false)∧(Z s n≤0↔s=true):=by
 cases s<;>simp only [Z,if_true,Bool.false_eq_true,if_false]<;>constructor<;>simp<;>omega
theorem isR_mono {b:Nat} {dir:Int} {s t:Bool} {n d n' d':Nat} {r r':Aj} (hb:1≤b) (hdir:dir=5∨dir=4) (h:IsR b dir s n d r) (h':IsR b dir t n' d' r')
  (hd:d≠0) (hd':d'≠0) (hle:Z s n*d'≤Z t n' * d):LeV r r':=by
 have hz0:∀s,Z s 0=0:=by intro s;cases s<;>rfl
 have hnzz:∀s e,nz s 0 e=⟨⟨false,0⟩,0⟩:=fun s e=>rfl
 have hrn:∀(s:Bool) (N D:Nat) (e:Int),∃M,rn s N D e dir=nz s M e∧N/D≤M:=fun s N D e=>⟨_,rfl,Nat.le_add_right _ _⟩
 rcases h with ⟨h0,hr⟩ | ⟨h0,u,v,hr,h1,h2,hu,hv⟩<;>rcases h' with ⟨h0',hr'⟩ | ⟨h0',u',v',hr',h1',h2',hu',hv'⟩
 ·rw [hr,hr']
  intro i j _
  show Z false 0*_≤Z false 0*_
  rw [hz0,Int.zero_mul,Int.zero_mul];exact Int.le_refl _
 ·subst h0
  obtain ⟨M,hM,_⟩:=hrn t (n' * 2^u') (d' * 2^v') ((v':Int) - u')
  rw [hz0,Int.zero_mul,(Mz t (Nat.pos_of_ne_zero hd)).1,(SI h0').1] at hle
  rw [hr,hr',hM,←hnzz false ((v':Int) - u'),hle]
  refine MB (i:=0) (j:=0) (by omega) ?_
  rw [hz0,Int.zero_mul]
  exact (Mz false (Nat.two_pow_pos 0)).1.2 (by simp [Z])
 ·subst h0'
  obtain ⟨M,hM,_⟩:=hrn s (n*2^u) (d*2^v) ((v:Int) - u)
  rw [hz0,Int.zero_mul,(Mz s (Nat.pos_of_ne_zero hd')).2,(SI h0).2] at hle
  rw [hr,hr',hM,←hnzz false ((v:Int) - u),hle]
  refine MB (i:=0) (j:=0) (by omega) ?_
  rw [hz0,Int.zero_mul]
  exact (Mz true (Nat.two_pow_pos 0)).2.2 (by simp [Z])
 ·obtain ⟨i,j,hij⟩:∃i j:Nat,((v:Int) - u) - ((v':Int) - u')=(i:Int) - j:=⟨v+u',v' + u,by omega⟩
  have hD:0<d*2^v:=Nat.mul_pos (by omega) (Nat.two_pow_pos _)
  have hD':0<d' * 2^v':=Nat.mul_pos (by omega) (Nat.two_pow_pos _)
  rw [←GB,←GB] at hle
  have hkey:∀ {x y:Nat},x*d'≤y*d→x*2^u*(d' * 2^v')*2^(u' + v)≤y*2^u' * (d*2^v)*2^(u+v'):=by
   intro x y hxy
   calc x*2^u*(d' * 2^v')*2^(u' + v)=x*d' * (2^u*2^v' * 2^u' * 2^v):=by rw [Nat.pow_add];simp only [Nat.mul_assoc,Nat.mul_comm,Nat.mul_left_comm]
    _≤y*d*(2^u*2^v' * 2^u' * 2^v):=Nat.mul_le_mul_right _ hxy
    _=y*2^u' * (d*2^v)*2^(u+v'):=by rw [Nat.pow_add];simp only [Nat.mul_assoc,Nat.mul_comm,Nat.mul_left_comm]
  have hkey':∀ {x y:Nat},x*d≤y*d'→x*2^u' * (d*2^v)*2^(u+v')≤y*2^u*(d' * 2^v')*2^(u' + v):=by
   intro x y hxy
   calc x*2^u' * (d*2^v)*2^(u+v')=x*d*(2^u*2^v' * 2^u' * 2^v):=by rw [Nat.pow_add];simp only [Nat.mul_assoc,Nat.mul_comm,Nat.mul_left_comm]
    _≤y*d' * (2^u*2^v' * 2^u' * 2^v):=Nat.mul_le_mul_right _ hxy
    _=y*2^u*(d' * 2^v')*2^(u' + v):=by rw [Nat.pow_add];simp only [Nat.mul_assoc,Nat.mul_comm,Nat.mul_left_comm]
  cases s
  ·cases t
   ·have hm:=PK (k:=u' + v) (k':=u+v') hD hD' (by omega) h1 h2 h1' h2' (by omega) (hkey (Ot.1.1 hle)) hij
    rw [hr,hr']
    rcases hdir with rfl | rfl
    ·rw [rn5,rn5];refine MB hij ?_
     rw [←GB,←GB];exact Ot.1.2 hm.1
    ·rw [rn4,rn4];refine MB hij ?_
     rw [←GB,←GB];exact Ot.1.2 hm.2
   ·exfalso
    have:0<n*d':=Nat.mul_pos (by omega) (by omega)
    have:0<n' * d:=Nat.mul_pos (by omega) (by omega)
    simp only [Z,if_true,Bool.false_eq_true,if_false] at hle
    omega
  ·cases t
   ·obtain ⟨M,hM,_⟩:=hrn true (n*2^u) (d*2^v) ((v:Int) - u)
    obtain ⟨M',hM',_⟩:=hrn false (n' * 2^u') (d' * 2^v') ((v':Int) - u')
    rw [hr,hr',hM,hM']
    refine MB hij ?_
    rw [←GB,←GB];exact Z_tf _ _
   ·have hm:=PK (k:=u+v') (k':=u' + v) (e:=(v':Int) - u') (e':=(v:Int) - u) hD' hD (by omega) h1' h2' h1 h2 (by omega) (hkey' (Ot.2.1 hle)) (i:=j) (j:=i) (by omega)
    rw [hr,hr']
    rcases hdir with rfl | rfl
    ·rw [rn5,rn5];refine MB hij ?_
     rw [←GB,←GB];exact Ot.2.2 hm.2
    ·rw [rn4,rn4];refine MB hij ?_
     rw [←GB,←GB];exact Ot.2.2 hm.1
theorem isR_bd {b:Nat} {dir:Int} {s:Bool} {n d:Nat} {r:Aj} (hb':b≤10000) (h:IsR b dir s n d r) :
  bl r.m.Abs≤20000∧-1000000≤r.e∧r.e≤1000000∧∃s M e,r=nz s M e:=by
 rcases h with ⟨h0,hr⟩ | ⟨h0,u,v,hr,h1,h2,hu,hv⟩
 ·subst hr;exact ⟨by simp [FG],by simp,by simp,false,0,0,rfl⟩
 ·subst hr
  have hM:∀M:Nat,M≤2^b→bl (nz s M ((v:Int) - u)).m.Abs≤20000∧-1000000≤(nz s M ((v:Int) - u)).e∧(nz s M ((v:Int) - u)).e≤1000000:=by
   intro M hM
   have hbM:bl M≤b+1:=by
    rw [Eb,Nat.pow_succ];have:=Nat.two_pow_pos b;omega
   unfold nz
   by_cases h0:M=0
   ·rw [if_pos h0];exact ⟨by simp [FG],by simp,by simp⟩
   ·rw [if_neg h0]
    obtain ⟨m,_,h3⟩:=Hn h0
    have:=Jp M (2^tz M)
    simp only
    omega
  have hup:∀c:Bool,n*2^u/(d*2^v)+(if c=true then 1 else 0)≤2^b:=by
   intro c
   refine Nat.le_trans (Nat.add_le_add_left (m:=1) ?_ _) h1
   cases c<;>simp
  obtain ⟨a1,a2,a3⟩:=hM _ (hup _)
  exact ⟨a1,a2,a3,_,_,_,rfl⟩
theorem cmpV (x y:Aj) (hx:bl x.m.Abs≤20000) (hy:bl y.m.Abs≤20000) (h1 : -1000000≤x.e) (h2:x.e≤1000000) (h3 : -1000000≤y.e) (h4:y.e≤1000000) :
  ∃c,Bb x y=some c∧(¬c<0↔LeV y x)∧(¬0<c↔LeV x y):=by
 obtain ⟨⟨s,n⟩,e⟩:=x
 obtain ⟨⟨t,m⟩,f⟩:=y
 obtain ⟨c,hc,h⟩:=cmp s t n m e f hx hy h1 h2 h3 h4
 refine ⟨c,hc,?_,?_⟩
 ·constructor
  ·intro hh i j hij
   have:=(h j i (by simp only at hij;omega)).1
   exact Int.not_lt.1 fun h5=>hh (this.2 h5)
  ·intro hh
   have h5:=hh (f - e).toNat (-(f - e)).toNat (by simp only;omega)
   have:=(h (-(f - e)).toNat (f - e).toNat (by omega)).1
   rw [this]
   exact Int.not_lt.2 h5
 ·constructor
  ·intro hh i j hij
   have:=(h i j hij).2
   exact Int.not_lt.1 fun h5=>hh (this.2 h5)
  ·intro hh
   have h5:=hh (e - f).toNat (-(e - f)).toNat (by simp only;omega)
   have:=(h (e - f).toNat (-(e - f)).toNat (by omega)).2
   rw [this]
   exact Int.not_lt.2 h5
def PR (b:Nat) (dir:Int) (q:Bool × Nat × Nat) (r:Aj):Prop:=
 q.2.2≠0∧bl q.2.1≤30000∧bl q.2.2≤30000∧IsR b dir q.1 q.2.1 q.2.2 r∧p_sorobanref04_FromRat ⟨⟨q.1,q.2.1⟩,q.2.2⟩ (b:Int) dir=some (toD r)
theorem PR.le {b:Nat} {dir:Int} {q q':Bool × Nat × Nat} {r r':Aj} (hb:1≤b) (hdir:dir=5∨dir=4) (h:PR b dir q r) (h':PR b dir q' r') (hle:Z q.1 q.2.1*q'.2.2≤Z q'.1 q'.2.1*q.2.2):LeV r r':=
 isR_mono hb hdir h.2.2.2.1 h'.2.2.2.1 h.1 h'.1 hle
structure Ok (x:Al):Prop where
 c:Cs x.Man.Neg x.Man.Abs
 s:bl x.Man.Abs≤20000
 l : -5000≤x.Exp
 u:x.Exp≤5000
theorem pickn {p:Prop} [Decidable p] (r r':Aj):(if p then some (r'.m.Neg,r'.m.Abs,r'.e) else some (r.m.Neg,r.m.Abs,r.e))=some ((if p then r' else r).m.Neg,(if p then r' else r).m.Abs,(if p then r' else r).e):=by split<;>rfl
theorem NM {p:Prop} [Decidable p]:(if p then some () else some ())=some ():=by split<;>rfl
def Cb (r:Aj):Prop:=bl r.m.Abs≤20000∧-1000000≤r.e∧r.e≤1000000∧∃s M e,r=nz s M e
theorem sqrt_ex (x:Nat):∃s,s*s≤x∧x<(s+1)*(s+1):=by
 induction x with
 | zero=>exact ⟨0,by omega,by omega⟩
 | succ x ih=>
  obtain ⟨s,h1,h2⟩:=ih
  by_cases h:x+1<(s+1)*(s+1)
  ·exact ⟨s,by omega,h⟩
  ·refine ⟨s+1,by omega,?_⟩
   have e:(s+1+1)*(s+1+1)=(s+1)*(s+1)+2*s+3:=by simp only [Nat.add_mul,Nat.mul_add];omega
   omega
theorem QQ {a b:Nat} : a<b↔a*a<b*b:=by
 constructor
 ·intro h;exact Nat.mul_self_lt_mul_self h
 ·intro h;exact Nat.lt_of_not_le fun h2=>by have:=Nat.mul_le_mul h2 h2;omega
theorem newton (x s:Nat) (hx:Sm x) (hx0:x≠0) (h1:s*s≤x) (h2:x<(s+1)*(s+1)) :
  ∀(n f y:Nat),f<n→y - s<2^f→s≤y→y≠0→Sm (y+y)→Sm (y+x)→FI x n y=some (s,x - s*s):=by
 intro n
 induction n with
 | zero=>intro f y h;omega
 | succ n ih=>
  intro f y hf hd hs hy hys hyx
  have hyS:Sm y:=Im (by omega) hys
  have hq:x/y≤x:=Nat.div_le_self _ _
  have hqm:=Nat.div_mul_le_self x y
  have hql:x<(x/y+1)*y:=by
   have:=Nat.div_add_mod x y
   have:=Nat.mod_lt x (Nat.pos_of_ne_zero hy)
   rw [Nat.add_mul,Nat.mul_comm (x/y)];omega
  unfold FI
  rw [wDiv hx hyS hy,sB]
  simp only
  rw [wAdd hyS (Im hq hx),sB,show (1:Int)=((1:Nat):Int) from rfl,wShr (Im (by omega) hyx) (by decide),sB]
  have hzs:Sm ((y+x/y)/2^1):=Im (Nat.div_le_self _ _) (Im (Nat.add_le_add_left hq y) hyx)
  rw [wCmp hzs hyS,sB,Nat.pow_one]
  rw [Nat.pow_one] at hzs
  have hc:=@IT ((y+x/y)/2) y
  generalize x/y=q at *
  by_cases hz:(y+q)/2<y
  ·rw [if_neg (by have:=hc.2 hz;omega)]
   have hys1:s<y:=by
    refine Nat.lt_of_le_of_ne hs fun h=>?_
    subst h
    have:q<s:=by omega
    have:(q+1)*s≤s*s:=Nat.mul_le_mul_right _ this
    omega
   have hqs:q≤s:=by
    refine Nat.le_of_not_lt fun h=>?_
    have:(s+1)*(s+1)≤q*y:=Nat.mul_le_mul h hys1
    omega
   obtain ⟨f,rfl⟩:∃g,f=g+1:=⟨f - 1,by
    cases f with
    | zero=>simp at hd;omega
    | succ f=>rfl⟩
   rw [Nat.pow_succ] at hd
   refine ih f _ (by omega) (by omega) ?_ ?_ (Im (by omega) hys) (Im (by omega) hyx)
   ·
    refine Nat.le_of_lt_succ (QQ.2 (Nat.lt_of_le_of_lt h1 ?_))
    show x<((y+q)/2+1)*((y+q)/2+1)
    have h3:y+(q+1)≤2*((y+q)/2+1):=by omega
    have h4:=Nat.mul_le_mul h3 h3
    have h5:4*((q+1)*y)≤(y+(q+1))*(y+(q+1)):=by
     generalize q+1=p
     rcases Nat.le_total y p with h | h
     ·obtain ⟨k,rfl⟩:=Nat.exists_eq_add_of_le h
      have:(y+(y+k))*(y+(y+k))=4*((y+k)*y)+k*k:=by grind
      omega
     ·obtain ⟨k,rfl⟩:=Nat.exists_eq_add_of_le h
      have:(p+k+p)*(p+k+p)=4*(p*(p+k))+k*k:=by grind
      omega
    have h6:2*((y+q)/2+1)*(2*((y+q)/2+1))=4*(((y+q)/2+1)*((y+q)/2+1)):=by
     generalize (y+q)/2+1=z;grind
    omega
   ·by_cases hy1:y=1
    ·subst hy1;simp at hqm hql;omega
    ·omega
  ·rw [if_pos (by
    have:¬cmpw ((y+q)/2) y<0:=fun h=>hz (hc.1 h)
    omega)]
   have hyq:y≤q:=by omega
   have hyy:y*y≤x:=Nat.le_trans (Nat.mul_le_mul_right _ hyq) hqm
   have hsy:s=y:=by
    refine Nat.le_antisymm hs (Nat.le_of_lt_succ (QQ.2 (Nat.lt_of_le_of_lt hyy h2)))
   subst hsy
   rw [wMul hyS hyS,sB,wSub hx hyy,sB]
theorem wRoot (x s:Nat) (hx:bl x≤100000) (hx0:x≠0) (h1:s*s≤x) (h2:x<(s+1)*(s+1)):HC x=some (s,x - s*s):=by
 have hxS:Sm x:=by unfold Sm;omega
 obtain ⟨b1,b2,b3⟩:=Di hx0
 have hw:wi64 (((wi64 ((bl x:Int)+1))).tdiv 2)=(((bl x+1)/2:Nat):Int):=by
  rw [w64n (x:=(bl x:Int)+1) (n:=bl x+1) (by omega) (by omega)]
  exact w64n (n:=(bl x+1)/2) rfl (by omega)
 have hk:bl x≤2*((bl x+1)/2):=by omega
 have hk2:(bl x+1)/2≤100000:=by omega
 unfold HC
 simp only [sz0]
 rw [if_neg hx0,wBits hxS,sB,hw,wShl (k:=(bl x+1)/2) sm1 (by omega),sB,Nat.one_mul]
 generalize (bl x+1)/2=k at *
 have hp:=Nat.two_pow_pos k
 have hxk:x<2^k*2^k:=by
  rw [←Nat.pow_add];exact Nat.lt_of_lt_of_le b2 (Nat.pow_le_pow_right (by decide) (by omega))
 have hkk:2^(k+1)=2^k*2:=Nat.pow_succ ..
 have hkk2:2^(k+2)=2^k*4:=Nat.pow_add 2 k 2
 refine newton x s hxS hx0 h1 h2 _ (k+1) (2^k) (by omega) (by omega) (Nat.le_of_lt (QQ.2 (Nat.lt_of_le_of_lt h1 hxk))) (by omega) ?_ ?_
 ·exact QE (k:=k+2) (by omega) (by omega)
 ·exact QE (k:=k+bl x+1) (by
   have a1:2^k≤2^(k+bl x):=Nat.pow_le_pow_right (by decide) (by omega)
   have a2:2^bl x≤2^(k+bl x):=Nat.pow_le_pow_right (by decide) (by omega)
   have a3:2^(k+bl x+1)=2^(k+bl x)*2:=Nat.pow_succ ..
   omega) (by omega)
def RT (X s b:Nat) (e dir:Int):Aj:=
 rn false (2*s+(if X - s*s=0 then 0 else 1)) (2^(bl s+1 - b)) (e+((bl s - b:Nat):Int)) dir
theorem St {n k:Nat} (h:n≠0):bl (n*2^k)=bl n+k:=by
 obtain ⟨h1,h2,h3⟩:=Di h
 refine Nat.le_antisymm (Kr n k) ?_
 refine Nat.le_of_not_lt fun h4=>?_
 have h5:n*2^k<2^(bl n+k - 1):=Eb.1 (by omega)
 have h6:2^(bl n+k - 1)=2^(bl n - 1)*2^k:=by rw [←Nat.pow_add];congr 1;omega
 rw [h6] at h5
 have:=Nat.mul_le_mul_right (2^k) h1
 omega
end Go.Proofs.Pq
