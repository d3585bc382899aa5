import Derived.Test.YtabiobmfelafoaaGreatDoorPA
namespace Go.Proofs.Pq
set_option linter.unusedVariables false
set_option linter.unusedSimpArgs false
set_option maxRecDepth 4000
open Go.Proofs Go.Sb Go.Proofs.Sbn Go.Proofs.Lf
theorem QW {b:Nat} {dir:Int} {s:Bool} {n d:Nat} {r:Al} (hb':b≤10000) (h:IsR b dir s n d r) :
  bl r.m.Abs≤20000∧-1000000≤r.e∧r.e≤1000000∧∃s M e,r=nz s M e:=by
 rcases h with ⟨h0,hr⟩ | ⟨h0,u,v,hr,h1,h2,hu,hv⟩
 ·subst hr;exact ⟨by simp [HU],by simp,by simp,false,0,0,rfl⟩
 ·subst hr
  have hM:∀M:Nat,M≤2^b→bl (nz s M ((v:Int) - u)).m.Abs≤20000∧-1000000≤(nz s M ((v:Int) - u)).e∧(nz s M ((v:Int) - u)).e≤1000000:=by
   intro M hM
   have hbM:bl M≤b+1:=by
    rw [ER,Nat.pow_succ];have:=Nat.two_pow_pos b;omega
   unfold nz
   by_cases h0:M=0
   ·rw [if_pos h0];exact ⟨by simp [HU],by simp,by simp⟩
   ·rw [if_neg h0]
    obtain ⟨m,_,h3⟩:=GQ h0
    have:=Ld M (2^tz M)
    simp only
    omega
  have hup:∀c:Bool,n*2^u/(d*2^v)+(if c=true then 1 else 0)≤2^b:=by
   intro c
   refine Nat.le_trans (Nat.add_le_add_left (m:=1) ?_ _) h1
   cases c<;>simp
  obtain ⟨a1,a2,a3⟩:=hM _ (hup _)
  exact ⟨a1,a2,a3,_,_,_,rfl⟩
theorem cmpV (x y:Al) (hx:bl x.m.Abs≤20000) (hy:bl y.m.Abs≤20000) (h1 : -1000000≤x.e) (h2:x.e≤1000000) (h3 : -1000000≤y.e) (h4:y.e≤1000000) :
  ∃c,AI x y=some c∧(¬c<0↔LeV y x)∧(¬0<c↔LeV x y):=by
 obtain ⟨⟨s,n⟩,e⟩:=x
 obtain ⟨⟨t,m⟩,f⟩:=y
 obtain ⟨c,hc,h⟩:=cmp s t n m e f hx hy h1 h2 h3 h4
 refine ⟨c,hc,?_,?_⟩
 ·constructor
  ·intro hh i j hij
   have:=(h j i (by simp only at hij;omega)).1
   exact Int.not_lt.1 fun h5=>hh (this.2 h5)
  ·intro hh
   have h5:=hh (f - e).toNat (-(f - e)).toNat (by simp only;omega)
   have:=(h (-(f - e)).toNat (f - e).toNat (by omega)).1
   rw [this]
   exact Int.not_lt.2 h5
 ·constructor
  ·intro hh i j hij
   have:=(h i j hij).2
   exact Int.not_lt.1 fun h5=>hh (this.2 h5)
  ·intro hh
   have h5:=hh (e - f).toNat (-(e - f)).toNat (by simp only;omega)
   have:=(h (e - f).toNat (-(e - f)).toNat (by omega)).2
   rw [this]
   exact Int.not_lt.2 h5
structure Ok (x:Ae):Prop where
 c:Cs x.Man.Neg x.Man.Abs
 s:bl x.Man.Abs≤20000
 l : -5000≤x.Exp
 u:x.Exp≤5000
def Cb (r:Al):Prop:=bl r.m.Abs≤20000∧-1000000≤r.e∧r.e≤1000000∧∃s M e,r=nz s M e
theorem Pa {n k:Nat} (h:n≠0):bl (n*2^k)=bl n+k:=by
 obtain ⟨h1,h2,h3⟩:=FV h
 refine Nat.le_antisymm (KP n k) ?_
 refine Nat.le_of_not_lt fun h4=>?_
 have h5:n*2^k<2^(bl n+k - 1):=ER.1 (by omega)
 have h6:2^(bl n+k - 1)=2^(bl n - 1)*2^k:=by rw [←Nat.pow_add];congr 1;omega
 rw [h6] at h5
 have:=Nat.mul_le_mul_right (2^k) h1
 omega
theorem refRound (s:Bool) (M b:Nat) (e dir:Int) (hM:bl M≤50000) (hb:1≤b) (hbM:b+1≤bl M) (he : -100000000≤e) (he':e≤100000000) :
  BN (toD (nz s M e)) (b:Int) dir=some (toD (rn s M (2^(bl M - b)) (e+((bl M - b:Nat):Int)) dir)):=by
 have hM0:M≠0:=by intro h;subst h;rw [HU] at hbM;omega
 obtain ⟨q,hq⟩:=Mp M
 have hp:=Nat.two_pow_pos (tz M)
 have hqd:M/2^tz M=q:=by generalize tz M=z at *;rw [hq,Nat.mul_div_cancel _ hp]
 have hq0:q≠0:=by intro h;subst h;rw [Nat.zero_mul] at hq;exact hM0 hq
 have hbl:bl M=bl q+tz M:=by
  have:=Pa (k:=tz M) hq0
  generalize tz M=z at *;rw [hq];exact this
 unfold BN
 unfold nz toD
 rw [if_neg hM0,hqd]
 simp only
 rw [rBits (by unfold Sm;omega),sB,w64 (x:=(bl q:Int) - (b:Int)) (by omega) (by omega)]
 by_cases h:bl q≤b
 ·rw [if_pos (by omega)]
  congr 1
  have hz:bl M - b≤tz M:=by omega
  have hd:M%2^(bl M - b)=0:=by
   obtain ⟨c,hc⟩:∃c,tz M=(bl M - b)+c:=⟨tz M - (bl M - b),by omega⟩
   rw [hc,Nat.pow_add,Nat.mul_comm q,Nat.mul_assoc] at hq
   generalize bl M - b=z at *
   rw [hq];exact Nat.mul_mod_right _ _
  have hrn:rn s M (2^(bl M - b)) (e+((bl M - b:Nat):Int)) dir=nz s M e:=by
   unfold rn
   have hu:up (decide (M%2^(bl M - b)=0)) (sgnc (2*(M%2^(bl M - b))) (2^(bl M - b))) (decide (M/2^(bl M - b)%2=1)) s dir=false:=by
    rw [decide_eq_true hd];rfl
   rw [hu,if_neg (by decide),Nat.add_zero]
   have:=nz_shl' s (M/2^(bl M - b)) (bl M - b) (e+((bl M - b:Nat):Int)) e rfl
   rw [←this,Nat.div_mul_cancel (Nat.dvd_of_mod_eq_zero hd)]
  rw [hrn]
  unfold nz
  rw [if_neg hM0,hqd]
 ·obtain ⟨d,hd⟩:∃d:Nat,bl q=b+d+1:=⟨bl q - b - 1,by omega⟩
  have hw:(bl q:Int) - (b:Int)=((d+1:Nat):Int):=by omega
  rw [if_neg (by omega)]
  simp only [BT,sB]
  have hp2:=Nat.two_pow_pos (d+1)
  have hqS:Sm q:=by unfold Sm;omega
  rw [hw,rShl sm1 (by omega),sB,Nat.one_mul,rDiv hqS (NK (k:=d+2) (Nat.pow_lt_pow_right (by decide) (by omega)) (by omega)) (by omega),sB]
  simp only
  have hqb:=FV hq0
  have hqq:q/2^(d+1)≠0:=by
   have:2^(d+1)≤q:=Nat.le_trans (Nat.pow_le_pow_right (by decide) (by omega)) hqb.1
   have:=Nat.div_pos this hp2
   omega
  rw [w64 (x:=e+(tz M:Int)+((d+1:Nat):Int)) (by omega) (by omega)]
  rw [part q (2^(d+1)) s dir _ hp2 hqS (by
   have:2^(d+1)+2^(d+1)=2^(d+2):=by rw [Nat.pow_succ 2 (d+1)];omega
   rw [this];exact NK (k:=d+3) (Nat.pow_lt_pow_right (by decide) (by omega)) (by omega)) hqq (by omega) (by omega) (NK (k:=bl q+1) (by
    have h1:=Nat.div_le_self q (2^(d+1));have h2:=hqb.2.1;have h3:2^(bl q+1)=2^bl q*2:=Nat.pow_succ ..
    generalize q/2^(d+1)=y at *;omega) (by omega)),sB]
  congr 2
  have e1:bl M - b=d+1+tz M:=by omega
  have e2:e+(tz M:Int)+((d+1:Nat):Int)=e+((bl M - b:Nat):Int):=by omega
  rw [e2]
  refine NN _ _ hp2 (Nat.two_pow_pos _) ?_
  rw [e1,Nat.pow_add]
  generalize tz M=z at *
  rw [hq]
  simp only [Nat.mul_assoc,Nat.mul_comm,Nat.mul_left_comm]
end Go.Proofs.Pq
