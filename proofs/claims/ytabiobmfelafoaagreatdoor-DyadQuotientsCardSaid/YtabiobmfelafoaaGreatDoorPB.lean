import Derived.Test.YtabiobmfelafoaaGreatDoorPA
namespace Go.Proofs.Pq
set_option linter.unusedVariables false
set_option linter.unusedSimpArgs false
set_option maxRecDepth 4000
open Go.Proofs Go.Sb Go.Proofs.Sbn Go.Proofs.Lf
theorem rn5 (s:Bool) (N D:Nat) (e:Int):rn s N D e 5=nz s (if s=true then N/D+(if N%D=0 then 0 else 1) else N/D) e:=by
 unfold rn;rw [up5]
 by_cases h:N%D=0<;>cases s<;>simp [h]
theorem rn4 (s:Bool) (N D:Nat) (e:Int):rn s N D e 4=nz s (if s=true then N/D else N/D+(if N%D=0 then 0 else 1)) e:=by
 unfold rn;rw [up4]
 by_cases h:N%D=0<;>cases s<;>simp [h]
theorem MY {n m:Nat} : (Z false n≤Z false m↔n≤m)∧(Z true n≤Z true m↔m≤n):=by
 constructor<;>simp only [Z,if_true,Bool.false_eq_true,if_false]<;>omega
theorem Z_tf (n m:Nat):Z true n≤Z false m:=by simp only [Z,if_true,Bool.false_eq_true,if_false];omega
theorem Ot {s:Bool} {n:Nat} (h:n≠0):(0≤Z s n↔s=false)∧(Z s n≤0↔s=true):=by
 cases s<;>simp only [Z,if_true,Bool.false_eq_true,if_false]<;>constructor<;>simp<;>omega
theorem isR_mono {b:Nat} {dir:Int} {s t:Bool} {n d n' d':Nat} {r r':Ao} (hb:1≤b) (hdir:dir=5∨dir=4) (h:IsR b dir s n d r) (h':IsR b dir t n' d' r')
  (hd:d≠0) (hd':d'≠0) (hle:Z s n*d'≤Z t n' * d):LeV r r':=by
 have hz0:∀s,Z s 0=0:=by intro s;cases s<;>rfl
 have hnzz:∀s e,nz s 0 e=⟨⟨false,0⟩,0⟩:=fun s e=>rfl
 have hrn:∀(s:Bool) (N D:Nat) (e:Int),∃M,rn s N D e dir=nz s M e∧N/D≤M:=fun s N D e=>⟨_,rfl,Nat.le_add_right _ _⟩
 rcases h with ⟨h0,hr⟩ | ⟨h0,u,v,hr,h1,h2,hu,hv⟩<;>rcases h' with ⟨h0',hr'⟩ | ⟨h0',u',v',hr',h1',h2',hu',hv'⟩
 ·rw [hr,hr']
  intro i j _
  show Z false 0*_≤Z false 0*_
  rw [hz0,Int.zero_mul,Int.zero_mul];exact Int.le_refl _
 ·subst h0
  obtain ⟨M,hM,_⟩:=hrn t (n' * 2^u') (d' * 2^v') ((v':Int) - u')
  rw [hz0,Int.zero_mul,(JE t (Nat.pos_of_ne_zero hd)).1,(Ot h0').1] at hle
  rw [hr,hr',hM,←hnzz false ((v':Int) - u'),hle]
  refine JH (i:=0) (j:=0) (by omega) ?_
  rw [hz0,Int.zero_mul]
  exact (JE false (Nat.two_pow_pos 0)).1.2 (by simp [Z])
 ·subst h0'
  obtain ⟨M,hM,_⟩:=hrn s (n*2^u) (d*2^v) ((v:Int) - u)
  rw [hz0,Int.zero_mul,(JE s (Nat.pos_of_ne_zero hd')).2,(Ot h0).2] at hle
  rw [hr,hr',hM,←hnzz false ((v:Int) - u),hle]
  refine JH (i:=0) (j:=0) (by omega) ?_
  rw [hz0,Int.zero_mul]
  exact (JE true (Nat.two_pow_pos 0)).2.2 (by simp [Z])
 ·obtain ⟨i,j,hij⟩:∃i j:Nat,((v:Int) - u) - ((v':Int) - u')=(i:Int) - j:=⟨v+u',v' + u,by omega⟩
  have hD:0<d*2^v:=Nat.mul_pos (by omega) (Nat.two_pow_pos _)
  have hD':0<d' * 2^v':=Nat.mul_pos (by omega) (Nat.two_pow_pos _)
  rw [←Gj,←Gj] at hle
  have hkey:∀ {x y:Nat},x*d'≤y*d→x*2^u*(d' * 2^v')*2^(u' + v)≤y*2^u' * (d*2^v)*2^(u+v'):=by
   intro x y hxy
   calc x*2^u*(d' * 2^v')*2^(u' + v)=x*d' * (2^u*2^v' * 2^u' * 2^v):=by rw [Nat.pow_add];simp only [Nat.mul_assoc,Nat.mul_comm,Nat.mul_left_comm]
    _≤y*d*(2^u*2^v' * 2^u' * 2^v):=Nat.mul_le_mul_right _ hxy
    _=y*2^u' * (d*2^v)*2^(u+v'):=by rw [Nat.pow_add];simp only [Nat.mul_assoc,Nat.mul_comm,Nat.mul_left_comm]
  have hkey':∀ {x y:Nat},x*d≤y*d'→x*2^u' * (d*2^v)*2^(u+v')≤y*2^u*(d' * 2^v')*2^(u' + v):=by
   intro x y hxy
   calc x*2^u' * (d*2^v)*2^(u+v')=x*d*(2^u*2^v' * 2^u' * 2^v):=by rw [Nat.pow_add];simp only [Nat.mul_assoc,Nat.mul_comm,Nat.mul_left_comm]
    _≤y*d' * (2^u*2^v' * 2^u' * 2^v):=Nat.mul_le_mul_right _ hxy
    _=y*2^u*(d' * 2^v')*2^(u' + v):=by rw [Nat.pow_add];simp only [Nat.mul_assoc,Nat.mul_comm,Nat.mul_left_comm]
  cases s
  ·cases t
   ·have hm:=LI (k:=u' + v) (k':=u+v') hD hD' (by omega) h1 h2 h1' h2' (by omega) (hkey (MY.1.1 hle)) hij
    rw [hr,hr']
    rcases hdir with rfl | rfl
    ·rw [rn5,rn5];refine JH hij ?_
     rw [←Gj,←Gj];exact MY.1.2 hm.1
    ·rw [rn4,rn4];refine JH hij ?_
     rw [←Gj,←Gj];exact MY.1.2 hm.2
   ·exfalso
    have:0<n*d':=Nat.mul_pos (by omega) (by omega)
    have:0<n' * d:=Nat.mul_pos (by omega) (by omega)
    simp only [Z,if_true,Bool.false_eq_true,if_false] at hle
    omega
  ·cases t
   ·obtain ⟨M,hM,_⟩:=hrn true (n*2^u) (d*2^v) ((v:Int) - u)
    obtain ⟨M',hM',_⟩:=hrn false (n' * 2^u') (d' * 2^v') ((v':Int) - u')
    rw [hr,hr',hM,hM']
    refine JH hij ?_
    rw [←Gj,←Gj];exact Z_tf _ _
   ·have hm:=LI (k:=u+v') (k':=u' + v) (e:=(v':Int) - u') (e':=(v:Int) - u) hD' hD (by omega) h1' h2' h1 h2 (by omega) (hkey' (MY.2.1 hle)) (i:=j) (j:=i) (by omega)
    rw [hr,hr']
    rcases hdir with rfl | rfl
    ·rw [rn5,rn5];refine JH hij ?_
     rw [←Gj,←Gj];exact MY.2.2 hm.2
    ·rw [rn4,rn4];refine JH hij ?_
     rw [←Gj,←Gj];exact MY.2.2 hm.1
theorem II {b:Nat} {dir:Int} {s:Bool} {n d:Nat} {r:Ao} (hb':b≤10000) (h:IsR b dir s n d r) :
  bl r.m.Abs≤20000∧-1000000≤r.e∧r.e≤1000000∧∃s M e,r=nz s M e:=by
 rcases h with ⟨h0,hr⟩ | ⟨h0,u,v,hr,h1,h2,hu,hv⟩
 ·subst hr;exact ⟨by simp [GU],by simp,by simp,false,0,0,rfl⟩
 ·subst hr
  have hM:∀M:Nat,M≤2^b→bl (nz s M ((v:Int) - u)).m.Abs≤20000∧-1000000≤(nz s M ((v:Int) - u)).e∧(nz s M ((v:Int) - u)).e≤1000000:=by
   intro M hM
   have hbM:bl M≤b+1:=by
    rw [Dp,Nat.pow_succ];have:=Nat.two_pow_pos b;omega
   unfold nz
   by_cases h0:M=0
   ·rw [if_pos h0];exact ⟨by simp [GU],by simp,by simp⟩
   ·rw [if_neg h0]
    obtain ⟨m,_,h3⟩:=GJ h0
    have:=Jn M (2^tz M)
    simp only
    omega
  have hup:∀c:Bool,n*2^u/(d*2^v)+(if c=true then 1 else 0)≤2^b:=by
   intro c
   refine Nat.le_trans (Nat.add_le_add_left (m:=1) ?_ _) h1
   cases c<;>simp
  obtain ⟨a1,a2,a3⟩:=hM _ (hup _)
  exact ⟨a1,a2,a3,_,_,_,rfl⟩
end Go.Proofs.Pq
namespace Go.Proofs.Pq
set_option linter.unusedVariables false
set_option linter.unusedSimpArgs false
set_option maxRecDepth 4000
open Go.Proofs Go.Sb Go.Proofs.Sbn Go.Proofs.Lf
theorem Od (x y:Ao) (hx:bl x.m.Abs≤20000) (hy:bl y.m.Abs≤20000) (h1 : -1000000≤x.e) (h2:x.e≤1000000) (h3 : -1000000≤y.e) (h4:y.e≤1000000) :
  ∃c,BC x y=some c∧(¬c<0↔LeV y x)∧(¬0<c↔LeV x y):=by
 obtain ⟨⟨s,n⟩,e⟩:=x
 obtain ⟨⟨t,m⟩,f⟩:=y
 obtain ⟨c,hc,h⟩:=cmp s t n m e f hx hy h1 h2 h3 h4
 refine ⟨c,hc,?_,?_⟩
 ·constructor
  ·intro hh i j hij
   have:=(h j i (by simp only at hij;omega)).1
   exact Int.not_lt.1 fun h5=>hh (this.2 h5)
  ·intro hh
   have h5:=hh (f - e).toNat (-(f - e)).toNat (by simp only;omega)
   have:=(h (-(f - e)).toNat (f - e).toNat (by omega)).1
   rw [this]
   exact Int.not_lt.2 h5
 ·constructor
  ·intro hh i j hij
   have:=(h i j hij).2
   exact Int.not_lt.1 fun h5=>hh (this.2 h5)
  ·intro hh
   have h5:=hh (e - f).toNat (-(e - f)).toNat (by simp only;omega)
   have:=(h (e - f).toNat (-(e - f)).toNat (by omega)).2
   rw [this]
   exact Int.not_lt.2 h5
def PR (b:Nat) (dir:Int) (q:Bool × Nat × Nat) (r:Ao):Prop:=
 q.2.2≠0∧bl q.2.1≤30000∧bl q.2.2≤30000∧IsR b dir q.1 q.2.1 q.2.2 r∧BO ⟨⟨q.1,q.2.1⟩,q.2.2⟩ (b:Int) dir=some (toD r)
theorem PR.le {b:Nat} {dir:Int} {q q':Bool × Nat × Nat} {r r':Ao} (hb:1≤b) (hdir:dir=5∨dir=4) (h:PR b dir q r) (h':PR b dir q' r') (hle:Z q.1 q.2.1*q'.2.2≤Z q'.1 q'.2.1*q.2.2):LeV r r':=
 isR_mono hb hdir h.2.2.2.1 h'.2.2.2.1 h.1 h'.1 hle
theorem LP {b b':Nat} {dir dir':Int} {q q':Bool × Nat × Nat} {r r':Ao} (hb':b≤10000) (hb2:b'≤10000) (h:PR b dir q r) (h':PR b' dir' q' r') (h1:LeV r r') (h2:LeV r' r):r=r':=by
 obtain ⟨_,_,_,s,M,e,rfl⟩:=II hb' h.2.2.2.1
 obtain ⟨_,_,_,s',M',e',rfl⟩:=II hb2 h'.2.2.2.1
 exact nz_eq h1 h2
theorem LC {b:Nat} {q q':Bool × Nat × Nat} {r r':Ao} (hb:1≤b) (hb':b≤10000) (h:PR b 5 q r) (h':PR b 5 q' r') :
  ∃k c,Bh ⟨⟨q'.1,q'.2.1⟩,q'.2.2⟩ ⟨⟨q.1,q.2.1⟩,q.2.2⟩=some k∧BC r' r=some c∧PR b 5 (if k<0 then q' else q) (if c<0 then r' else r):=by
 obtain ⟨k,hk,k1,k2⟩:=Na q'.1 q.1 q'.2.1 q'.2.2 q.2.1 q.2.2 h'.2.1 h'.2.2.1 h.2.1 h.2.2.1
 have b1:=II hb' h.2.2.2.1
 have b2:=II hb' h'.2.2.2.1
 obtain ⟨c,hc,c1,c2⟩:=Od r' r b2.1 b1.1 b2.2.1 b2.2.2.1 b1.2.1 b1.2.2.1
 refine ⟨k,c,hk,hc,?_⟩
 by_cases hk0:k<0
 ·have hl:=h'.le hb (Or.inl rfl) h (Int.le_of_lt (k1.1 hk0))
  rw [if_pos hk0]
  by_cases hc0:c<0
  ·rw [if_pos hc0];exact h'
  ·rw [if_neg hc0,LP hb' hb' h h' (c1.1 hc0) hl];exact h'
 ·have hl:=h.le hb (Or.inl rfl) h' (Int.not_lt.1 fun hh=>hk0 (k1.2 hh))
  rw [if_neg hk0,if_neg (c1.2 hl)];exact h
theorem LD {b:Nat} {q q':Bool × Nat × Nat} {r r':Ao} (hb:1≤b) (hb':b≤10000) (h:PR b 4 q r) (h':PR b 4 q' r') :
  ∃k c,Bh ⟨⟨q'.1,q'.2.1⟩,q'.2.2⟩ ⟨⟨q.1,q.2.1⟩,q.2.2⟩=some k∧BC r' r=some c∧PR b 4 (if 0<k then q' else q) (if 0<c then r' else r):=by
 obtain ⟨k,hk,k1,k2⟩:=Na q'.1 q.1 q'.2.1 q'.2.2 q.2.1 q.2.2 h'.2.1 h'.2.2.1 h.2.1 h.2.2.1
 have b1:=II hb' h.2.2.2.1
 have b2:=II hb' h'.2.2.2.1
 obtain ⟨c,hc,c1,c2⟩:=Od r' r b2.1 b1.1 b2.2.1 b2.2.2.1 b1.2.1 b1.2.2.1
 refine ⟨k,c,hk,hc,?_⟩
 by_cases hk0:0<k
 ·have hl:=h.le hb (Or.inr rfl) h' (Int.le_of_lt (k2.1 hk0))
  rw [if_pos hk0]
  by_cases hc0:0<c
  ·rw [if_pos hc0];exact h'
  ·rw [if_neg hc0,LP hb' hb' h h' hl (c2.1 hc0)];exact h'
 ·have hl:=h'.le hb (Or.inr rfl) h (Int.not_lt.1 fun hh=>hk0 (k2.2 hh))
  rw [if_neg hk0,if_neg (c2.2 hl)];exact h
end Go.Proofs.Pq
namespace Go.Proofs.Pq
set_option linter.unusedVariables false
set_option linter.unusedSimpArgs false
set_option maxRecDepth 4000
open Go.Proofs Go.Sb Go.Proofs.Sbn Go.Proofs.Lf
structure Ok (x:Aj):Prop where
 c:Cs x.Man.Neg x.Man.Abs
 s:bl x.Man.Abs≤20000
 l : -5000≤x.Exp
 u:x.Exp≤5000
theorem pair (x y:Aj) (b:Nat) (hb:1≤b) (hb':b≤10000) (hx:Ok x) (hy:Ok y) (h0:y.Man.Abs≠0) :
  ∃q r5 r4,BE x y=some ⟨⟨q.1,q.2.1⟩,q.2.2⟩∧Ct ⟨x.Man,x.Exp⟩ ⟨y.Man,y.Exp⟩ (b:Int) 5=some r5∧
   Ct ⟨x.Man,x.Exp⟩ ⟨y.Man,y.Exp⟩ (b:Int) 4=some r4∧PR b 5 q r5∧PR b 4 q r4:=by
 obtain ⟨⟨s,n⟩,e⟩:=x
 obtain ⟨⟨t,d⟩,f⟩:=y
 obtain ⟨n',d',i,j,hq,h1,h2,h3,h4,h5,h6⟩:=refQuot s t n d e f hx.c h0 hx.s hy.s hx.l hx.u hy.l hy.u
 obtain ⟨r5,a1,a2,a3⟩:=MH s t n d n' d' i j e f b 5 _ rfl h0 hb hb' hx.s hy.s hx.l hx.u hy.l hy.u h1 h2 h3 h4 h5 h6
 obtain ⟨r4,b1,b2,b3⟩:=MH s t n d n' d' i j e f b 4 _ rfl h0 hb hb' hx.s hy.s hx.l hx.u hy.l hy.u h1 h2 h3 h4 h5 h6
 exact ⟨(_,n',d'),r5,r4,hq,a1,b1,⟨h1,h5,h6,a3,a2⟩,⟨h1,h5,h6,b3,b2⟩⟩
theorem pick3 {p:Prop} [Decidable p] (q q':Bool × Nat × Nat):(if p then some (q'.1,q'.2.1,q'.2.2) else some (q.1,q.2.1,q.2.2))=some (if p then q' else q):=by split<;>rfl
theorem pickn {p:Prop} [Decidable p] (r r':Ao):(if p then some (r'.m.Neg,r'.m.Abs,r'.e) else some (r.m.Neg,r.m.Abs,r.e))=some ((if p then r' else r).m.Neg,(if p then r' else r).m.Abs,(if p then r' else r).e):=by split<;>rfl
theorem LR (b:Nat) (dir:Int) (q:Bool × Nat × Nat) (r:Ao) (hb':b≤10000) (h:PR b dir q r):∃c,BC r r=some c:=by
 have b1:=II hb' h.2.2.2.1
 obtain ⟨c,hc,_⟩:=Od r r b1.1 b1.1 b1.2.1 b1.2.2.1 b1.2.1 b1.2.2.1
 exact ⟨c,hc⟩
theorem MC {p:Prop} [Decidable p]:(if p then some () else some ())=some ():=by split<;>rfl
def Cb (r:Ao):Prop:=bl r.m.Abs≤20000∧-1000000≤r.e∧r.e≤1000000∧∃s M e,r=nz s M e
theorem over (x y:Am) (b:Nat) (X Y:Av) (hb:1≤b) (hb':b≤10000) (h1:Ok x.Lo) (h2:Ok x.Hi) (h3:Ok y.Lo) (h4:Ok y.Hi) (h5:y.Lo.Man.Abs≠0) (h6:y.Hi.Man.Abs≠0) :
  ∃lo hi,((FL X Y (b:Int) ⟨x.Lo.Man,x.Lo.Exp⟩ ⟨y.Lo.Man,y.Lo.Exp⟩).bind fun s84=>
   (BX X Y (b:Int) s84 ⟨x.Lo.Man,x.Lo.Exp⟩ ⟨y.Hi.Man,y.Hi.Exp⟩).bind fun s85=>
   (BX X Y (b:Int) s85 ⟨x.Hi.Man,x.Hi.Exp⟩ ⟨y.Lo.Man,y.Lo.Exp⟩).bind fun s86=>
   (BX X Y (b:Int) s86 ⟨x.Hi.Man,x.Hi.Exp⟩ ⟨y.Hi.Man,y.Hi.Exp⟩))=some ⟨lo,hi⟩∧Fa x y (b:Int)=some ⟨toD lo,toD hi⟩∧Cb lo∧Cb hi:=by
 obtain ⟨q1,l1,u1,a1,a2,a3,a4,a5⟩:=pair x.Lo y.Lo b hb hb' h1 h3 h5
 obtain ⟨q2,l2,u2,b1,b2,b3,b4,b5⟩:=pair x.Lo y.Hi b hb hb' h1 h4 h6
 obtain ⟨q3,l3,u3,c1,c2,c3,c4,c5⟩:=pair x.Hi y.Lo b hb hb' h2 h3 h5
 obtain ⟨q4,l4,u4,d1,d2,d3,d4,d5⟩:=pair x.Hi y.Hi b hb hb' h2 h4 h6
 obtain ⟨k2,e2,hk2,he2,hp2⟩:=LC hb hb' a4 b4
 obtain ⟨m2,f2,hm2,hf2,hg2⟩:=LD hb hb' a5 b5
 obtain ⟨k3,e3,hk3,he3,hp3⟩:=LC hb hb' hp2 c4
 obtain ⟨m3,f3,hm3,hf3,hg3⟩:=LD hb hb' hg2 c5
 obtain ⟨k4,e4,hk4,he4,hp4⟩:=LC hb hb' hp3 d4
 obtain ⟨m4,f4,hm4,hf4,hg4⟩:=LD hb hb' hg3 d5
 obtain ⟨z1,hz1⟩:=LR b 5 _ _ hb' a4
 obtain ⟨z2,hz2⟩:=LR b 4 _ _ hb' a5
 refine ⟨if e4<0 then l4 else if e3<0 then l3 else if e2<0 then l2 else l1,if 0<f4 then u4 else if 0<f3 then u3 else if 0<f2 then u2 else u1,?_,?_,II hb' hp4.2.2.2.1,II hb' hg4.2.2.2.1⟩
 ·unfold FL
  rw [a2,sB,a3,sB,hz1,sB,MC,sB,hz2,sB,MC,sB,sB]
  unfold BX
  simp only
  rw [b2,sB,b3,sB,he2,sB,pickn,sB,hf2,sB,pickn,sB,sB]
  simp only
  rw [c2,sB,c3,sB,he3,sB,pickn,sB,hf3,sB,pickn,sB,sB]
  simp only
  rw [d2,sB,d3,sB,he4,sB,pickn,sB,hf4,sB,pickn,sB]
 ·unfold Fa
  rw [a1,sB,b1,sB,c1,sB,d1,sB]
  simp only
  obtain rfl:k2=m2:=Option.some.inj (hk2.symm.trans hm2)
  rw [hk2,sB,pick3,sB,sB,pick3,sB]
  rw [hk3,sB,pick3,sB,hm3,sB,pick3,sB]
  rw [hk4,sB,pick3,sB,hm4,sB,pick3,sB]
  rw [hp4.2.2.2.2,sB,hg4.2.2.2.2,sB]
end Go.Proofs.Pq
namespace Go.Proofs.Pq
set_option linter.unusedVariables false
set_option linter.unusedSimpArgs false
set_option maxRecDepth 4000
open Go.Proofs Go.Sb Go.Proofs.Sbn Go.Proofs.Lf
theorem ML (x:Nat):∃s,s*s≤x∧x<(s+1)*(s+1):=by
 induction x with
 | zero=>exact ⟨0,by omega,by omega⟩
 | succ x ih=>
  obtain ⟨s,h1,h2⟩:=ih
  by_cases h:x+1<(s+1)*(s+1)
  ·exact ⟨s,by omega,h⟩
  ·refine ⟨s+1,by omega,?_⟩
   have e:(s+1+1)*(s+1+1)=(s+1)*(s+1)+2*s+3:=by simp only [Nat.add_mul,Nat.mul_add];omega
   omega
theorem Iy {a b:Nat} : a<b↔a*a<b*b:=by
 constructor
 ·intro h;exact Nat.mul_self_lt_mul_self h
 ·intro h;exact Nat.lt_of_not_le fun h2=>by have:=Nat.mul_le_mul h2 h2;omega
theorem newton (x s:Nat) (hx:Sm x) (hx0:x≠0) (h1:s*s≤x) (h2:x<(s+1)*(s+1)) :
  ∀(n f y:Nat),f<n→y - s<2^f→s≤y→y≠0→Sm (y+y)→Sm (y+x)→EQ x n y=some (s,x - s*s):=by
 intro n
 induction n with
 | zero=>intro f y h;omega
 | succ n ih=>
  intro f y hf hd hs hy hys hyx
  have hyS:Sm y:=Gf (by omega) hys
  have hq:x/y≤x:=Nat.div_le_self _ _
  have hqm:=Nat.div_mul_le_self x y
  have hql:x<(x/y+1)*y:=by
   have:=Nat.div_add_mod x y
   have:=Nat.mod_lt x (Nat.pos_of_ne_zero hy)
   rw [Nat.add_mul,Nat.mul_comm (x/y)];omega
  unfold EQ
  rw [wDiv hx hyS hy,sB]
  simp only
  rw [wAdd hyS (Gf hq hx),sB,show (1:Int)=((1:Nat):Int) from rfl,wShr (Gf (by omega) hyx) (by decide),sB]
  have hzs:Sm ((y+x/y)/2^1):=Gf (Nat.div_le_self _ _) (Gf (Nat.add_le_add_left hq y) hyx)
  rw [wCmp hzs hyS,sB,Nat.pow_one]
  rw [Nat.pow_one] at hzs
  have hc:=@Iu ((y+x/y)/2) y
  generalize x/y=q at *
  by_cases hz:(y+q)/2<y
  ·rw [if_neg (by have:=hc.2 hz;omega)]
   have hys1:s<y:=by
    refine Nat.lt_of_le_of_ne hs fun h=>?_
    subst h
    have:q<s:=by omega
    have:(q+1)*s≤s*s:=Nat.mul_le_mul_right _ this
    omega
   have hqs:q≤s:=by
    refine Nat.le_of_not_lt fun h=>?_
    have:(s+1)*(s+1)≤q*y:=Nat.mul_le_mul h hys1
    omega
   obtain ⟨f,rfl⟩:∃g,f=g+1:=⟨f - 1,by
    cases f with
    | zero=>simp at hd;omega
    | succ f=>rfl⟩
   rw [Nat.pow_succ] at hd
   refine ih f _ (by omega) (by omega) ?_ ?_ (Gf (by omega) hys) (Gf (by omega) hyx)
   ·
    refine Nat.le_of_lt_succ (Iy.2 (Nat.lt_of_le_of_lt h1 ?_))
    show x<((y+q)/2+1)*((y+q)/2+1)
    have h3:y+(q+1)≤2*((y+q)/2+1):=by omega
    have h4:=Nat.mul_le_mul h3 h3
    have h5:4*((q+1)*y)≤(y+(q+1))*(y+(q+1)):=by
     generalize q+1=p
     rcases Nat.le_total y p with h | h
     ·obtain ⟨k,rfl⟩:=Nat.exists_eq_add_of_le h
      have:(y+(y+k))*(y+(y+k))=4*((y+k)*y)+k*k:=by grind
      omega
     ·obtain ⟨k,rfl⟩:=Nat.exists_eq_add_of_le h
      have:(p+k+p)*(p+k+p)=4*(p*(p+k))+k*k:=by grind
      omega
    have h6:2*((y+q)/2+1)*(2*((y+q)/2+1))=4*(((y+q)/2+1)*((y+q)/2+1)):=by
     generalize (y+q)/2+1=z;grind
    omega
   ·by_cases hy1:y=1
    ·subst hy1;simp at hqm hql;omega
    ·omega
  ·rw [if_pos (by
    have:¬cmpw ((y+q)/2) y<0:=fun h=>hz (hc.1 h)
    omega)]
   have hyq:y≤q:=by omega
   have hyy:y*y≤x:=Nat.le_trans (Nat.mul_le_mul_right _ hyq) hqm
   have hsy:s=y:=by
    refine Nat.le_antisymm hs (Nat.le_of_lt_succ (Iy.2 (Nat.lt_of_le_of_lt hyy h2)))
   subst hsy
   rw [wMul hyS hyS,sB,wSub hx hyy,sB]
theorem wRoot (x s:Nat) (hx:bl x≤100000) (hx0:x≠0) (h1:s*s≤x) (h2:x<(s+1)*(s+1)):Gh x=some (s,x - s*s):=by
 have hxS:Sm x:=by unfold Sm;omega
 obtain ⟨b1,b2,b3⟩:=DY hx0
 have hw:wi64 (((wi64 ((bl x:Int)+1))).tdiv 2)=(((bl x+1)/2:Nat):Int):=by
  rw [w64n (x:=(bl x:Int)+1) (n:=bl x+1) (by omega) (by omega)]
  exact w64n (n:=(bl x+1)/2) rfl (by omega)
 have hk:bl x≤2*((bl x+1)/2):=by omega
 have hk2:(bl x+1)/2≤100000:=by omega
 unfold Gh
 simp only [sz0]
 rw [if_neg hx0,wBits hxS,sB,hw,wShl (k:=(bl x+1)/2) sm1 (by omega),sB,Nat.one_mul]
 generalize (bl x+1)/2=k at *
 have hp:=Nat.two_pow_pos k
 have hxk:x<2^k*2^k:=by
  rw [←Nat.pow_add];exact Nat.lt_of_lt_of_le b2 (Nat.pow_le_pow_right (by decide) (by omega))
 have hkk:2^(k+1)=2^k*2:=Nat.pow_succ ..
 have hkk2:2^(k+2)=2^k*4:=Nat.pow_add 2 k 2
 refine newton x s hxS hx0 h1 h2 _ (k+1) (2^k) (by omega) (by omega) (Nat.le_of_lt (Iy.2 (Nat.lt_of_le_of_lt h1 hxk))) (by omega) ?_ ?_
 ·exact JD (k:=k+2) (by omega) (by omega)
 ·exact JD (k:=k+bl x+1) (by
   have a1:2^k≤2^(k+bl x):=Nat.pow_le_pow_right (by decide) (by omega)
   have a2:2^bl x≤2^(k+bl x):=Nat.pow_le_pow_right (by decide) (by omega)
   have a3:2^(k+bl x+1)=2^(k+bl x)*2:=Nat.pow_succ ..
   omega) (by omega)
end Go.Proofs.Pq
namespace Go.Proofs.Pq
set_option linter.unusedVariables false
set_option linter.unusedSimpArgs false
set_option maxRecDepth 4000
open Go.Proofs Go.Sb Go.Proofs.Sbn Go.Proofs.Lf
theorem sm_sq {y:Nat} (h:bl y≤100000):Sm (y*y):=
 JD (k:=bl y+bl y) (by rw [Nat.pow_add];exact Nat.mul_lt_mul'' (Dp.1 (Nat.le_refl _)) (Dp.1 (Nat.le_refl _))) (by omega)
theorem above (y x:Nat) (hy:bl y≤100000) (hx:Sm x):Ed y 2 x=some (decide (x<y*y)):=by
 have hyS:Sm y:=by unfold Sm;omega
 have hg:∀a b:Nat,(0<sgnc a b↔b<a):=by intro a b;unfold sgnc;split<;>(try split)<;>omega
 unfold Ed
 obtain ⟨f,hf⟩:∃f,18446744073709551616=f+1+1+1:=⟨18446744073709551613,rfl⟩
 rw [hf]
 unfold CK
 rw [if_pos (by decide),rMul sm1 hyS,sB,Nat.one_mul,rCmp hyS hx,sB]
 by_cases h1:x<y
 ·rw [if_pos ((hg _ _).2 h1),decide_eq_true]
  exact Nat.lt_of_lt_of_le h1 (Nat.le_mul_self y)
 ·rw [if_neg (fun h=>h1 ((hg _ _).1 h)),show wi64 (0+1)=1 from by decide]
  unfold CK
  rw [if_pos (by decide),rMul hyS hyS,sB,rCmp (sm_sq hy) hx,sB]
  by_cases h2:x<y*y
  ·rw [if_pos ((hg _ _).2 h2),decide_eq_true h2]
  ·rw [if_neg (fun h=>h2 ((hg _ _).1 h)),show wi64 (1+1)=2 from by decide]
   unfold CK
   rw [if_neg (by decide),decide_eq_false h2]
theorem pow2 (y:Nat) (hy:bl y≤16000):Fh y 2=some (y*y,true):=by
 have hyS:Sm y:=by unfold Sm;omega
 have hfit:∀z,bl z≤32000→EW z=some true:=by
  intro z hz
  unfold EW
  have:Sbn.sz z≤1000:=Iw (by omega)
  rw [decide_eq_true (by omega)]
 have hyy:bl (y*y)≤32000:=by have:=MJ y y;omega
 unfold Fh
 simp only [sz0]
 rw [if_neg (by decide),same y 1 hyS,sB,sB]
 by_cases h1:y=1
 ·subst h1;rfl
 ·simp only [decide_eq_true_eq]
  rw [if_neg h1]
  by_cases h0:y=0
  ·subst h0;rfl
  ·rw [if_neg h0]
   obtain ⟨f,hf⟩:∃f,18446744073709551616=f+1+1+1:=⟨18446744073709551613,rfl⟩
   rw [hf]
   unfold Da
   rw [if_pos (by decide),rMul sm1 hyS,sB,Nat.one_mul,hfit y (by omega),sB,if_neg (by decide),show wi64 (0+1)=1 from by decide]
   unfold Da
   rw [if_pos (by decide),rMul hyS hyS,sB,hfit _ hyy,sB,if_neg (by decide),show wi64 (1+1)=2 from by decide]
   unfold Da
   rw [if_neg (by decide)]
theorem bits_l (x s:Nat) (hx:Sm x) (h1:s*s≤x) (h2:x<(s+1)*(s+1)) (hs:bl s≤16000) :
  ∀(k n y:Nat),k≤50000→k+1<n→y≤s→s<y+2^(k+1)→BG x 2 n y (k:Int)=some s:=by
 intro k
 have hstep:∀(k n y:Nat),k≤50000→y≤s→s<y+2^(k+1)→∃y',BG x 2 (n+1) y (k:Int)=BG x 2 n y' ((k:Int) - 1)∧y'≤s∧s<y' + 2^k:=by
  intro k n y hk hy hlt
  have hp:2^(k+1)=2^k*2:=Nat.pow_succ ..
  have hyb:bl y≤16000:=Nat.le_trans (Dp.2 (Nat.lt_of_le_of_lt hy (Dp.1 (Nat.le_refl _)))) hs
  have hyS:Sm y:=by unfold Sm;omega
  have h2k:Sm (2^k):=JD (k:=k+1) (by rw [hp];have:=Nat.two_pow_pos k;omega) (by omega)
  have hpk:bl (2^k)≤66000:=by
   have:bl (2^k)≤k+1:=Dp.2 (Nat.pow_lt_pow_right (by decide) (by omega))
   omega
  have hsum:bl (y+2^k)≤66001:=MT (by omega) hpk
  rw [show BG x 2 (n+1) y (k:Int)=(if 0≤(k:Int) then (AJ 1 (k:Int)).bind fun r479=>
    (Bb y r479).bind fun r487=>(Ed r487 2 x).bind fun r496=>
    (if ¬(r496=true) then some (r487) else some (y)).bind fun m507=>BG x 2 n m507 (wi64 ((k:Int) - 1)) else some y) from rfl]
  rw [if_pos (by omega),rShl sm1 (by omega),sB,Nat.one_mul,rAdd hyS h2k,sB,above _ _ (by omega) hx,sB,w64 (x:=(k:Int) - 1) (by omega) (by omega)]
  by_cases h:x<(y+2^k)*(y+2^k)
  ·rw [decide_eq_true h]
   refine ⟨y,rfl,hy,?_⟩
   exact Iy.2 (Nat.lt_of_le_of_lt h1 h)
  ·rw [decide_eq_false h]
   refine ⟨y+2^k,rfl,?_,by omega⟩
   exact Nat.le_of_lt_succ (Iy.2 (Nat.lt_of_le_of_lt (Nat.le_of_not_lt h) h2))
 induction k with
 | zero=>
  intro n y hk hn hy hlt
  obtain ⟨n,rfl⟩:∃m,n=m+1+1:=⟨n - 2,by omega⟩
  obtain ⟨y',e,a1,a2⟩:=hstep 0 (n+1) y hk hy hlt
  rw [e]
  unfold BG
  rw [if_neg (by omega)]
  congr 1
  omega
 | succ k ih=>
  intro n y hk hn hy hlt
  obtain ⟨n,rfl⟩:∃m,n=m+1:=⟨n - 1,by omega⟩
  obtain ⟨y',e,a1,a2⟩:=hstep (k+1) n y hk hy hlt
  rw [e,show ((k+1:Nat):Int) - 1=(k:Int) by omega]
  exact ih n y' (by omega) (by omega) a1 a2
end Go.Proofs.Pq
namespace Go.Proofs.Pq
set_option linter.unusedVariables false
set_option linter.unusedSimpArgs false
set_option maxRecDepth 4000
open Go.Proofs Go.Sb Go.Proofs.Sbn Go.Proofs.Lf
theorem rRoot (x s:Nat) (hx:bl x≤30000) (h1:s*s≤x) (h2:x<(s+1)*(s+1)):EZ x 2=some ⟨s,x - s*s⟩:=by
 have hxS:Sm x:=by unfold Sm;omega
 have hsg:sgnc x 1≤0↔x≤1:=by unfold sgnc;split<;>(try split)<;>omega
 unfold EZ
 rw [rCmp hxS sm1,sB]
 by_cases hx1:x≤1
 ·rw [if_pos (hsg.2 hx1)]
  have hs:s=x:=by
   rcases Nat.lt_or_ge x 1 with h | h
   ·have:s<1:=Iy.2 (by omega)
    omega
   ·have:s<2:=Iy.2 (by omega)
    have:0<s:=Nat.pos_of_ne_zero fun h0=>by subst h0;omega
    omega
  subst hs
  have:s*s=s:=by
   rcases Nat.lt_or_ge s 1 with h | h
   ·have:s=0:=by omega
    subst this;rfl
   ·have:s=1:=by omega
    subst this;rfl
  rw [this,Nat.sub_self]
 ·rw [if_neg (fun h=>hx1 (hsg.1 h)),rBits hxS,sB]
  by_cases hb:bl x≤2
  ·rw [if_pos (by omega),rSub hxS (by omega),sB]
   have hx4:x<2^2:=Dp.1 hb
   have hs1:s<2:=Iy.2 (by omega)
   have hs0:0<s:=Nat.pos_of_ne_zero fun h0=>by subst h0;omega
   have:s=1:=by omega
   subst this;rfl
  ·have hs2:s<2^(bl x/2+1):=by
    refine Iy.2 (Nat.lt_of_le_of_lt h1 (Nat.lt_of_lt_of_le (Dp.1 (Nat.le_refl _)) ?_))
    rw [←Nat.pow_add];exact Nat.pow_le_pow_right (by decide) (by omega)
   have hsb:bl s≤16000:=Nat.le_trans (Dp.2 hs2) (by omega)
   have hw:wi64 (((bl x:Int)).tdiv 2)=((bl x/2:Nat):Int):=w64n (n:=bl x/2) rfl (by omega)
   rw [if_neg (by omega),sB,gdB (by decide),hw,bits_l x s hxS h1 h2 hsb (bl x/2) _ 0 (by omega) (by omega) (by omega) (by omega),sB,pow2 s hsb,sB]
   simp only
   rw [rSub hxS h1,sB]
theorem sticky {s:Bool} {a c h st P:Nat} {e dir:Int} (hh:0<h) (hc:c<P) (hst:st=if c=0 then 0 else 1) :
  rn s (P*a+c) (P*(2*h)) e dir=rn s (2*a+st) (2*(2*h)) e dir:=by
 have hP:0<P:=by omega
 have hst1:st<2:=by rw [hst];split<;>omega
 have q1:(P*a+c)/(P*(2*h))=a/(2*h):=by
  rw [←Nat.div_div_eq_div_mul,Nat.mul_add_div hP,Nat.div_eq_of_lt hc,Nat.add_zero]
 have q2:(2*a+st)/(2*(2*h))=a/(2*h):=by
  rw [←Nat.div_div_eq_div_mul,Nat.mul_add_div (by decide),Nat.div_eq_of_lt hst1,Nat.add_zero]
 have r1:(P*a+c)%(P*(2*h))=c+P*(a%(2*h)):=by
  rw [Nat.mod_mul,Nat.mul_add_mod,Nat.mod_eq_of_lt hc,Nat.mul_add_div hP,Nat.div_eq_of_lt hc,Nat.add_zero]
 have r2:(2*a+st)%(2*(2*h))=st+2*(a%(2*h)):=by
  rw [Nat.mod_mul,Nat.mul_add_mod,Nat.mod_eq_of_lt hst1,Nat.mul_add_div (by decide),Nat.div_eq_of_lt hst1,Nat.add_zero]
 unfold rn
 rw [q1,q2,r1,r2]
 generalize a%(2*h)=r
 have hz:(c+P*r=0)=(st+2*r=0):=by
  apply propext
  have hp0:P*r=0↔r=0:=by
   constructor
   ·intro h;rcases Nat.mul_eq_zero.1 h with h | h<;>omega
   ·intro h;rw [h,Nat.mul_zero]
  have:st=0↔c=0:=by rw [hst];split<;>simp_all
  omega
 have hs:sgnc (2*(c+P*r)) (P*(2*h))=sgnc (2*(st+2*r)) (2*(2*h)):=by
  rw [show 2*(c+P*r)=(c+P*r)*2 from Nat.mul_comm _ _,show P*(2*h)=P*h*2 by rw [Nat.mul_comm 2 h,Nat.mul_assoc],JU (by decide)]
  have hlt:r<h→c+P*r<P*h:=by
   intro hr
   have:P*(r+1)≤P*h:=Nat.mul_le_mul_left _ hr
   rw [Nat.mul_add] at this;omega
  have hgt:h<r→P*h<c+P*r:=by
   intro hr
   have:P*(h+1)≤P*r:=Nat.mul_le_mul_left _ hr
   rw [Nat.mul_add] at this;omega
  have h0:st=0↔c=0:=by rw [hst];split<;>simp_all
  unfold sgnc
  rcases Nat.lt_trichotomy r h with hr | hr | hr
  ·have:=hlt hr
   rw [if_pos this,if_pos (by omega)]
  ·subst hr
   by_cases hc0:c=0
   ·have:=h0.2 hc0
    subst hc0 this
    simp
   ·have:st≠0:=fun h=>hc0 (h0.1 h)
    rw [if_neg (by omega),if_pos (by omega),if_neg (by omega),if_pos (by omega)]
  ·have:=hgt hr
   rw [if_neg (by omega),if_pos this,if_neg (by omega),if_pos (by omega)]
 rw [hs]
 simp only [hz]
end Go.Proofs.Pq
namespace Go.Proofs.Pq
set_option linter.unusedVariables false
set_option linter.unusedSimpArgs false
set_option maxRecDepth 4000
open Go.Proofs Go.Sb Go.Proofs.Sbn Go.Proofs.Lf
def RT (X s b:Nat) (e dir:Int):Ao:=
 rn false (2*s+(if X - s*s=0 then 0 else 1)) (2^(bl s+1 - b)) (e+((bl s - b:Nat):Int)) dir
theorem Ls {n k:Nat} (h:n≠0):bl (n*2^k)=bl n+k:=by
 obtain ⟨h1,h2,h3⟩:=DY h
 refine Nat.le_antisymm (JM n k) ?_
 refine Nat.le_of_not_lt fun h4=>?_
 have h5:n*2^k<2^(bl n+k - 1):=Dp.1 (by omega)
 have h6:2^(bl n+k - 1)=2^(bl n - 1)*2^k:=by rw [←Nat.pow_add];congr 1;omega
 rw [h6] at h5
 have:=Nat.mul_le_mul_right (2^k) h1
 omega
theorem Ll {n k c:Nat} (h:n≠0) (hc:c<2^k):bl (n*2^k+c)=bl n+k:=by
 obtain ⟨h1,h2,h3⟩:=DY h
 refine Nat.le_antisymm ?_ ?_
 ·rw [Dp,Nat.pow_add]
  calc n*2^k+c<n*2^k+2^k:=Nat.add_lt_add_left hc _
   _=(n+1)*2^k:=by rw [Nat.add_mul,Nat.one_mul]
   _≤2^bl n*2^k:=Nat.mul_le_mul_right _ h2
 ·rw [←Ls h (k:=k)]
  exact Dp.2 (Nat.lt_of_le_of_lt (Nat.le_add_right _ _) (Dp.1 (Nat.le_refl _)))
theorem LV {X s s' j b:Nat} {e dir:Int} (h1:s*s≤X) (h2:X<(s+1)*(s+1)) (h1':s' * s'≤X*2^(2*j)) (h2':X*2^(2*j)<(s' + 1)*(s' + 1))
  (hb:b+2≤bl s):RT (X*2^(2*j)) s' b (e - j) dir=RT X s b e dir:=by
 have hs0:s≠0:=by intro h;subst h;rw [GU] at hb;omega
 have hp:2^(2*j)=2^j*2^j:=by rw [←Nat.pow_add];congr 1;omega
 have hj:=Nat.two_pow_pos j
 rw [hp] at h1' h2' ⊢
 have a1:s*2^j≤s':=by
  refine Nat.le_of_lt_succ (Iy.2 (Nat.lt_of_le_of_lt ?_ h2'))
  calc s*2^j*(s*2^j)=s*s*(2^j*2^j):=by simp only [Nat.mul_assoc,Nat.mul_comm,Nat.mul_left_comm]
   _≤X*(2^j*2^j):=Nat.mul_le_mul_right _ h1
 have a2:s' < (s+1)*2^j:=by
  refine Iy.2 (Nat.lt_of_le_of_lt h1' ?_)
  calc X*(2^j*2^j)<(s+1)*(s+1)*(2^j*2^j):=Nat.mul_lt_mul_of_pos_right h2 (Nat.mul_pos hj hj)
   _=(s+1)*2^j*((s+1)*2^j):=by simp only [Nat.mul_assoc,Nat.mul_comm,Nat.mul_left_comm]
 obtain ⟨t,rfl⟩:=Nat.exists_eq_add_of_le a1
 have ht:t<2^j:=by rw [Nat.add_mul] at a2;omega
 have hbl:=Ll hs0 ht
 have hst:(X*(2^j*2^j) - (s*2^j+t)*(s*2^j+t)=0∧t=0)↔X - s*s=0:=by
  constructor
  ·rintro ⟨h,rfl⟩
   have h3:X*(2^j*2^j)=s*s*(2^j*2^j):=by
    rw [Nat.add_zero] at h h1'
    have:s*2^j*(s*2^j)=s*s*(2^j*2^j):=by simp only [Nat.mul_assoc,Nat.mul_comm,Nat.mul_left_comm]
    omega
   have:=Nat.eq_of_mul_eq_mul_right (Nat.mul_pos hj hj) h3
   omega
  ·intro h
   have hX:X=s*s:=by omega
   subst hX
   have e1:s*s*(2^j*2^j)=s*2^j*(s*2^j):=by simp only [Nat.mul_assoc,Nat.mul_comm,Nat.mul_left_comm]
   rw [e1] at h1' ⊢
   have:t=0:=by
    refine Nat.eq_zero_of_not_pos fun h0=>?_
    have:=Iy.1 (show s*2^j<s*2^j+t by omega)
    omega
   subst this
   exact ⟨by rw [Nat.add_zero,Nat.sub_self],rfl⟩
 unfold RT
 rw [show s*2^j+t=s*2^j+t from rfl,hbl]
 obtain ⟨h,hh⟩:∃h,h=2^(bl s - b - 1):=⟨_,rfl⟩
 have hpow:2^(bl s+1 - b)=2*(2*h):=by
  rw [hh,show bl s+1 - b=(bl s - b - 1)+1+1 by omega,Nat.pow_succ,Nat.pow_succ];omega
 have hpow2:2^(bl s+j+1 - b)=2^(j+1)*(2*h):=by
  rw [hh,show bl s+j+1 - b=(j+1)+((bl s - b - 1)+1) by omega,Nat.pow_add,Nat.pow_succ 2 (bl s - b - 1)]
  congr 1;omega
 generalize hst2:(if X*(2^j*2^j) - (s*2^j+t)*(s*2^j+t)=0 then 0 else 1)=st2 at *
 have hN:2*(s*2^j+t)+st2=2^(j+1)*s+(2*t+st2):=by
  rw [Nat.pow_succ,Nat.mul_add,←Nat.add_assoc];congr 1;congr 1;simp only [Nat.mul_assoc,Nat.mul_comm,Nat.mul_left_comm]
 rw [hN,hpow,hpow2,sticky (h:=h) (st:=if X - s*s=0 then 0 else 1) (by rw [hh];exact Nat.two_pow_pos _)]
 ·congr 1;omega
 ·have:st2≤1:=by rw [←hst2];split<;>omega
  rw [Nat.pow_succ];omega
 ·have:(2*t+st2=0)↔X - s*s=0:=by
   rw [←hst,←hst2]
   constructor
   ·intro h
    have ht0:t=0:=by omega
    refine ⟨?_,ht0⟩
    by_cases hz:X*(2^j*2^j) - (s*2^j+t)*(s*2^j+t)=0
    ·exact hz
    ·rw [if_neg hz] at h;omega
   ·rintro ⟨hz,rfl⟩
    rw [if_pos hz]
  simp only [this]
end Go.Proofs.Pq
namespace Go.Proofs.Pq
set_option linter.unusedVariables false
set_option linter.unusedSimpArgs false
set_option maxRecDepth 4000
open Go.Proofs Go.Sb Go.Proofs.Sbn Go.Proofs.Lf
theorem refRound (s:Bool) (M b:Nat) (e dir:Int) (hM:bl M≤50000) (hb:1≤b) (hbM:b+1≤bl M) (he : -100000000≤e) (he':e≤100000000) :
  EO (toD (nz s M e)) (b:Int) dir=some (toD (rn s M (2^(bl M - b)) (e+((bl M - b:Nat):Int)) dir)):=by
 have hM0:M≠0:=by intro h;subst h;rw [GU] at hbM;omega
 obtain ⟨q,hq⟩:=KE M
 have hp:=Nat.two_pow_pos (tz M)
 have hqd:M/2^tz M=q:=by generalize tz M=z at *;rw [hq,Nat.mul_div_cancel _ hp]
 have hq0:q≠0:=by intro h;subst h;rw [Nat.zero_mul] at hq;exact hM0 hq
 have hbl:bl M=bl q+tz M:=by
  have:=Ls (k:=tz M) hq0
  generalize tz M=z at *;rw [hq];exact this
 unfold EO
 unfold nz toD
 rw [if_neg hM0,hqd]
 simp only
 rw [rBits (by unfold Sm;omega),sB,w64 (x:=(bl q:Int) - (b:Int)) (by omega) (by omega)]
 by_cases h:bl q≤b
 ·rw [if_pos (by omega)]
  congr 1
  have hz:bl M - b≤tz M:=by omega
  have hd:M%2^(bl M - b)=0:=by
   obtain ⟨c,hc⟩:∃c,tz M=(bl M - b)+c:=⟨tz M - (bl M - b),by omega⟩
   rw [hc,Nat.pow_add,Nat.mul_comm q,Nat.mul_assoc] at hq
   generalize bl M - b=z at *
   rw [hq];exact Nat.mul_mod_right _ _
  have hrn:rn s M (2^(bl M - b)) (e+((bl M - b:Nat):Int)) dir=nz s M e:=by
   unfold rn
   have hu:up (decide (M%2^(bl M - b)=0)) (sgnc (2*(M%2^(bl M - b))) (2^(bl M - b))) (decide (M/2^(bl M - b)%2=1)) s dir=false:=by
    rw [decide_eq_true hd];rfl
   rw [hu,if_neg (by decide),Nat.add_zero]
   have:=nz_shl' s (M/2^(bl M - b)) (bl M - b) (e+((bl M - b:Nat):Int)) e rfl
   rw [←this,Nat.div_mul_cancel (Nat.dvd_of_mod_eq_zero hd)]
  rw [hrn]
  unfold nz
  rw [if_neg hM0,hqd]
 ·obtain ⟨d,hd⟩:∃d:Nat,bl q=b+d+1:=⟨bl q - b - 1,by omega⟩
  have hw:(bl q:Int) - (b:Int)=((d+1:Nat):Int):=by omega
  rw [if_neg (by omega)]
  simp only [BY,sB]
  have hp2:=Nat.two_pow_pos (d+1)
  have hqS:Sm q:=by unfold Sm;omega
  rw [hw,rShl sm1 (by omega),sB,Nat.one_mul,rDiv hqS (JD (k:=d+2) (Nat.pow_lt_pow_right (by decide) (by omega)) (by omega)) (by omega),sB]
  simp only
  have hqb:=DY hq0
  have hqq:q/2^(d+1)≠0:=by
   have:2^(d+1)≤q:=Nat.le_trans (Nat.pow_le_pow_right (by decide) (by omega)) hqb.1
   have:=Nat.div_pos this hp2
   omega
  rw [w64 (x:=e+(tz M:Int)+((d+1:Nat):Int)) (by omega) (by omega)]
  rw [part q (2^(d+1)) s dir _ hp2 hqS (by
   have:2^(d+1)+2^(d+1)=2^(d+2):=by rw [Nat.pow_succ 2 (d+1)];omega
   rw [this];exact JD (k:=d+3) (Nat.pow_lt_pow_right (by decide) (by omega)) (by omega)) hqq (by omega) (by omega) (JD (k:=bl q+1) (by
    have h1:=Nat.div_le_self q (2^(d+1));have h2:=hqb.2.1;have h3:2^(bl q+1)=2^bl q*2:=Nat.pow_succ ..
    generalize q/2^(d+1)=y at *;omega) (by omega)),sB]
  congr 2
  have e1:bl M - b=d+1+tz M:=by omega
  have e2:e+(tz M:Int)+((d+1:Nat):Int)=e+((bl M - b:Nat):Int):=by omega
  rw [e2]
  refine MQ _ _ hp2 (Nat.two_pow_pos _) ?_
  rw [e1,Nat.pow_add]
  generalize tz M=z at *
  rw [hq]
  simp only [Nat.mul_assoc,Nat.mul_comm,Nat.mul_left_comm]
theorem tm2 (x:Int):x.tmod 2=0↔x%2=0:=
 ⟨fun h=>Int.emod_eq_zero_of_dvd (Int.dvd_of_tmod_eq_zero h),fun h=>Int.tmod_eq_zero_of_dvd (Int.dvd_of_emod_eq_zero h)⟩
theorem sgf (m:Nat):AE false m=some ⟨false,m⟩:=rfl
theorem root_eq (s:Bool) (n b:Nat) (e dir:Int) (hn:n≠0) (hns:bl n≤20000) (hb:1≤b) (hb':b≤2000) (he : -5000≤e) (he':e≤5000) :
  ∃M c:Nat,∃f:Int,∃r,r=nz false M f∧M≤2^b∧-100000≤f∧f≤100000∧Fe ⟨⟨s,n⟩,e⟩ (b:Int) dir=some r∧Cf ⟨⟨s,n⟩,e⟩ (b:Int) dir=some (toD r):=by
 have hnS:Sm n:=by unfold Sm;omega
 obtain ⟨i,hi,hi1,hi2,hi3,hi4⟩:∃i:Nat,(if ¬(((wi64 (e - ((max 0 ((wi64 (((wi64 (((wi64 (2*(b:Int))))+4))) - (bl n:Int)))))))))%2)=0 then some ((wi64 (((max 0 ((wi64 (((wi64 (((wi64 (2*(b:Int))))+4))) - (bl n:Int))))))+1))) else some ((max 0 ((wi64 (((wi64 (((wi64 (2*(b:Int))))+4))) - (bl n:Int)))))))=some (i:Int)∧
   (e - i)%2=0∧2*b+4≤bl n+i∧i≤5000∧0≤i:=by
  rw [w64 (x:=2*(b:Int)) (by omega) (by omega),w64 (x:=2*(b:Int)+4) (by omega) (by omega),w64 (x:=2*(b:Int)+4 - (bl n:Int)) (by omega) (by omega)]
  obtain ⟨u,hu⟩:∃u:Nat,max 0 (2*(b:Int)+4 - (bl n:Int))=(u:Int):=⟨(max 0 (2*(b:Int)+4 - (bl n:Int))).toNat,by omega⟩
  rw [hu,w64 (x:=e - (u:Int)) (by omega) (by omega),w64 (x:=(u:Int)+1) (by omega) (by omega)]
  by_cases h:(e - (u:Int))%2=0
  ·exact ⟨u,by rw [if_neg (by simp [h])],h,by omega,by omega,by omega⟩
  ·exact ⟨u+1,by rw [if_pos h];rfl,by omega,by omega,by omega,by omega⟩
 obtain ⟨j,hj,hj1,hj2,hj3⟩:∃j:Nat,(if ¬((((wi64 (e - ((wi64 (((wi64 (2*(b:Int))))+2)))))).tmod 2))=0 then some ((wi64 (((wi64 (((wi64 (2*(b:Int))))+2)))+1))) else some ((wi64 (((wi64 (2*(b:Int))))+2))))=some (j:Int)∧
   (e - j)%2=0∧2*b+2≤j∧j≤2*b+3:=by
  rw [w64 (x:=2*(b:Int)) (by omega) (by omega),w64 (x:=2*(b:Int)+2) (by omega) (by omega),w64 (x:=e - (2*(b:Int)+2)) (by omega) (by omega),w64 (x:=2*(b:Int)+2+1) (by omega) (by omega)]
  have ht:=tm2 (e - (2*(b:Int)+2))
  by_cases h:(e - (2*(b:Int)+2)).tmod 2=0
  ·exact ⟨2*b+2,by rw [if_neg (by simp [h])];rfl,by omega,by omega,by omega⟩
  ·exact ⟨2*b+3,by rw [if_pos h];congr 1,by omega,by omega,by omega⟩
 have hbn:=(DY hn).2.2
 have hbi:=Ls (k:=i) hn
 have hbj:=Ls (k:=j) hn
 have hni:n*2^i≠0:=by have:=Nat.mul_pos (Nat.pos_of_ne_zero hn) (Nat.two_pow_pos i);omega
 have hnj:n*2^j≠0:=by have:=Nat.mul_pos (Nat.pos_of_ne_zero hn) (Nat.two_pow_pos j);omega
 obtain ⟨u,u1,u2⟩:=ML (n*2^i)
 obtain ⟨v,v1,v2⟩:=ML (n*2^j)
 have size:∀ {X s k:Nat},s*s≤X→X<(s+1)*(s+1)→2*k+1≤bl X→bl X≤40000→k+1≤bl s∧bl s≤20001:=by
  intro X s k h1 h2 h3 h4
  have hX0:X≠0:=by intro h;subst h;rw [GU] at h3;omega
  obtain ⟨b1,b2,b3⟩:=DY hX0
  constructor
  ·refine Nat.le_of_not_lt fun h=>?_
   have h5:s<2^k:=Dp.1 (by omega)
   have h6:(s+1)*(s+1)≤2^k*2^k:=Nat.mul_le_mul h5 h5
   rw [←Nat.pow_add] at h6
   have h7:2^(k+k)≤2^(bl X - 1):=Nat.pow_le_pow_right (by decide) (by omega)
   omega
  ·have:∀k,bl X≤k+k→bl s≤k:=fun k hk=>Dp.2 (Iy.2 (Nat.lt_of_le_of_lt h1 (Nat.lt_of_lt_of_le b2 (by rw [←Nat.pow_add];exact Nat.pow_le_pow_right (by decide) hk))))
   exact this 20001 (by omega)
 have hu:=size u1 u2 (k:=b+1) (by omega) (by omega)
 have hv:=size v1 v2 (k:=b+1) (by omega) (by omega)
 have hst:∀ {X s:Nat},s*s≤X→Sm X→(decide (0<(Sbn.sz (X - s*s):Int)))=decide ((2*s+if X - s*s=0 then 0 else 1)%2≠0):=by
  intro X s h1 h2
  apply decide_eq_decide.2
  rw [KF]
  split<;>omega
 obtain ⟨ei,hei⟩:∃ei,e - (i:Int)=2*ei:=⟨(e - (i:Int))/2,by omega⟩
 obtain ⟨ej,hej⟩:∃ej,e - (j:Int)=2*ej:=⟨(e - (j:Int))/2,by omega⟩
 have hprog:Fe ⟨⟨s,n⟩,e⟩ (b:Int) dir=some (RT (n*2^i) u b ei dir):=by
  unfold Fe
  rw [sign,sB,if_neg (by rw [if_neg hn];split<;>decide),wBits hnS,sB]
  simp only
  rw [hi,sB,wShl hnS (by omega),sB,wRoot _ u (by omega) hni u1 u2,sB]
  simp only
  rw [w64 (x:=e - (i:Int)) (by omega) (by omega),hei,show (2*ei).tdiv 2=ei from Int.mul_tdiv_cancel_left _ (by decide),w64 (x:=ei) (by omega) (by omega)]
  rw [hst u1 (by unfold Sm;omega)]
  have hodd:(2*u+if n*2^i - u*u=0 then 0 else 1)/2=u:=by split<;>omega
  rw [LN false u ei b dir (2*u+if n*2^i - u*u=0 then 0 else 1) 2 (by unfold Sm;omega) (by decide) hodd.symm hb (by omega) (by omega) (by omega),sB]
  unfold RT
  congr 2
  rw [show bl u+1 - b=(bl u - b)+1 by omega,Nat.pow_succ,Nat.mul_comm]
 have href:Cf ⟨⟨s,n⟩,e⟩ (b:Int) dir=some (toD (RT (n*2^j) v b ej dir)):=by
  unfold Cf
  simp only [sz0,KF]
  rw [if_neg hn,hj,sB,rShl hnS (by omega),sB,rRoot _ v (by omega) v1 v2,sB]
  simp only
  have hvS:Sm v:=by unfold Sm;omega
  rw [show (1:Int)=((1:Nat):Int) from rfl,rShl hvS (by decide),sB,Nat.pow_one]
  have e1:(if n*2^j - v*v≠0 then BY.bind fun r132=>(Bb (v*2) r132).bind fun r140=>some r140 else some (v*2))=some (2*v+if n*2^j - v*v=0 then 0 else 1):=by
   have hv2:Sm (v*2):=by have:=It (n:=v) (k:=1) (a:=20001) (by omega) (by omega);rwa [Nat.pow_one] at this
   by_cases h:n*2^j - v*v=0
   ·rw [if_neg (fun h2=>h2 h),if_pos h,Nat.mul_comm,Nat.add_zero]
   ·rw [if_pos h,if_neg h]
    simp only [BY,sB]
    rw [rAdd hv2 sm1,sB,Nat.mul_comm]
  rw [e1,sB,sgf,sB]
  have hblM:bl (2*v+if n*2^j - v*v=0 then 0 else 1)=bl v+1:=by
   have:=Ll (n:=v) (k:=1) (c:=if n*2^j - v*v=0 then 0 else 1) (by intro h;subst h;rw [GU] at hv;omega) (by split<;>decide)
   rw [Nat.pow_one,Nat.mul_comm] at this;exact this
  rw [w64 (x:=e - (j:Int)) (by omega) (by omega),hej,show (2*ej).tdiv 2=ej from Int.mul_tdiv_cancel_left _ (by decide),w64 (x:=ej) (by omega) (by omega),w64 (x:=ej - ((1:Nat):Int)) (by omega) (by omega)]
  rw [refOf _ _ _ (by unfold Sm;omega) (by omega) (by omega),sB,refRound false _ b _ dir (by omega) hb (by omega) (by omega) (by omega),sB,hblM]
  unfold RT
  congr 3
  omega
 have hM:∀ {X s:Nat} {f:Int},b+2≤bl s→∃M,RT X s b f dir=nz false M (f+((bl s - b:Nat):Int))∧M≤2^b:=by
  intro X s f h
  refine ⟨_,rfl,?_⟩
  have hs0:s≠0:=by intro h0;subst h0;rw [GU] at h;omega
  have h2:=(DY hs0).2.1
  have h3:(2*s+if X - s*s=0 then 0 else 1)/2^(bl s+1 - b)<2^b:=by
   rw [Nat.div_lt_iff_lt_mul (Nat.two_pow_pos _),←Nat.pow_add,show b+(bl s+1 - b)=bl s+1 by omega,Nat.pow_succ]
   split<;>omega
  have h4:∀c:Bool,(if c=true then 1 else 0)≤1:=by intro c;cases c<;>decide
  exact Nat.le_trans (Nat.add_le_add_left (h4 _) _) h3
 rcases Nat.le_total i j with hij | hij
 ·obtain ⟨k,hk⟩:∃k,j=i+2*k:=⟨(j - i)/2,by omega⟩
  have hX:n*2^j=n*2^i*2^(2*k):=by rw [hk,Nat.pow_add,Nat.mul_assoc]
  have:=LV (e:=ei) (dir:=dir) (b:=b) (j:=k) u1 u2 (hX▸v1) (hX▸v2) (by omega)
  rw [←hX,show ei - (k:Int)=ej by omega] at this
  obtain ⟨M,hM1,hM2⟩:=hM (X:=n*2^i) (f:=ei) (show b+2≤bl u by omega)
  exact ⟨M,0,_,_,hM1,hM2,by omega,by omega,hprog,by rw [href,this]⟩
 ·obtain ⟨k,hk⟩:∃k,i=j+2*k:=⟨(i - j)/2,by omega⟩
  have hX:n*2^i=n*2^j*2^(2*k):=by rw [hk,Nat.pow_add,Nat.mul_assoc]
  have:=LV (e:=ej) (dir:=dir) (b:=b) (j:=k) v1 v2 (hX▸u1) (hX▸u2) (by omega)
  rw [←hX,show ej - (k:Int)=ei by omega] at this
  obtain ⟨M,hM1,hM2⟩:=hM (X:=n*2^i) (f:=ei) (show b+2≤bl u by omega)
  exact ⟨M,0,_,_,hM1,hM2,by omega,by omega,hprog,by rw [href,this]⟩
end Go.Proofs.Pq
