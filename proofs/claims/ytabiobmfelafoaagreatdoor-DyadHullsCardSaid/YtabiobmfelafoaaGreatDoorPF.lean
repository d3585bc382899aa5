import Derived.Test.YtabiobmfelafoaaGreatDoorPE
namespace Go.Proofs.Pq
set_option linter.unusedVariables false
set_option linter.unusedSimpArgs false
set_option maxRecDepth 4000
open Go.Proofs Go.Sb Go.Proofs.Sbn Go.Proofs.Lf
theorem Rc (x:Ag) (hx:VT x) (lx:Lt x) (s:Bool) (n d:Nat) (hd:d≠0) (bn:bl n≤9000) (bd:bl d≤9000) :
  ∃T c,DH (ofD x) (nz false d 0)=some T∧AH T (nz s n 0)=some c∧ES x ⟨⟨s,n⟩,d⟩=some c∧
   ∀i j:Nat,x.Exp=(i:Int) - j→(c<0↔Z x.Man.Neg x.Man.Abs*d*(2^i:Nat)<Z s n*(2^j:Nat))∧(0<c↔Z s n*(2^j:Nat)<Z x.Man.Neg x.Man.Abs*d*(2^i:Nat)):=by
 have bm:=lx.2
 have hl:=lx.1.l
 have hu:=lx.1.u
 have sn:Sm n:=by unfold Sm;omega
 have sd:Sm d:=by unfold Sm;omega
 have hval:=Nw x hx (by omega) (by omega) (by omega)
 obtain ⟨q,hq⟩:=OE d
 have hpd:0<2^tz d:=Nat.two_pow_pos _
 have ed:d/2^tz d=q:=by
  conv=>lhs;lhs;rw [hq]
  exact Nat.mul_div_cancel _ hpd
 have bq:bl q≤9000:=by rw [←ed];exact Nat.le_trans (Nx _ _) (by omega)
 obtain ⟨_,_,td⟩:=Ie hd
 have btz:tz d≤9000:=by omega
 have fd:nz false d 0=⟨⟨false,q⟩,((tz d:Nat):Int)⟩:=by unfold nz;rw [if_neg hd,ed,Int.zero_add]
 have ht:=num_times x.Man.Neg false x.Man.Abs q x.Exp (tz d:Nat) (by omega) (by omega) (by omega) (by omega) (by omega) (by omega)
 have hdec:decide (¬x.Man.Neg=false)=x.Man.Neg:=by cases x.Man.Neg<;>rfl
 rw [hdec] at ht
 have v1:VEq (nz x.Man.Neg (x.Man.Abs*q) (x.Exp+(tz d:Nat))) (Z x.Man.Neg x.Man.Abs*d) x.Exp:=by
  refine (Pl _ _ _).base (p:=tz d) (q:=0) (by omega) ?_
  rw [Z_nm,Int.mul_assoc]
  have:((q:Int)*((2^tz d:Nat):Int))=(d:Int):=by
   rw [←Int.natCast_mul,←hq]
  rw [this];simp
 have small:∀(σ:Bool) (M:Nat) (F:Int),bl M≤20000→-20000≤F→F≤20000→bl (nz σ M F).m.Abs≤20000∧-1000000≤(nz σ M F).e∧(nz σ M F).e≤1000000:=by
  intro σ M F h1 h2 h3
  unfold nz
  by_cases h0:M=0
  ·subst h0
   rw [if_pos rfl]
   exact ⟨by show bl 0≤_;exact Nat.le_trans (Nj (Nat.zero_le 1)) (by decide),by show (-1000000:Int)≤0;omega,by show (0:Int)≤_;omega⟩
  ·obtain ⟨_,_,t1⟩:=Ie h0
   rw [if_neg h0]
   have:=Nx M (2^tz M)
   exact ⟨by show bl (M/2^tz M)≤_;omega,by show (-1000000:Int)≤F+(tz M:Nat);omega,by show F+(tz M:Nat)≤(1000000:Int);omega⟩
 have bmq:=Kq x.Man.Abs q
 have key:∀i j:Nat,x.Exp=(i:Int) - j→∃c,AH (nz x.Man.Neg (x.Man.Abs*q) (x.Exp+(tz d:Nat))) (nz s n 0)=some c∧(c<0↔Z x.Man.Neg x.Man.Abs*d*(2^i:Nat)<Z s n*(2^j:Nat))∧(0<c↔Z s n*(2^j:Nat)<Z x.Man.Neg x.Man.Abs*d*(2^i:Nat)):=by
  intro i j hij
  have hE:x.Exp - (x.Exp - i)=(i:Int) - (0:Nat):=by omega
  have w1:VEq (nz x.Man.Neg (x.Man.Abs*q) (x.Exp+(tz d:Nat))) (Z x.Man.Neg x.Man.Abs*d*(2^i:Nat)) (x.Exp - i):=v1.base (p:=i) (q:=0) hE (by simp)
  have w2:VEq (nz s n 0) (Z s n*(2^j:Nat)) (x.Exp - i):=(Pl s n 0).base (p:=j) (q:=0) (by omega) (by simp)
  exact w1.cmp w2 (small _ _ _ (by omega) (by omega) (by omega)) (small _ _ _ (by omega) (by omega) (by omega))
 obtain ⟨i,j,hij⟩:=Kl x.Exp 0
 obtain ⟨c,hc,c1,c2⟩:=key i j (by omega)
 have hR:bl (ratD x).Num.Abs≤14100∧bl (ratD x).Den≤5100:=by
  unfold ratD
  split
  ·have:=Kq x.Man.Abs (2^x.Exp.toNat)
   have:=Ks x.Exp.toNat
   exact ⟨by show bl (x.Man.Abs*2^x.Exp.toNat)≤_;omega,by show bl 1≤_;exact Nat.le_trans (Ks 0) (by decide)⟩
  ·have:=Ks (-x.Exp).toNat
   exact ⟨by show bl x.Man.Abs≤_;omega,by show bl (2^(-x.Exp).toNat)≤_;omega⟩
 obtain ⟨k,hk,k1,k2⟩:=refCmp (ratD x).Num.Neg s (ratD x).Num.Abs (ratD x).Den n d (by omega) (by omega) (by omega) (by omega)
 have hk':DF (ratD x) ⟨⟨s,n⟩,d⟩=some k:=hk
 have sA:=Kq (ratD x).Num.Abs d
 have sC:=Kq n (ratD x).Den
 have hk01:=refCmp01 (x:=ratD x) (y:=⟨⟨s,n⟩,d⟩) (by unfold Sm;show bl ((ratD x).Num.Abs*d)≤_;omega) (by unfold Sm;show bl (n*(ratD x).Den)≤_;omega) (by unfold Sm;omega) (by unfold Sm;omega) sn sd hk'
 have hcross:∃P:Nat,0<P∧Z x.Man.Neg x.Man.Abs*d*(2^i:Nat)=Z (ratD x).Num.Neg (ratD x).Num.Abs*d*P∧Z s n*(2^j:Nat)=Z s n*(ratD x).Den*P:=by
  unfold ratD
  by_cases he:0≤x.Exp
  ·rw [if_pos he]
   simp only
   refine ⟨2^j,Nat.two_pow_pos _,?_,by simp⟩
   have:i=x.Exp.toNat+j:=by omega
   rw [this,p2add,Z_nm,Int.mul_assoc,Int.mul_assoc,Int.mul_assoc,←Int.mul_assoc ((2^x.Exp.toNat:Nat):Int),Int.mul_comm ((2^x.Exp.toNat:Nat):Int) (d:Int),Int.mul_assoc]
  ·rw [if_neg he]
   simp only
   refine ⟨2^i,Nat.two_pow_pos _,rfl,?_⟩
   have:j=(-x.Exp).toNat+i:=by omega
   rw [this,p2add,Int.mul_assoc]
 obtain ⟨P,hP,e1,e2⟩:=hcross
 have hPi:(0:Int)<(P:Int):=by omega
 have hlt:∀a b:Int,a*P<b*P↔a<b:=fun a b=>⟨fun h=>Int.lt_of_mul_lt_mul_right h (Int.le_of_lt hPi),fun h=>Int.mul_lt_mul_of_pos_right h hPi⟩
 have e:c=k:=RX (cmp01 hc) hk01 (by rw [c1,e1,e2,hlt,k1]) (by rw [c2,e1,e2,hlt,k2])
 subst e
 refine ⟨_,c,by rw [fd];exact ht,hc,?_,fun i' j' h'=>?_⟩
 ·unfold ES
  rw [hval,sB,hk'];rfl
 ·obtain ⟨c',hc',c1',c2'⟩:=key i' j' h'
  rw [hc] at hc'
  cases hc'
  exact ⟨c1',c2'⟩
theorem proper1 {X:Ao} (p0:Br X=some true):GN X=some (.ok ()):=by
 unfold GN;rw [p0];rfl
theorem has_ok (lo hi:Ag) (h1:VT lo) (h2:VT hi) (l1:Lt lo) (l2:Lt hi) (p0:Br ⟨toL lo,toL hi⟩=some true) (s:Bool) (n d:Nat) (hd:d≠0) (bn:bl n≤9000) (bd:bl d≤9000) (r0:FO ⟨⟨s,limbs n⟩,limbs d⟩=some true) :
  ∃a b,ES lo ⟨⟨s,n⟩,d⟩=some a∧ES hi ⟨⟨s,n⟩,d⟩=some b∧FW ⟨toL lo,toL hi⟩ ⟨⟨s,limbs n⟩,limbs d⟩=some (decide (a≤0∧0≤b),0)∧
   (∀i j:Nat,lo.Exp=(i:Int) - j→(0<a↔Z s n*(2^j:Nat)<Z lo.Man.Neg lo.Man.Abs*d*(2^i:Nat)))∧
   (∀i j:Nat,hi.Exp=(i:Int) - j→(b<0↔Z hi.Man.Neg hi.Man.Abs*d*(2^i:Nat)<Z s n*(2^j:Nat))):=by
 obtain ⟨T,a,t1,t2,t3,t4⟩:=Rc lo h1 l1 s n d hd bn bd
 obtain ⟨U,b,u1,u2,u3,u4⟩:=Rc hi h2 l2 s n d hd bn bd
 refine ⟨a,b,t3,u3,?_,fun i j h=>(t4 i j h).2,fun i j h=>(u4 i j h).1⟩
 unfold FW Ls
 rw [proper1 p0,mbo,r0,sB,wantT,mbo,Mp,sB,Mp,sB]
 simp only
 rw [ratOf_nz s n d (by unfold Sm;omega) (by unfold Sm;omega),sB,toNT,sB,inT,sB]
 simp only
 rw [t1,sB,t2,sB]
 by_cases ha:a≤0
 ·rw [if_pos ha,toNT,sB,inT,sB,u1,sB,u2,sB]
  have:decide (0≤b)=decide (a≤0∧0≤b):=by simp [ha]
  rw [this];rfl
 ·rw [if_neg ha,decide_eq_false (fun h=>ha h.1)];rfl
end Go.Proofs.Pq
namespace Go.Proofs.Pq
set_option linter.unusedVariables false
set_option linter.unusedSimpArgs false
set_option maxRecDepth 4000
open Go.Proofs Go.Sb Go.Proofs.Sbn Go.Proofs.Lf
def V (d:Ag):Int:=Z d.Man.Neg d.Man.Abs*(2^(d.Exp+6000).toNat:Nat)
theorem vV {x:Ag} (hx:VT x) (lx:Lt x):VEq (ofD x) (V x) (-6000):=by
 have:=lx.1.l
 exact hx.veq.base (p:=(x.Exp+6000).toNat) (q:=0) (by omega) (by unfold V;simp)
theorem Ny {x y:Ag} (hx:VT x) (hy:VT y) (lx:Lt x) (ly:Lt y):∃c,AH (ofD x) (ofD y)=some c∧Bi x y=some c∧(c<0↔V x<V y)∧(0<c↔V y<V x):=by
 have bx:bl x.Man.Abs≤9000:=lx.2
 have by':bl y.Man.Abs≤9000:=ly.2
 have ex:=lx.1.l
 have ex2:=lx.1.u
 have ey:=ly.1.l
 have ey2:=ly.1.u
 obtain ⟨c,hc,h1,h2⟩:=(vV hx lx).cmp (vV hy ly) ⟨by show bl x.Man.Abs≤_;omega,by show _≤x.Exp;omega,by show x.Exp≤_;omega⟩ ⟨by show bl y.Man.Abs≤_;omega,by show _≤y.Exp;omega,by show y.Exp≤_;omega⟩
 obtain ⟨k,hk,k1,k2⟩:=Mo x.Man.Neg y.Man.Neg x.Man.Abs y.Man.Abs x.Exp y.Exp (by omega) (by omega) (by omega) (by omega) (by omega) (by omega) (by omega) (by omega)
 obtain ⟨c',hc',h⟩:=Pq.cmp x.Man.Neg y.Man.Neg x.Man.Abs y.Man.Abs x.Exp y.Exp (by omega) (by omega) (by omega) (by omega) (by omega) (by omega)
 have hcc:c'=c:=by have:AH (ofD x) (ofD y)=some c':=hc';rw [hc] at this;cases this;rfl
 subst hcc
 obtain ⟨i,j,hij⟩:=Kl x.Exp y.Exp
 have g1:=h i j hij
 have g2:=k2 i j hij
 have e:c'=k:=RX (cmp01 hc) (by omega) (by rw [g1.1,g2.1]) (by rw [g1.2,g2.2])
 subst e
 exact ⟨c',hc,hk,h1,h2⟩
theorem cbV {d:Ag} (h:VT d) (l:Lt d):Cb (ofD d):=by
 have:=l.2
 have:=l.1.l
 have:=l.1.u
 exact ⟨by show bl d.Man.Abs≤_;omega,by show _≤d.Exp;omega,by show d.Exp≤_;omega,_,_,_,canonV h⟩
theorem properT {lo hi:Ag} (h1:VT lo) (h2:VT hi) (l1:Lt lo) (l2:Lt hi) (h:V lo≤V hi):Br ⟨toL lo,toL hi⟩=some true∧Gl ⟨toL lo,toL hi⟩=some true:=by
 obtain ⟨c,hc,hr,c1,c2⟩:=Ny h1 h2 l1 l2
 have hle:c≤0:=by have:=c2;omega
 constructor
 ·unfold Br
  simp only
  rw [(validT h1).2,sB,if_pos rfl,(validT h2).2,sB,if_pos rfl,toNT,sB,inT,sB,toNT,sB,inT,sB,hc,sB,decide_eq_true hle]
 ·unfold Gl
  simp only
  rw [(validT h1).1,sB,if_pos rfl,(validT h2).1,sB,sB,if_pos rfl,toNT,sB,toNT,sB]
  show ((Bi lo hi).bind _).bind _=_
  rw [hr,sB,decide_eq_true hle];rfl
theorem RM {lo hi:Ag} (h1:VT lo) (h2:VT hi) (l1:Lt lo) (l2:Lt hi) (h:LeV (ofD lo) (ofD hi)):V lo≤V hi:=by
 obtain ⟨i,j,hij⟩:=Kl (ofD lo).e (ofD hi).e
 exact ((vV h1 l1).cross (vV h2 l2) hij).1 (h i j hij)
theorem madeHull (x y:Al) (X Y:Ao) (hX:X=⟨toL x.Lo,toL x.Hi⟩) (hY:Y=⟨toL y.Lo,toL y.Hi⟩) (p0:Br X=some true) (p1:Br Y=some true) (lo hi:Ag)
  (hG:Hu ⟨ofD x.Lo,ofD x.Hi⟩ ⟨ofD y.Lo,ofD y.Hi⟩ 1=some (.ok ⟨lo,hi⟩)):II X Y=some (⟨lo,hi⟩,0):=by
 unfold II DT EX BC
 rw [p0,p1,fineP,if_pos (by decide)]
 subst hX hY
 unfold toL
 simp only [IK]
 show ((mb (Hu ⟨ofD x.Lo,ofD x.Hi⟩ ⟨ofD y.Lo,ofD y.Hi⟩ 1) _).bind _).bind _=_
 rw [hG];rfl
theorem madeMeet (x y:Al) (X Y:Ao) (hX:X=⟨toL x.Lo,toL x.Hi⟩) (hY:Y=⟨toL y.Lo,toL y.Hi⟩) (p0:Br X=some true) (p1:Br Y=some true) :
  (∀lo hi,Fg ⟨ofD x.Lo,ofD x.Hi⟩ ⟨ofD y.Lo,ofD y.Hi⟩ 1=some (.ok ⟨lo,hi⟩)→GZ X Y=some (⟨lo,hi⟩,0))∧
  (Fg ⟨ofD x.Lo,ofD x.Hi⟩ ⟨ofD y.Lo,ofD y.Hi⟩ 1=some (.error 5)→GZ X Y=some (zS,5)):=by
 unfold GZ DN Fc BC
 rw [p0,p1,fineP,if_pos (by decide)]
 subst hX hY
 unfold toL
 simp only [IK]
 constructor
 ·intro lo hi hG
  show ((mb (Fg ⟨ofD x.Lo,ofD x.Hi⟩ ⟨ofD y.Lo,ofD y.Hi⟩ 1) _).bind _).bind _=_
  rw [hG];rfl
 ·intro hG
  show ((mb (Fg ⟨ofD x.Lo,ofD x.Hi⟩ ⟨ofD y.Lo,ofD y.Hi⟩ 1) _).bind _).bind _=_
  rw [hG];rfl
theorem hull_ok (a b c d:Ag) (ha:VT a) (hb:VT b) (hc:VT c) (hd:VT d) (la:Lt a) (lb:Lt b) (lc:Lt c) (ld:Lt d) (hab:V a≤V b) (hcd:V c≤V d) :
  ∃lo hi,II ⟨toL a,toL b⟩ ⟨toL c,toL d⟩=some (⟨lo,hi⟩,0)∧JR ⟨a,b⟩ ⟨c,d⟩=some ⟨lo,hi⟩∧VT lo∧VT hi∧Lt lo∧Lt hi∧V lo≤V a∧V lo≤V c∧V b≤V hi∧V d≤V hi:=by
 obtain ⟨k,k1,k2,k3,k4⟩:=Ny hc ha lc la
 obtain ⟨m,m1,m2,m3,m4⟩:=Ny hd hb ld lb
 have sel:∀(p:Prop) [Decidable p] (x y:Ag),(if p then some (x.Man.Neg,x.Man.Abs,x.Exp) else some (y.Man.Neg,y.Man.Abs,y.Exp))=some ((if p then x else y).Man.Neg,(if p then x else y).Man.Abs,(if p then x else y).Exp):=by
  intro p _ x y;split<;>rfl
 have w1:VT (if k<0 then c else a)∧Lt (if k<0 then c else a):=by split<;>exact ⟨by assumption,by assumption⟩
 have w2:VT (if 0<m then d else b)∧Lt (if 0<m then d else b):=by split<;>exact ⟨by assumption,by assumption⟩
 refine ⟨if k<0 then c else a,if 0<m then d else b,?_,?_,w1.1,w2.1,w1.2,w2.2,?_,?_,?_,?_⟩
 ·refine madeHull ⟨a,b⟩ ⟨c,d⟩ _ _ rfl rfl (properT ha hb la lb hab).1 (properT hc hd lc ld hcd).1 _ _ ?_
  unfold Hu
  simp only
  rw [k1,sB]
  have e1:=sel (k<0) c a
  have e2:=sel (0<m) d b
  show ((if k<0 then some (c.Man.Neg,c.Man.Abs,c.Exp) else some (a.Man.Neg,a.Man.Abs,a.Exp)).bind _)=_
  rw [e1,sB,m1,sB]
  show ((if 0<m then some (d.Man.Neg,d.Man.Abs,d.Exp) else some (b.Man.Neg,b.Man.Abs,b.Exp)).bind _)=_
  rw [e2,sB]
  show mb (Co ⟨ofD (if k<0 then c else a),ofD (if 0<m then d else b)⟩) _=_
  rw [LU (cbV w1.1 w1.2) (cbV w2.1 w2.2)];rfl
 ·unfold JR
  simp only
  rw [k2,sB,sel,sB,m2,sB,sel,sB]
 ·split
  ·have:=k3.1 ‹_›;omega
  ·exact Int.le_refl _
 ·split
  ·exact Int.le_refl _
  ·have:=k3;omega
 ·split
  ·have:=m4.1 ‹_›;omega
  ·exact Int.le_refl _
 ·split
  ·exact Int.le_refl _
  ·have:=m4;omega
theorem meet_ok (a b c d:Ag) (ha:VT a) (hb:VT b) (hc:VT c) (hd:VT d) (la:Lt a) (lb:Lt b) (lc:Lt c) (ld:Lt d) (hab:V a≤V b) (hcd:V c≤V d) :
  ∃lo hi,VT lo∧VT hi∧Lt lo∧Lt hi∧V a≤V lo∧V c≤V lo∧(V lo=V a∨V lo=V c)∧V hi≤V b∧V hi≤V d∧(V hi=V b∨V hi=V d)∧
   ((V lo≤V hi∧GZ ⟨toL a,toL b⟩ ⟨toL c,toL d⟩=some (⟨lo,hi⟩,0)∧GJ ⟨a,b⟩ ⟨c,d⟩=some ⟨⟨lo,hi⟩,0⟩) ∨
    (V hi<V lo∧GZ ⟨toL a,toL b⟩ ⟨toL c,toL d⟩=some (zS,5)∧GJ ⟨a,b⟩ ⟨c,d⟩=some ⟨zS,5⟩)):=by
 obtain ⟨k,k1,k2,k3,k4⟩:=Ny hc ha lc la
 obtain ⟨m,m1,m2,m3,m4⟩:=Ny hd hb ld lb
 have sel:∀(p:Prop) [Decidable p] (x y:Ag),(if p then some (x.Man.Neg,x.Man.Abs,x.Exp) else some (y.Man.Neg,y.Man.Abs,y.Exp))=some ((if p then x else y).Man.Neg,(if p then x else y).Man.Abs,(if p then x else y).Exp):=by
  intro p _ x y;split<;>rfl
 have w1:VT (if 0<k then c else a)∧Lt (if 0<k then c else a):=by split<;>exact ⟨by assumption,by assumption⟩
 have w2:VT (if m<0 then d else b)∧Lt (if m<0 then d else b):=by split<;>exact ⟨by assumption,by assumption⟩
 obtain ⟨t,t1,t2,t3,t4⟩:=Ny w1.1 w2.1 w1.2 w2.2
 have hM:=madeMeet ⟨a,b⟩ ⟨c,d⟩ _ _ rfl rfl (properT ha hb la lb hab).1 (properT hc hd lc ld hcd).1
 have hG:Fg ⟨ofD a,ofD b⟩ ⟨ofD c,ofD d⟩ 1=if t≤0 then some (.ok ⟨if 0<k then c else a,if m<0 then d else b⟩) else some (.error 5):=by
  unfold Fg
  simp only
  rw [k1,sB]
  have e1:=sel (0<k) c a
  have e2:=sel (m<0) d b
  show ((if 0<k then some (c.Man.Neg,c.Man.Abs,c.Exp) else some (a.Man.Neg,a.Man.Abs,a.Exp)).bind _)=_
  rw [e1,sB,m1,sB]
  show ((if m<0 then some (d.Man.Neg,d.Man.Abs,d.Exp) else some (b.Man.Neg,b.Man.Abs,b.Exp)).bind _)=_
  rw [e2,sB]
  show ((AH (ofD (if 0<k then c else a)) (ofD (if m<0 then d else b))).bind fun r111=>mb (BB ((decide (r111≤0))) 5) fun r117=>mb (Co ⟨ofD (if 0<k then c else a),ofD (if m<0 then d else b)⟩) fun r124=>some (.ok r124))=_
  rw [t1,sB]
  by_cases ht:t≤0
  ·rw [decide_eq_true ht,if_pos ht,wantT,mbo,LU (cbV w1.1 w1.2) (cbV w2.1 w2.2)];rfl
  ·rw [decide_eq_false ht,if_neg ht];rfl
 have hR:GJ ⟨a,b⟩ ⟨c,d⟩=if 0<t then some ⟨zS,5⟩ else some ⟨⟨if 0<k then c else a,if m<0 then d else b⟩,0⟩:=by
  unfold GJ
  simp only
  rw [k2,sB,sel,sB,m2,sB,sel,sB]
  show ((Bi (if 0<k then c else a) (if m<0 then d else b)).bind _)=_
  rw [t2,sB];rfl
 refine ⟨if 0<k then c else a,if m<0 then d else b,w1.1,w2.1,w1.2,w2.2,?_,?_,?_,?_,?_,?_,?_⟩
 ·split
  ·have:=k4.1 ‹_›;omega
  ·exact Int.le_refl _
 ·split
  ·exact Int.le_refl _
  ·have:=k4;omega
 ·split
  ·exact .inr rfl
  ·exact .inl rfl
 ·split
  ·have:=m3.1 ‹_›;omega
  ·exact Int.le_refl _
 ·split
  ·exact Int.le_refl _
  ·have:=m3;omega
 ·split
  ·exact .inr rfl
  ·exact .inl rfl
 ·by_cases ht:t≤0
  ·refine .inl ⟨by have:=t4;omega,hM.1 _ _ (by rw [hG,if_pos ht]),by rw [hR,if_neg (by omega)]⟩
  ·refine .inr ⟨t4.1 (by omega),hM.2 (by rw [hG,if_neg ht]),by rw [hR,if_pos (by omega)]⟩
end Go.Proofs.Pq
namespace Go.Proofs.Pq
set_option linter.unusedVariables false
set_option linter.unusedSimpArgs false
set_option maxRecDepth 4000
open Go.Proofs Go.Sb Go.Proofs.Sbn Go.Proofs.Lf
theorem zD_of {x:Ag} (hx:VT x) (hz:x.Man.Abs=0):x=zD:=by
 obtain ⟨z1,z2⟩:=hx.z hz
 obtain ⟨⟨s,n⟩,e⟩:=x
 simp only at hz z1 z2
 subst hz z1 z2;rfl
theorem ratD_valid (x:Ag) (hx:VT x) (hs:Sbn.sz x.Man.Abs≤60) (hl : -3000≤x.Exp) (hu:x.Exp≤3000) :
  FO ⟨⟨(ratD x).Num.Neg,limbs (ratD x).Num.Abs⟩,limbs (ratD x).Den⟩=some true∧(ratD x).Den≠0∧bl (ratD x).Num.Abs≤9000∧bl (ratD x).Den≤9000:=by
 by_cases h0:x.Man.Abs=0
 ·rw [zD_of hx h0]
  exact ⟨by kernel_rfl,by decide,Nat.le_trans (Nj (Nat.zero_le 1)) (Nat.le_trans (Ks 0) (by decide)),Nat.le_trans (Ks 0) (by decide)⟩
 ·obtain ⟨a,c,k1,k2,k3,k4,k5,k6,k7,k8,k9,k10⟩:=ratD_nz x hx h0
  obtain ⟨m1,m2⟩:=ratio_ratD x hx h0 hs hl hu
  have b1:=JS m1
  have b2:=JS m2
  exact ⟨ratio_true _ _ _ (fun h=>absurd h k7) (by omega) (by omega) k6 k5,k6,by omega,by omega⟩
theorem QW (d:Ag) (hd:VT d) (ld:Lt d):∃z,Cx d=some z∧VT z∧Lt z∧V z = -V d:=by
 obtain ⟨⟨s,n⟩,e⟩:=d
 refine ⟨_,refMinus s n e,⟨hd.s,fun h=>⟨?_,(hd.z h).2⟩,hd.o⟩,⟨⟨?_,ld.1.s,ld.1.l,ld.1.u⟩,ld.2⟩,?_⟩
 ·have h':n=0:=h
  subst h'
  show (!s && decide ((0:Nat)≠0))=false
  simp
 ·intro h
  have h':n=0:=h
  subst h'
  show (!s && decide ((0:Nat)≠0))=false
  simp
 ·show Z (!s && decide (n≠0)) n*(2^(e+6000).toNat:Nat) = -(Z s n*(2^(e+6000).toNat:Nat))
  rw [←Int.neg_mul]
  congr 1
  unfold Z
  by_cases h:n=0
  ·subst h;cases s<;>rfl
  ·cases s<;>simp [h]
theorem PU {x y:Ag} (hx:VT x) (hy:VT y) (lx:Lt x) (ly:Lt y) (h:V x≤V y):Ep x y=some true:=by
 obtain ⟨c,h1,h2,h3,h4⟩:=Ny hx hy lx ly
 obtain ⟨c',g1,g2⟩:=cmp_ref x y hx hy lx ly
 rw [h2] at g2
 cases g2
 unfold Ep
 show (((Jo (toL x) (toL y)).bind _)=_)
 rw [g1,sB]
 have hc:c≤0:=by omega
 rw [if_pos rfl,decide_eq_true hc];rfl
theorem minus_turned (a b c d:Ag) (x3:Int) (ha:VT a) (hb:VT b) (hc:VT c) (hd:VT d) (la:Lt a) (lb:Lt b) (lc:Lt c) (ld:Lt d) (hab:V a≤V b) (hcd:V c≤V d) :
  ∃T u e,GB ⟨toL a,toL b⟩ ⟨toL c,toL d⟩ x3=some (u,e)∧Ch ⟨c,d⟩=some T∧Gw ⟨toL a,toL b⟩ ⟨toL T.Lo,toL T.Hi⟩ x3=some (u,e)∧Bw u u=some true:=by
 obtain ⟨y,y1,y2,y3,y4⟩:=QW d hd ld
 obtain ⟨z,z1,z2,z3,z4⟩:=QW c hc lc
 have hT:Ch ⟨c,d⟩=some ⟨y,z⟩:=by
  unfold Ch
  simp only
  rw [y1,sB,z1,sB]
 have p1:=(properT ha hb la lb hab).1
 have p2:=(properT hc hd lc ld hcd).1
 have p3:=(properT y2 z2 y3 z3 (by omega)).1
 by_cases hf:1≤x3∧x3≤4096
 ·obtain ⟨n,rfl⟩:∃n:Nat,x3=n:=⟨x3.toNat,by omega⟩
  obtain ⟨r5,r4,T,m1,m2,m3,m4,m5⟩:=minusEq a b c d n (by omega) (by omega) ha hb hc hd la lb lc ld
  rw [hT] at m2
  cases m2
  obtain ⟨q5,q4,n1,n2,n3,n4⟩:=plusEq a b y z n (by omega) (by omega) ha hb y2 z2 la lb y3 z3
  rw [m3] at n2
  have e5:toD r5=toD q5:=by injection n2 with n2;injection n2
  have e4:toD r4=toD q4:=by injection n2 with n2;injection n2
  refine ⟨⟨y,z⟩,⟨toD r5,toD r4⟩,0,NT.2 ⟨a,b⟩ ⟨c,d⟩ n _ _ rfl rfl p1 p2 hf _ _ m1,hT,?_,sameS _ (outOK m4).2.sm (outOK m5).2.sm⟩
  rw [e5,e4]
  exact ON.2 ⟨a,b⟩ ⟨y,z⟩ n _ _ rfl rfl p1 p3 hf _ _ n1
 ·exact ⟨⟨y,z⟩,zS,1,NT.1 _ _ _ _ _ p1 p2 (fun h=>hf ⟨h.2.2.1,h.2.2.2⟩),hT,ON.1 _ _ _ _ _ p1 p3 (fun h=>hf ⟨h.2.2.1,h.2.2.2⟩),sameS zS sm0 sm0⟩
def K6:Nat:=6000
theorem Qm (lo hi:Ag) (h1:VT lo) (h2:VT hi) (l1:Lt lo) (l2:Lt hi) (h:V lo≤V hi) (s:Bool) (n d:Nat) (hd:d≠0) (bn:bl n≤9000) (bd:bl d≤9000) (r0:FO ⟨⟨s,limbs n⟩,limbs d⟩=some true) :
  ∃v:Bool,FW ⟨toL lo,toL hi⟩ ⟨⟨s,limbs n⟩,limbs d⟩=some (v,0)∧(v=true↔V lo*d≤Z s n*(2^K6:Nat)∧Z s n*(2^K6:Nat)≤V hi*d):=by
 obtain ⟨a,b,_,_,e,g1,g2⟩:=has_ok lo hi h1 h2 l1 l2 (properT h1 h2 l1 l2 h).1 s n d hd bn bd r0
 have k1:=l1.1.l
 have k2:=l2.1.l
 have c1:=g1 (lo.Exp+6000).toNat K6 (by unfold K6;omega)
 have c2:=g2 (hi.Exp+6000).toNat K6 (by unfold K6;omega)
 have e1:Z lo.Man.Neg lo.Man.Abs*d*(2^(lo.Exp+6000).toNat:Nat)=V lo*d:=by
  unfold V;rw [Int.mul_assoc,Int.mul_comm (d:Int),←Int.mul_assoc]
 have e2:Z hi.Man.Neg hi.Man.Abs*d*(2^(hi.Exp+6000).toNat:Nat)=V hi*d:=by
  unfold V;rw [Int.mul_assoc,Int.mul_comm (d:Int),←Int.mul_assoc]
 rw [e1] at c1
 rw [e2] at c2
 refine ⟨_,e,?_⟩
 rw [decide_eq_true_eq]
 omega
end Go.Proofs.Pq
namespace Go.Proofs.Pq
set_option linter.unusedVariables false
set_option linter.unusedSimpArgs false
set_option maxRecDepth 4000
open Go.Proofs Go.Sb Go.Proofs.Sbn Go.Proofs.Lf
theorem OT (a b lo hi:Ag) (ha:VT a) (hb:VT b) (hlo:VT lo) (hhi:VT hi) (la:Lt a) (lb:Lt b) (llo:Lt lo) (lhi:Lt hi) (h1:V lo≤V a) (h2:V b≤V hi):DV ⟨a,b⟩ 0 ⟨lo,hi⟩ 0=some true:=by
 unfold DV
 rw [PU hlo ha llo la h1,PU hb hhi lb lhi h2];rfl
theorem lawHulls (x0 x1:Ao) (x2:Aq) (x3:Int) (h0:Dig x0.Lo.Man.Abs) (h1:Dig x0.Hi.Man.Abs) (h2:Dig x1.Lo.Man.Abs) (h3:Dig x1.Hi.Man.Abs) (h4:Dig x2.Man.Abs):Ff x0 x1 x2 x3=some true:=by
 obtain ⟨w0,fe0,fk0⟩:=NG x0 h0 h1
 obtain ⟨w1,fe1,fk1⟩:=NG x1 h2 h3
 obtain ⟨w2,fe2,fk2⟩:=PG x2 h4
 obtain ⟨v2,e2,f2,g2⟩:=Oe x2 h4
 have hval:El x2=some (w2 && v2):=by
  unfold El
  rw [fe2,f2]
  cases w2<;>cases v2<;>rfl
 unfold Ff
 rw [fe0,sB,fe1,hval,sanity]
 cases w0
 ·rfl
 cases w1
 ·rfl
 by_cases hf:(w2 && v2)=false
 ·rw [hf];rfl
 have hw:(w2 && v2)=true:=by simpa using hf
 obtain ⟨q1,q2⟩:w2=true∧v2=true:=by simpa using hw
 obtain ⟨v0,e0,f0,g0⟩:=PX x0 h0 h1 (fun d hd hv=>((fk0 rfl).1 d hd hv).1) (fun d hd hv=>((fk0 rfl).2 d hd hv).1)
 obtain ⟨v1,e1,f1,g1⟩:=PX x1 h2 h3 (fun d hd hv=>((fk1 rfl).1 d hd hv).1) (fun d hd hv=>((fk1 rfl).2 d hd hv).1)
 rw [hw,f0,f1]
 cases v0
 ·rfl
 cases v1
 ·rfl
 obtain ⟨δ,rfl,hδ⟩:=g2 q2
 obtain ⟨a,b,rfl,ha,hb,_,_,hab⟩:=g0 rfl
 obtain ⟨c,d,rfl,hc,hd,_,_,hcd⟩:=g1 rfl
 have la:=(fk0 rfl).1 a rfl ha
 have lb:=(fk0 rfl).2 b rfl hb
 have lc:=(fk1 rfl).1 c rfl hc
 have ld:=(fk1 rfl).2 d rfl hd
 have vab:=RM ha hb la lb hab
 have vcd:=RM hc hd lc ld hcd
 obtain ⟨s60,el,eu⟩:=light_60 δ hδ (by rw [fe2,q1])
 obtain ⟨r,t1,t2,_,_⟩:=toRat_ok δ hδ (by omega) (by omega) (by omega)
 have hb60:=JS s60
 rw [Nw δ hδ (by omega) (by omega) (by omega)] at t2
 obtain rfl:=Option.some.inj t2
 obtain ⟨r0,rd,rb1,rb2⟩:=ratD_valid δ hδ s60 el eu
 obtain ⟨lo,hi,k1,_,k3,k4,k5,k6,k7,k8,k9,k10⟩:=hull_ok a b c d ha hb hc hd la lb lc ld vab vcd
 obtain ⟨vx,x1',x2'⟩:=Qm a b ha hb la lb vab _ _ _ rd rb1 rb2 r0
 obtain ⟨vy,y1',y2'⟩:=Qm c d hc hd lc ld vcd _ _ _ rd rb1 rb2 r0
 obtain ⟨vz,z1',z2'⟩:=Qm lo hi k3 k4 k5 k6 (by omega) _ _ _ rd rb1 rb2 r0
 have z1'':FW ⟨⟨⟨lo.Man.Neg,limbs lo.Man.Abs⟩,lo.Exp⟩,⟨⟨hi.Man.Neg,limbs hi.Man.Abs⟩,hi.Exp⟩⟩ ⟨⟨(ratD δ).Num.Neg,limbs (ratD δ).Num.Abs⟩,limbs (ratD δ).Den⟩=some (vz,0):=z1'
 have hmono:∀u v:Int,u≤v→u*((ratD δ).Den:Int)≤v*((ratD δ).Den:Int):=fun u v h=>Int.mul_le_mul_of_nonneg_right h (Int.natCast_nonneg _)
 have da:(⟨⟨(toL a).Man.Neg,a.Man.Abs⟩,(toL a).Exp⟩:Ag)=a:=rfl
 have db:(⟨⟨(toL b).Man.Neg,b.Man.Abs⟩,(toL b).Exp⟩:Ag)=b:=rfl
 have dc:(⟨⟨(toL c).Man.Neg,c.Man.Abs⟩,(toL c).Exp⟩:Ag)=c:=rfl
 have dd:(⟨⟨(toL d).Man.Neg,d.Man.Abs⟩,(toL d).Exp⟩:Ag)=d:=rfl
 have wi0:=OT a b lo hi ha hb k3 k4 la lb k5 k6 k7 k9
 have wi1:=OT c d lo hi hc hd k3 k4 lc ld k5 k6 k8 k10
 obtain ⟨T,u,e,m1,m2,m3,m4⟩:=minus_turned a b c d x3 ha hb hc hd la lb lc ld vab vcd
 have m3':Gw ⟨toL a,toL b⟩ ⟨⟨⟨T.Lo.Man.Neg,limbs T.Lo.Man.Abs⟩,T.Lo.Exp⟩,⟨⟨T.Hi.Man.Neg,limbs T.Hi.Man.Abs⟩,T.Hi.Exp⟩⟩ x3=some (u,e):=m3
 have oh:∀f:Bool→Option Bool,((if vx=true then some true else some vy).bind fun m434=>(if m434=true then some (decide ¬vz=true) else some false).bind fun m451=>some m451).bind f=f false:=by
  intro f
  have hz:vx=true∨vy=true→vz=true:=by
   rintro (h | h)
   ·have:=x2'.1 h;exact z2'.2 ⟨Int.le_trans (hmono _ _ k7) this.1,Int.le_trans this.2 (hmono _ _ k9)⟩
   ·have:=y2'.1 h;exact z2'.2 ⟨Int.le_trans (hmono _ _ k8) this.1,Int.le_trans this.2 (hmono _ _ k10)⟩
  cases vx
  ·cases vy
   ·rfl
   ·rw [hz (.inr rfl)];rfl
  ·rw [hz (.inl rfl)];rfl
 obtain ⟨p,q,hp,hq,lp,lq,j1,j2,j3,j4,j5,j6,j7⟩:=meet_ok a b c d ha hb hc hd la lb lc ld vab vcd
 simp only [not_true_eq_false,if_false,sB,decide_false,Bool.false_eq_true,if_true,decide_true,k1,t1,x1',y1',z1'',toNT,da,db,dc,dd,wi0,wi1]
 rcases j7 with ⟨j7,j8,_⟩ | ⟨j7,j8,_⟩
 ·obtain ⟨vw,w1',w2'⟩:=Qm p q hp hq lp lq j7 _ _ _ rd rb1 rb2 r0
  have w1'':FW ⟨⟨⟨p.Man.Neg,limbs p.Man.Abs⟩,p.Exp⟩,⟨⟨q.Man.Neg,limbs q.Man.Abs⟩,q.Exp⟩⟩ ⟨⟨(ratD δ).Num.Neg,limbs (ratD δ).Num.Abs⟩,limbs (ratD δ).Den⟩=some (vw,0):=w1'
  have hv:vw=(vx && vy):=by
   have:vw=true↔vx=true∧vy=true:=by
    rw [w2',x2',y2']
    constructor
    ·rintro ⟨g1,g2⟩
     exact ⟨⟨Int.le_trans (hmono _ _ j1) g1,Int.le_trans g2 (hmono _ _ j4)⟩,Int.le_trans (hmono _ _ j2) g1,Int.le_trans g2 (hmono _ _ j5)⟩
    ·rintro ⟨⟨g1,g2⟩,g3,g4⟩
     constructor
     ·rcases j3 with h | h<;>rw [h]<;>assumption
     ·rcases j6 with h | h<;>rw [h]<;>assumption
   cases vw
   ·cases vx
    ·rfl
    ·cases vy
     ·rfl
     ·exact absurd (this.2 ⟨rfl,rfl⟩) (by decide)
   ·obtain ⟨rfl,rfl⟩:=this.1 rfl;rfl
  rw [j8,sB,oh]
  simp only [not_true_eq_false,if_false,sB,decide_false,Bool.false_eq_true,if_true,decide_true,w1'',m1,m2,m3',m4]
  rw [hv]
  cases vx<;>cases vy<;>rfl
 ·have hv:¬(vx=true∧vy=true):=by
   rw [x2',y2']
   rintro ⟨⟨g1,g2⟩,g3,g4⟩
   have hd0:(0:Int)<((ratD δ).Den:Int):=by have:=rd;omega
   have hle:V p*((ratD δ).Den:Int)≤V q*((ratD δ).Den:Int):=by
    refine Int.le_trans (b:=Z (ratD δ).Num.Neg (ratD δ).Num.Abs*(2^K6:Nat)) ?_ ?_
    ·rcases j3 with h | h<;>rw [h]<;>assumption
    ·rcases j6 with h | h<;>rw [h]<;>assumption
   have:=Int.le_of_mul_le_mul_right hle hd0
   omega
  rw [j8,sB,oh]
  simp only [not_true_eq_false,if_false,sB,decide_false,Bool.false_eq_true,if_true,decide_true,m1,m2,m3',m4]
  cases vx<;>cases vy<;>first | rfl | exact absurd ⟨rfl,rfl⟩ hv
end Go.Proofs.Pq
