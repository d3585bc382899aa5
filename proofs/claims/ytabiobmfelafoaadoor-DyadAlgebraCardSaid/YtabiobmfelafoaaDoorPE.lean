import Derived.Test.YtabiobmfelafoaaDoorPD
namespace Go.Proofs.Pq
set_option linter.unusedVariables false
set_option linter.unusedSimpArgs false
set_option maxRecDepth 4000
open Go.Proofs Go.Sb Go.Proofs.Sbn Go.Proofs.Lf
def negD (d:Af):Af:=⟨⟨!d.Man.Neg && decide (d.Man.Abs≠0),d.Man.Abs⟩,d.Exp⟩
theorem Kh {d:Af} (hd:VT d):VT (negD d):=by
 refine ⟨hd.s,fun h=>⟨?_,(hd.z h).2⟩,hd.o⟩
 show (!d.Man.Neg && decide (d.Man.Abs≠0))=false
 rw [decide_eq_false (fun h2=>h2 h),Bool.and_false]
theorem neg_x {x:Af} {N E:Int} {B m:Nat} (hx:EX x N E B m) (hl:Lt x):FH (toL x)=some (negD x,0)∧EX (negD x) (-N) E B m:=by
 have hv:=hx.v
 have nv:=Kh hv
 constructor
 ·unfold FH Ha
  rw [JT hv,mbo,toNT,sB,inT,sB,minusC,sB]
  obtain ⟨⟨s,n⟩,e⟩:=x
  by_cases h0:n=0
  ·obtain ⟨h1,h2⟩:=hv.z h0
   simp only at h1 h2
   subst h0 h1 h2
   rfl
  ·have hc:Cb (⟨⟨!s,n⟩,e⟩:An):=by
    have:=Cb.of (σ:=!s) (M:=n) (E:=e) (by have:=hl.2;simp only at this;omega) (by have:=hl.1.l;simp only at this;omega) (by have:=hl.1.u;simp only at this;omega)
    rwa [Je (hv.o h0).1] at this
   rw [(outOK hc).1,mbo]
   unfold negD
   simp only
   rw [decide_eq_true h0,Bool.and_true]
   rfl
 ·refine ⟨nv,?_,by rw [Int.natAbs_neg];exact hx.b,hx.m⟩
  have hz:=nv.veq
  have ex:=hx.e
  obtain ⟨⟨s,n⟩,e⟩:=x
  refine ⟨hz.1,fun i j hij=>?_⟩
  have h1:Z s n*(2^i:Nat)=N*(2^j:Nat):=ex.2 i j hij
  show Z (!s && decide (n≠0)) n*_=_
  have h2:Z (!s && decide (n≠0)) n = - Z s n:=by
   by_cases h0:n=0
   ·rw [h0,Z0,Z0];rfl
   ·rw [decide_eq_true h0,Bool.and_true];unfold Z;cases s<;>simp
  rw [h2,Int.neg_mul,Int.neg_mul,h1]
theorem sub_x {x y:Af} (hx:VT x) (hy:VT y) (lx:Lt x) (ly:Lt y) :
  ∃r,FJ (toL x) (toL y)=some (r,0)∧BL (toL x) (toL (negD y))=some (r,0):=by
 have vz:=Kh hy
 have lz:Lt (negD y):=⟨⟨fun h=>(vz.z h).1,ly.1.s,ly.1.l,ly.1.u⟩,ly.2⟩
 obtain ⟨σ,M,E,p1,p3,p4,p5⟩:=plusC x (negD y) lx.2 lz.2 lx.1.l lx.1.u lz.1.l lz.1.u
 have hc:Cb (nz σ M E):=Cb.of p3 (by omega) (by omega)
 have same:AQ (ofD x) ⟨⟨!y.Man.Neg,y.Man.Abs⟩,y.Exp⟩=AQ (ofD x) (ofD (negD y)):=by
  obtain ⟨⟨t,m⟩,f⟩:=y
  obtain ⟨⟨s,n⟩,e⟩:=x
  by_cases h0:m=0
  ·subst h0
   have b1:=lx.2
   have b2:=lx.1.l
   have b3:=lx.1.u
   have c2:=ly.1.l
   have c3:=ly.1.u
   simp only at b1 b2 b3 c2 c3
   by_cases hn:n=0
   ·subst hn
    show AQ ⟨⟨s,0⟩,e⟩ ⟨⟨!t,0⟩,f⟩=AQ ⟨⟨s,0⟩,e⟩ ⟨⟨!t && decide (0≠0),0⟩,f⟩
    rw [plus0l s _ 0 e f (by decide) (by omega) (by omega) (by omega) (by omega),plus0l s _ 0 e f (by decide) (by omega) (by omega) (by omega) (by omega)]
    rfl
   ·show AQ ⟨⟨s,n⟩,e⟩ ⟨⟨!t,0⟩,f⟩=AQ ⟨⟨s,n⟩,e⟩ ⟨⟨!t && decide (0≠0),0⟩,f⟩
    rw [plus0r s _ n e f hn (by omega) (by omega) (by omega),plus0r s _ n e f hn (by omega) (by omega) (by omega)]
  ·unfold negD ofD
   simp only
   rw [decide_eq_true h0,Bool.and_true]
 refine ⟨toD (nz σ M E),?_,?_⟩
 ·unfold FJ BU Cy
  rw [Jk hx hy,mbo,toNT,sB,inT,sB,toNT,sB,inT,sB,nearT (ofD x) (ofD y) lx.2 ly.2 lx.1.l lx.1.u ly.1.l ly.1.u,sB,wantT,mbo]
  unfold Ge
  rw [minusC,sB,same,p1,sB,sB,(outOK hc).1,mbo]
  rfl
 ·unfold BL Bg BE
  rw [Jk hx vz,mbo,toNT,sB,inT,sB,toNT,sB,inT,sB,nearT (ofD x) (ofD (negD y)) lx.2 lz.2 lx.1.l lx.1.u lz.1.l lz.1.u,sB,wantT,mbo,p1,sB,(outOK hc).1,mbo]
  rfl
theorem small_x (n:Int) (h : -3000≤n) (h':n≤3000):∃w,AI 1 n=some w∧EX w 1 n 1 1:=by
 have hc:Cb (nz false 1 n):=Cb.of (by decide) (by omega) (by omega)
 refine ⟨toD (nz false 1 n),?_,(outOK hc).2,Ia false 1 n,by decide,?_⟩
 ·unfold AI
  rw [show Dn 1=some ⟨false,1⟩ by kernel_rfl,sB,refOf false 1 n (by unfold Sm;decide) (by omega) (by omega),sB]
 ·rw [Je (by decide)]
  show bl 1≤1
  decide
theorem shift_x {a:Af} {N E:Int} {B m:Nat} (n:Int) (ha:EX a N E B m) (la:Lt a) (h : -3000≤n) (h':n≤3000):∃x,DE (toL a) n=some (x,0)∧EX x N (E+n) B m:=by
 by_cases h0:a.Man.Abs=0
 ·obtain ⟨z1,z2⟩:=ha.v.z h0
  have hz:a=zD:=by
   obtain ⟨⟨s,k⟩,e⟩:=a
   simp only at h0 z1 z2
   subst h0 z1 z2;rfl
  subst hz
  refine ⟨zD,shift_zero n,ha.v,⟨ha.e.1,fun i j hij=>?_⟩,ha.b,ha.m⟩
  obtain ⟨i',j',hij'⟩:=Gu zD.Exp E
  have h1:Z false 0*(2^i':Nat)=N*(2^j':Nat):=ha.e.2 i' j' hij'
  rw [Z0,Int.zero_mul] at h1
  have hN:N=0:=by
   rcases Int.mul_eq_zero.1 h1.symm with h2 | h2
   ·exact h2
   ·have:=p2 j';omega
  show Z false 0*_=_
  rw [hN,Z0,Int.zero_mul,Int.zero_mul]
 ·have hs:=shift_in a n ha.v la h0 ⟨by omega,by omega⟩
  have l1:=la.1.l
  have l2:=la.1.u
  rw [if_pos ⟨by omega,by omega⟩] at hs
  refine ⟨_,hs,⟨ha.v.s,fun h=>absurd h h0,fun h=>⟨(ha.v.o h).1,by show _≤a.Exp+n;omega,by show a.Exp+n≤_;omega⟩⟩,⟨⟨a.Man.Neg,a.Man.Abs,a.Exp+n,(Je (ha.v.o h0).1).symm⟩,fun i j hij=>?_⟩,ha.b,ha.m⟩
  exact ha.e.2 i j (by have:(a.Exp+n) - (E+n)=(i:Int) - j:=hij;show a.Exp - E=_;omega)
structure Alg (a b c:Af) (n:Int) (ab abc bc p r s u w z d one x:Af):Prop where
 e1:BL (toL a) (toL b)=some (ab,0)
 e2:BL (toL b) (toL a)=some (ab,0)
 e3:BL (toL ab) (toL c)=some (abc,0)
 e4:BL (toL b) (toL c)=some (bc,0)
 e5:BL (toL a) (toL bc)=some (abc,0)
 f1:BM (toL a) (toL b)=some (p,0)
 f2:BM (toL b) (toL a)=some (p,0)
 f3:BM (toL a) (toL c)=some (r,0)
 f4:BM (toL a) (toL bc)=some (s,0)
 f5:BL (toL p) (toL r)=some (s,0)
 g1:BM (toL p) (toL c)=some (u,0)
 g2:BM (toL b) (toL c)=some (w,0)
 g3:BM (toL a) (toL w)=some (u,0)
 g4:FH (toL b)=some (z,0)
 g5:FJ (toL a) (toL b)=some (d,0)
 g6:BL (toL a) (toL z)=some (d,0)
 k1:DE (toL a) n=some (x,0)
 k2:AI 1 n=some one
 k3:BM (toL a) (toL one)=some (x,0)
 m1:Sm ab.Man.Abs
 m2:Sm abc.Man.Abs
 m3:Sm p.Man.Abs
 m4:Sm s.Man.Abs
 m5:Sm u.Man.Abs
 m6:Sm d.Man.Abs
 m7:Sm x.Man.Abs
theorem algebra (a b c:Af) (n:Int) (va:VT a) (vb:VT b) (vc:VT c) (ba:bl a.Man.Abs≤640) (bb:bl b.Man.Abs≤640) (bc:bl c.Man.Abs≤640)
  (a1 : -3000≤a.Exp) (a2:a.Exp≤3000) (b1 : -3000≤b.Exp) (b2:b.Exp≤3000) (c1 : -3000≤c.Exp) (c2:c.Exp≤3000) (n1 : -3000≤n) (n2:n≤3000) :
  ∃ab abc bc p r s u w z d one x,Alg a b c n ab abc bc p r s u w z d one x:=by
 obtain ⟨Na,xa⟩:=EX.light va ba a1 a2
 obtain ⟨Nb,xb⟩:=EX.light vb bb b1 b2
 obtain ⟨Nc,xc⟩:=EX.light vc bc c1 c2
 have la:=xa.lt (by omega) (by omega) (by omega)
 have lb:=xb.lt (by omega) (by omega) (by omega)
 obtain ⟨ab,e1,xab⟩:=IE xa xb 6641 (by omega) (by omega) (by omega) (by omega) (by omega) (by omega) (by omega)
 obtain ⟨ba',e2,xba⟩:=IE xb xa 6641 (by omega) (by omega) (by omega) (by omega) (by omega) (by omega) (by omega)
 rw [Int.add_comm Nb Na] at xba
 obtain rfl:=xab.uniq xba
 obtain ⟨abc,e3,xabc⟩:=IE xab xc 6642 (by omega) (by omega) (by omega) (by omega) (by omega) (by omega) (by omega)
 obtain ⟨bc',e4,xbc⟩:=IE xb xc 6641 (by omega) (by omega) (by omega) (by omega) (by omega) (by omega) (by omega)
 obtain ⟨abc',e5,xabc'⟩:=IE xa xbc 6642 (by omega) (by omega) (by omega) (by omega) (by omega) (by omega) (by omega)
 rw [←Int.add_assoc] at xabc'
 obtain rfl:=xabc.uniq xabc'
 obtain ⟨p,f1,xp⟩:=Ij xa xb (by omega) (by omega) (by omega) (by omega) (by omega)
 obtain ⟨q,f2,xq⟩:=Ij xb xa (by omega) (by omega) (by omega) (by omega) (by omega)
 rw [Int.mul_comm Nb Na] at xq
 obtain rfl:=xp.uniq xq
 obtain ⟨r,f3,xr⟩:=Ij xa xc (by omega) (by omega) (by omega) (by omega) (by omega)
 obtain ⟨s,f4,xs⟩:=Ij xa xbc (by omega) (by omega) (by omega) (by omega) (by omega)
 obtain ⟨t,f5,xt⟩:=IE xp xr 13281 (by omega) (by omega) (by omega) (by omega) (by omega) (by omega) (by omega)
 rw [←Int.mul_add] at xt
 obtain rfl:=xs.uniq xt
 obtain ⟨u,g1,xu⟩:=Ij xp xc (by omega) (by omega) (by omega) (by omega) (by omega)
 obtain ⟨w,g2,xw⟩:=Ij xb xc (by omega) (by omega) (by omega) (by omega) (by omega)
 obtain ⟨v,g3,xv⟩:=Ij xa xw (by omega) (by omega) (by omega) (by omega) (by omega)
 rw [←Int.mul_assoc,←Int.add_assoc] at xv
 obtain rfl:=xu.uniq xv
 obtain ⟨g4,xz⟩:=neg_x xb lb
 have lz:=xz.lt (by omega) (by omega) (by omega)
 obtain ⟨d,g5,g6⟩:=sub_x xa.v xb.v la lb
 obtain ⟨d',g6',xd⟩:=IE xa xz 6641 (by omega) (by omega) (by omega) (by omega) (by omega) (by omega) (by omega)
 obtain rfl:d=d':=congrArg Prod.fst (Option.some.inj (g6.symm.trans g6'))
 obtain ⟨x,k1,xx⟩:=shift_x n xa la n1 n2
 obtain ⟨one,k2,xo⟩:=small_x n n1 n2
 obtain ⟨y,k3,xy⟩:=Ij xa xo (by omega) (by omega) (by omega) (by omega) (by omega)
 rw [Int.mul_one] at xy
 obtain rfl:=xx.uniq xy
 exact ⟨_,_,_,_,_,_,_,_,_,_,_,_,e1,e2,e3,e4,e5,f1,f2,f3,f4,f5,g1,g2,g3,g4,g5,g6,k1,k2,k3,xab.v.sm,xabc.v.sm,xp.v.sm,xs.v.sm,xu.v.sm,xd.v.sm,xx.v.sm⟩
theorem valid3_ (x0 x1 x2:Al) (h0:Dig x0.Man.Abs) (h1:Dig x1.Man.Abs) (h2:Dig x2.Man.Abs):∃v,CI x0 x1 x2=some v∧(v=true→∃x y z,x0=toL x∧x1=toL y∧x2=toL z∧VT x∧VT y∧VT z∧Lt2 x∧Lt2 y∧Lt2 z):=by
 obtain ⟨w0,fe0,fk0⟩:=JS x0 h0
 obtain ⟨w1,fe1,fk1⟩:=JS x1 h1
 obtain ⟨w2,fe2,fk2⟩:=JS x2 h2
 obtain ⟨v0,e0,f0,g0⟩:=Jo x0 h0
 obtain ⟨v1,e1,f1,g1⟩:=Jo x1 h1
 obtain ⟨v2,e2,f2,g2⟩:=Jo x2 h2
 refine ⟨w0 && v0 && w1 && v1 && w2 && v2,?_,fun h=>?_⟩
 ·unfold CI
  rw [fe0,fe1,fe2,f0,f1,f2]
  cases w0<;>cases v0<;>cases w1<;>cases v1<;>cases w2<;>cases v2<;>rfl
 ·simp only [Bool.and_eq_true] at h
  obtain ⟨⟨⟨⟨⟨a,b⟩,c⟩,d⟩,e⟩,f⟩:=h
  obtain ⟨x,hx,vx⟩:=g0 b
  obtain ⟨y,hy,vy⟩:=g1 d
  obtain ⟨z,hz,vz⟩:=g2 f
  exact ⟨x,y,z,hx,hy,hz,vx,vy,vz,fk0 a x hx vx,fk1 c y hy vy,fk2 e z hz vz⟩
theorem lawAlgebra (x0 x1 x2:Al) (x3:Int) (h0:Dig x0.Man.Abs) (h1:Dig x1.Man.Abs) (h2:Dig x2.Man.Abs):CX x0 x1 x2 x3=some true:=by
 obtain ⟨v,hv,kv⟩:=valid3_ x0 x1 x2 h0 h1 h2
 unfold CX
 rw [hv,sB,sanity]
 cases v
 ·rfl
 rw [if_neg (by simp),sB]
 by_cases c1:20<(List.length x0.Man.Abs:Int)
 ·rw [decide_eq_true c1];rfl
 rw [decide_eq_false c1,if_neg (by simp),sB]
 by_cases c2:20<(List.length x1.Man.Abs:Int)
 ·rw [decide_eq_true c2];rfl
 rw [decide_eq_false c2,if_neg (by simp),sB]
 by_cases c3:20<(List.length x2.Man.Abs:Int)
 ·rw [decide_eq_true c3];rfl
 rw [decide_eq_false c3,if_neg (by simp),sB]
 by_cases c4:3000<x3
 ·rw [decide_eq_true c4];rfl
 rw [decide_eq_false c4,if_neg (by simp),sB]
 by_cases c5:x3 < -3000
 ·rw [decide_eq_true c5];rfl
 rw [decide_eq_false c5,if_neg (by simp)]
 obtain ⟨a,b,c,rfl,rfl,rfl,va,vb,vc,la,lb,lc⟩:=kv rfl
 have hl:∀d:Af,¬20<(List.length (toL d).Man.Abs:Int)→bl d.Man.Abs≤640:=fun d h=>by
  have e2:(toL d).Man.Abs.length=Sbn.sz d.Man.Abs:=rfl
  have:=IJ (show Sbn.sz d.Man.Abs≤20 by omega);omega
 obtain ⟨ab,abc,bc,p,r,s,u,w,z,d,one,x,A⟩:=algebra a b c x3 va vb vc (hl a c1) (hl b c2) (hl c c3) la.2.1 la.2.2 lb.2.1 lb.2.2 lc.2.1 lc.2.2 (by omega) (by omega)
 have eL:∀d:Af,(⟨⟨d.Man.Neg,limbs d.Man.Abs⟩,d.Exp⟩:Al)=toL d:=fun _=>rfl
 have d0:∀d:Af,(⟨⟨(toL d).Man.Neg,d.Man.Abs⟩,(toL d).Exp⟩:Af)=d:=fun _=>rfl
 have mu:DJ b c=some w:=by
  unfold DJ
  simp only [eL]
  rw [A.g2];rfl
 rw [A.e1,sB,A.e2,sB]
 simp only [eL]
 rw [A.e3,sB,A.e4,sB]
 simp only [eL]
 rw [A.e5,sB,if_neg (by simp),sB,if_neg (by simp),sB,if_neg (by simp),sB,if_neg (by simp),sB]
 simp only
 rw [sameD _ A.m1,sB,if_neg (by simp),sB,if_neg (by simp),sameD _ A.m2,sB,sB,if_neg (by simp)]
 rw [A.f1,sB,A.f2,sB,A.f3,sB,A.f4,sB]
 simp only [eL]
 rw [A.f5,sB,if_neg (by simp),sB,if_neg (by simp),sB,if_neg (by simp),sB,if_neg (by simp),sB]
 simp only
 rw [sameD _ A.m3,sB,if_neg (by simp),sB,if_neg (by simp),sameD _ A.m4,sB,sB,if_neg (by simp)]
 rw [A.g1,sB,toNT,sB,toNT,sB,d0,d0,mu,sB]
 simp only [eL]
 rw [A.g3,sB,A.g4,sB,A.g5,sB]
 simp only [eL]
 rw [A.g6,sB,if_neg (by simp),sB,if_neg (by simp),sB,if_neg (by simp),sB,if_neg (by simp),sB]
 simp only
 rw [sameD _ A.m5,sB,if_neg (by simp),sB,if_neg (by simp),sameD _ A.m6,sB,sB,if_neg (by simp)]
 rw [A.k1,sB,A.k2,sB]
 simp only [eL]
 rw [A.k3,sB,sB,if_pos rfl,sB]
 simp only
 rw [sameD _ A.m7]
 rfl
end Go.Proofs.Pq
