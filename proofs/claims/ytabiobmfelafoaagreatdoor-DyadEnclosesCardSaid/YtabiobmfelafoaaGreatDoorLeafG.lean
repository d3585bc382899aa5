import Derived.Test.YtabiobmfelafoaaGreatDoorBack
import Derived.Test.YtabiobmfelafoaaGreatDoorLeaf2
namespace Go.Proofs.Lf
set_option linter.unusedVariables false
set_option linter.unusedSimpArgs false
set_option maxHeartbeats 4000000
open Go.RowKit Go.Sb Go.Proofs Go.Proofs.Sbn
open Go.Proofs.Tryz
theorem WN.upd {t b n c:Nat} {pre ys xs zs:List Int} {A:OA} {w w':World} (h:WN t b pre ys w A n c xs) (hl:zs.length=xs.length) (q:Bx w' b t (us (pre++zs++ys))):WN t b pre ys w' A n c zs:=⟨hl.trans h.1,h.2.1,q,h.2.2.2⟩
theorem en_264:Ent prog 264:=ent func264 (by kernel_rfl) rfl
theorem en_271:Ent prog 271:=ent func271 (by kernel_rfl) rfl
theorem Mg:Ent prog 272:=ent func272 (by kernel_rfl) rfl
theorem en_282:Ent prog 282:=ent func282 (by kernel_rfl) rfl
theorem en_283:Ent prog 283:=ent func283 (by kernel_rfl) rfl
theorem Pv:Ent prog 251:=ent func251 (by kernel_rfl) rfl
theorem Qq:Ent prog 226:=ent func226 (by kernel_rfl) rfl
theorem en_268:Ent prog 268:=ent func268 (by kernel_rfl) rfl
theorem Sl:Ent prog 249:=ent func249 (by kernel_rfl) rfl
theorem en_267:Ent prog 267:=ent func267 (by kernel_rfl) rfl
def Nh (w:World) (r:List Int × List Int) (v:Value):Prop:=∃(A1:OA) (c1:Nat) (A2:OA) (c2:Nat),v = .tuple #[.slice A1 r.1.length c1,.slice A2 r.2.length c2]∧RLu w A1 c1 r.1∧RLu w A2 c2 r.2
def CR (x0:List Int) (x1:Int):Option (Int):=
 if x1<(x0.length:Int) then (nth x0 x1).bind fun u0a=>
 some (wu64 u0a) else some 0
def LP (x0:Int):Option (List Int):=
 (BQ ([(wu32 x0),(wu32 (x0.fdiv (2^min (32:Int).toNat IntKind.u64.bits)))]:List Int)).bind fun r8=>
 some r8
def GX (x0:List Int):Option (Int):=
 if (x0.length:Int)=0 then some 0 else (nth x0 (wi64 ((x0.length:Int) - 1))).bind fun u0a=>
 (HH u0a).bind fun r1a=>
 some (wi64 ((wi64 (32*(wi64 ((x0.length:Int) - 1))))+r1a))
def DN (x0:List Int) (x1:Int):Nat→Int→List Int→Option (List Int)
 | 0,_,_=>none
 | n2a+1,v0a,v1a=>
 if v0a<(((((wi64 ((x0.length:Int) - (wi64 (x1.tdiv 32)))):Int).toNat):Nat):Int) then (CR x0 (wi64 (v0a+(wi64 (x1.tdiv 32))))).bind fun r3a=>
 (CR x0 (wi64 ((wi64 (v0a+(wi64 (x1.tdiv 32))))+1))).bind fun r4a=>
 (gd (0≤(x1.tmod 32))).bind fun _=>
 (nth v1a v0a).bind fun u5a=>
 DN x0 x1 n2a (wi64 (v0a+1)) (List.set v1a (v0a:Int).toNat (wu32 ((bor .u64 r3a (wu64 (r4a*2^min (32:Int).toNat IntKind.u64.bits))).fdiv (2^min ((x1.tmod 32):Int).toNat IntKind.u64.bits)))) else some (v1a)
def EL (x0:List Int) (x1:Int):Option (List Int):=
 (GX x0).bind fun r7=>
 if r7≤x1 then some ([]:List Int) else (gd (0≤((wi64 ((x0.length:Int) - (wi64 (x1.tdiv 32)))):Int)∧((wi64 ((x0.length:Int) - (wi64 (x1.tdiv 32)))):Int)≤((wi64 ((x0.length:Int) - (wi64 (x1.tdiv 32)))):Int)∧((wi64 ((x0.length:Int) - (wi64 (x1.tdiv 32)))):Int)≤70368744177664)).bind fun _=>
 (DN x0 x1 18446744073709551616 0 (List.replicate ((wi64 ((x0.length:Int) - (wi64 (x1.tdiv 32)))):Int).toNat (0:Int))).bind fun m0a=>
 (BQ m0a).bind fun r1a=>
 some r1a
def EK (x0:List Int) (x1:Int):Nat→Int→Int→List Int→Option (Int × List Int)
 | 0,_,_,_=>none
 | n4a+1,v1a,v0a,v2a=>
 if 0≤v0a then (nth x0 v0a).bind fun u3a=>
 (gd ((wu64 x1)≠0)).bind fun _=>
 (nth v2a v0a).bind fun u5a=>
 (gd ((wu64 x1)≠0)).bind fun _=>
 EK x0 x1 n4a ((bor .u64 (wu64 (v1a*2^min (32:Int).toNat IntKind.u64.bits)) (wu64 u3a)).tmod (wu64 x1)) (wi64 (v0a - 1)) (List.set v2a (v0a:Int).toNat (wu32 (wu64 ((bor .u64 (wu64 (v1a*2^min (32:Int).toNat IntKind.u64.bits)) (wu64 u3a)).tdiv (wu64 x1))))) else some (v1a,v2a)
def GE (x0:List Int) (x1:Int):Option (List Int × List Int):=
 (gd (0≤((x0.length:Int):Int)∧((x0.length:Int):Int)≤((x0.length:Int):Int)∧((x0.length:Int):Int)≤70368744177664)).bind fun _=>
 (EK x0 x1 18446744073709551616 0 (wi64 ((x0.length:Int) - 1)) (List.replicate ((x0.length:Int):Int).toNat (0:Int))).bind fun m0a=>
 (BQ m0a.2).bind fun r1a=>
 (LP m0a.1).bind fun r2a=>
 some (r1a,r2a)
def FZ (x0:List Int) (x1:List Int) (x2:Int):Nat→Int→Int→Int→List Int→Option (Int × List Int)
 | 0,_,_,_,_=>none
 | n6a+1,v2a,v3a,v0a,v1a=>
 if v0a<((x0.length:Nat):Int) then (CR x1 v0a).bind fun r4a=>
 (nth v1a v0a).bind fun u5a=>
 (nth v1a v0a).bind fun u7a=>
 FZ x0 x1 x2 n6a ((wu64 (v2a+(wu64 (x2*r4a)))).fdiv (2^min (32:Int).toNat IntKind.u64.bits)) ((wu64 ((wu64 ((wu64 u5a) - (wu64 (wu32 (wu64 (v2a+(wu64 (x2*r4a)))))))) - v3a)).fdiv (2^min (63:Int).toNat IntKind.u64.bits)) (wi64 (v0a+1)) (List.set v1a (v0a:Int).toNat (wu32 (wu64 ((wu64 ((wu64 u5a) - (wu64 (wu32 (wu64 (v2a+(wu64 (x2*r4a)))))))) - v3a)))) else some (v3a,v1a)
def KH (x0:List Int) (x1:List Int) (x2:Int):Option ((Bool) × List Int):=
 (FZ x0 x1 x2 18446744073709551616 0 0 0 x0).bind fun m0a=>
 some ((decide (0<m0a.1)),m0a.2)
def Gf (x0:List Int) (x1:List Int):Nat→Int→Int→Option (Int)
 | 0,_,_=>none
 | n2a+1,v0a,v1a=>
 (if v1a<4294967296 then (nth x1 (wi64 ((x1.length:Int) - 2))).bind fun u3a=>
 (nth x0 (wi64 ((x1.length:Int) - 2))).bind fun u4a=>
 some (decide ((bor .u64 (wu64 (v1a*2^min (32:Int).toNat IntKind.u64.bits)) (wu64 u4a))<(wu64 (v0a*(wu64 u3a))))) else some (false)).bind fun m5a=>
 if m5a=true then (nth x1 (wi64 ((x1.length:Int) - 1))).bind fun u6a=>
 Gf x0 x1 n2a (wu64 (v0a - 1)) (wu64 (v1a+(wu64 u6a))) else some (v0a)
def Er (x0:List Int) (x1:List Int):Nat→Int→Int→List Int→Option (List Int)
 | 0,_,_,_=>none
 | n5a+1,v2a,v0a,v1a=>
 if v0a<((x0.length:Nat):Int) then (nth v1a v0a).bind fun u3a=>
 (CR x1 v0a).bind fun r4a=>
 (nth v1a v0a).bind fun u6a=>
 Er x0 x1 n5a ((wu64 (v2a+(wu64 ((wu64 u3a)+r4a)))).fdiv (2^min (32:Int).toNat IntKind.u64.bits)) (wi64 (v0a+1)) (List.set v1a (v0a:Int).toNat (wu32 (wu64 (v2a+(wu64 ((wu64 u3a)+r4a)))))) else some (v1a)
def HX (x0:List Int) (x1:List Int):Option ((Int) × List Int):=
 (nth x0 (x1.length:Int)).bind fun u0a=>
 (nth x0 (wi64 ((x1.length:Int) - 1))).bind fun u1a=>
 (nth x1 (wi64 ((x1.length:Int) - 1))).bind fun u32=>
 (gd ((wu64 u32)≠0)).bind fun _=>
 (nth x1 (wi64 ((x1.length:Int) - 1))).bind fun u5a=>
 (Gf x0 x1 18446744073709551616 (min (wu64 ((bor .u64 (wu64 ((wu64 u0a)*2^min (32:Int).toNat IntKind.u64.bits)) (wu64 u1a)).tdiv (wu64 u32))) 4294967295) (wu64 ((bor .u64 (wu64 ((wu64 u0a)*2^min (32:Int).toNat IntKind.u64.bits)) (wu64 u1a)) - (wu64 ((min (wu64 ((bor .u64 (wu64 ((wu64 u0a)*2^min (32:Int).toNat IntKind.u64.bits)) (wu64 u1a)).tdiv (wu64 u32))) 4294967295)*(wu64 u5a)))))).bind fun m2a=>
 (KH x0 x1 m2a).bind fun r3a=>
 (if r3a.1=true then (Er x0 x1 18446744073709551616 0 0 r3a.2).bind fun m6a=>
 some ((wu64 (m2a - 1)),m6a) else some (m2a,r3a.2)).bind fun m4a=>
 some ((wu32 m4a.1),m4a.2)
def Ed (x0:List Int) (x1:List Int) (r1a:List Int):Nat→Int→List Int→List Int→Option (List Int × List Int)
 | 0,_,_,_=>none
 | n5a+1,v0a,v3a,v2a=>
 if 0≤v0a then (gd (0≤(v0a:Int)∧(v0a:Int)<(wi64 ((wi64 (v0a+(r1a.length:Int)))+1))∧(wi64 ((wi64 (v0a+(r1a.length:Int)))+1))≤(v2a.length:Int))).bind fun _=>
 (HX ((List.drop ((v0a:Int).toNat) v2a).take ((((wi64 ((wi64 (v0a+(r1a.length:Int)))+1)):Int).toNat) - ((v0a:Int).toNat))) r1a).bind fun r4a=>
 (nth v3a v0a).bind fun u6a=>
 Ed x0 x1 r1a n5a (wi64 (v0a - 1)) (List.set v3a (v0a:Int).toNat r4a.1) (((v2a).take ((v0a:Int).toNat))++r4a.2++((v2a).drop (((wi64 ((wi64 (v0a+(r1a.length:Int)))+1)):Int).toNat))) else some (v3a,v2a)
def BP (x0:List Int) (x1:List Int):Option (List Int × List Int):=
 if (x1.length:Int)=1 then (nth x1 0).bind fun u5a=>
 (GE x0 u5a).bind fun r2a=>
 some (r2a.1,r2a.2) else (CQ x0 x1).bind fun r6a=>
 if r6a<0 then some (([]:List Int),x0) else (nth x1 (wi64 ((x1.length:Int) - 1))).bind fun u7a=>
 (Bf u7a).bind fun r1a=>
 (DZ x1 r1a).bind fun r0a=>
 (gd (0≤((wi64 ((x0.length:Int)+1)):Int)∧((wi64 ((x0.length:Int)+1)):Int)≤((wi64 ((x0.length:Int)+1)):Int)∧((wi64 ((x0.length:Int)+1)):Int)≤70368744177664)).bind fun _=>
 (DZ x0 r1a).bind fun r3a=>
 (gd (0≤((wi64 ((((((wi64 ((x0.length:Int)+1)):Int).toNat):Nat):Int) - (r0a.length:Int))):Int)∧((wi64 ((((((wi64 ((x0.length:Int)+1)):Int).toNat):Nat):Int) - (r0a.length:Int))):Int)≤((wi64 ((((((wi64 ((x0.length:Int)+1)):Int).toNat):Nat):Int) - (r0a.length:Int))):Int)∧((wi64 ((((((wi64 ((x0.length:Int)+1)):Int).toNat):Nat):Int) - (r0a.length:Int))):Int)≤70368744177664)).bind fun _=>
 (Ed x0 x1 r0a 18446744073709551616 (wi64 ((((((wi64 ((((((wi64 ((x0.length:Int)+1)):Int).toNat):Nat):Int) - (r0a.length:Int))):Int).toNat):Nat):Int) - 1)) (List.replicate ((wi64 ((((((wi64 ((x0.length:Int)+1)):Int).toNat):Nat):Int) - (r0a.length:Int))):Int).toNat (0:Int)) ((r3a).take (List.length (List.replicate ((wi64 ((x0.length:Int)+1)):Int).toNat (0:Int)))++(List.replicate ((wi64 ((x0.length:Int)+1)):Int).toNat (0:Int)).drop r3a.length)).bind fun m4a=>
 (BQ m4a.1).bind fun r8a=>
 (BQ m4a.2).bind fun r9a=>
 (EL r9a r1a).bind fun r0b=>
 some (r8a,r0b)
def DO (x0:List Int) (x1:List Int):Nat→Int→Int→List Int→Option (List Int)
 | 0,_,_,_=>none
 | n5a+1,v2a,v0a,v1a=>
 if v0a<(((((wi64 ((max (x0.length:Int) (x1.length:Int))+1)):Int).toNat):Nat):Int) then (CR x0 v0a).bind fun r3a=>
 (CR x1 v0a).bind fun r4a=>
 (nth v1a v0a).bind fun u6a=>
 DO x0 x1 n5a ((wu64 (v2a+(wu64 (r3a+r4a)))).fdiv (2^min (32:Int).toNat IntKind.u64.bits)) (wi64 (v0a+1)) (List.set v1a (v0a:Int).toNat (wu32 (wu64 (v2a+(wu64 (r3a+r4a)))))) else some (v1a)
def DW (x0:List Int) (x1:List Int):Option (List Int):=
 (gd (0≤((wi64 ((max (x0.length:Int) (x1.length:Int))+1)):Int)∧((wi64 ((max (x0.length:Int) (x1.length:Int))+1)):Int)≤((wi64 ((max (x0.length:Int) (x1.length:Int))+1)):Int)∧((wi64 ((max (x0.length:Int) (x1.length:Int))+1)):Int)≤70368744177664)).bind fun _=>
 (DO x0 x1 18446744073709551616 0 0 (List.replicate ((wi64 ((max (x0.length:Int) (x1.length:Int))+1)):Int).toNat (0:Int))).bind fun m0a=>
 (BQ m0a).bind fun r1a=>
 some r1a
def DK (x0:List Int) (x1:List Int):Nat→Int→Int→List Int→Option (List Int)
 | 0,_,_,_=>none
 | n5a+1,v2a,v0a,v1a=>
 if v0a<(((((x0.length:Int):Int).toNat):Nat):Int) then (CR x0 v0a).bind fun r3a=>
 (CR x1 v0a).bind fun r4a=>
 (nth v1a v0a).bind fun u6a=>
 DK x0 x1 n5a ((wu64 ((wu64 (r3a - r4a)) - v2a)).fdiv (2^min (63:Int).toNat IntKind.u64.bits)) (wi64 (v0a+1)) (List.set v1a (v0a:Int).toNat (wu32 (wu64 ((wu64 (r3a - r4a)) - v2a)))) else some (v1a)
def DV (x0:List Int) (x1:List Int):Option (List Int):=
 (gd (0≤((x0.length:Int):Int)∧((x0.length:Int):Int)≤((x0.length:Int):Int)∧((x0.length:Int):Int)≤70368744177664)).bind fun _=>
 (DK x0 x1 18446744073709551616 0 0 (List.replicate ((x0.length:Int):Int).toNat (0:Int))).bind fun m0a=>
 (BQ m0a).bind fun r1a=>
 some r1a
theorem Fu (x0:List Int) (x1:Int) (A1:OA) (c2:Nat) (w:World) (hT:TB w) (n3:RLu w A1 c2 x0) (r:Int) (hr:CR x0 x1=some r) :
  Calls prog 272 #[.slice A1 x0.length c2,.int .i64 x1] w (Ret MY w r):=by
 unfold CR at hr
 go_enter func272,ntmps272
 refine ws fun h4=>Ah<|sV (Ab rfl) ?_
 refine wh h4<|ws fun h5=>ws fun h6=>Ah<|sV3 (Aa rfl) (Aa rfl) (AD AG rfl) ?_
 refine sbl (Bv rfl rfl) fun z7 hz7=>?_
 refine wh h6 ?_
 rcases zi hz7 hr with ⟨e0a,_,f1a⟩ | ⟨e0a,_,f2a⟩
 ·refine ct e0a<|ws fun h3a=>Ah<|sV2 (Aa rfl) (Aa rfl) ?_
  obtain ⟨u4a,h5a,f6a⟩:=Ad f1a
  obtain ⟨bb34,oo35,hA7a,ia8a,ib9a,hc37⟩:=RL.nth n3 h5a
  refine sV3 (AA AG Av rfl rfl hA7a ia8a ib9a) (Ag AZ rfl hc37) (AO (c:=wu64 u4a) AQ AN rfl rfl) ?_
  refine sV (Ab rfl) ?_
  refine wh h3a<|wp_ret ?_
  exact Bn f6a (Ext.refl _) rfl
 ·refine cf e0a<|wp_skip<|h5 _ _<|ws fun h0b=>Ah<|sV (Ab rfl) ?_
  refine wh h0b<|wp_ret ?_
  exact Bn f2a (Ext.refl _) rfl
theorem c_nat_of (x0:Int) (w:World) (hT:TB w) (r:List Int) (hr:LP x0=some r) :
  Calls prog 282 #[.int .u64 x0] w (Ret Kx w r):=by
 unfold LP at hr
 go_enter func282,ntmps282
 refine ws fun h1=>Ah<|sV (Ab rfl) ?_
 refine nx h1 fun h2=>sV3 (Aa rfl) (AO (c:=wu32 x0) AN AQ rfl rfl) (Aa rfl) ?_
 refine sV (IX (c:=x0.fdiv (2^min (32:Int).toNat IntKind.u64.bits)) (by decide) rfl rfl rfl) ?_
 refine sV (AO (c:=wu32 (x0.fdiv (2^min (32:Int).toNat IntKind.u64.bits))) AN AQ rfl rfl) ?_
 refine Dj (vals:=[(0,.int .u32 (wu32 x0)),(1,.int .u32 (wu32 (x0.fdiv (2^min (32:Int).toNat IntKind.u64.bits))))]) (cs:=[.int .u32 (wu32 x0),.int .u32 (wu32 (x0.fdiv (2^min (32:Int).toNat IntKind.u64.bits)))]) AG Av Jr (by rfl) (by decide) (by kernel_rfl) fun b4 w1 E3 g5 q6=>?_
 refine nrm ?_
 have n7:RLu w1 (some ⟨b4,0,none⟩) 2 [(wu32 x0),(wu32 (x0.fdiv (2^min (32:Int).toNat IntKind.u64.bits)))]:=(OW.lit (n0:=0) (n:=2) (xs:=[(wu32 x0),(wu32 (x0.fdiv (2^min (32:Int).toNat IntKind.u64.bits)))]) q6 (Nat.zero_le _) rfl (by decide)).rl
 refine scn hr (Ac Lv (by rfl)) (DE ([(wu32 x0),(wu32 (x0.fdiv (2^min (32:Int).toNat IntKind.u64.bits)))]:List Int) (some ⟨b4,0,none⟩) 2 w1 (tbx E3 hT) n7) fun r8 f0a w2 A1a c2a E3a n4a=>?_
 have X5a:=xtr E3 E3a
 refine sV (Ab rfl) ?_
 refine wh h2<|wp_ret ?_
 exact Bn f0a X5a ⟨A1a,c2a,rfl,n4a⟩
theorem c_nat_limbs_size (x0:List Int) (A1:OA) (c2:Nat) (w:World) (hT:TB w) (n3:RLu w A1 c2 x0) (r:Int) (hr:GX x0=some r) :
  Calls prog 271 #[.slice A1 x0.length c2] w (Ret HY w r):=by
 unfold GX at hr
 go_enter func271,ntmps271
 refine ws fun h4=>Ah<|sV (Ab rfl) ?_
 refine wh h4<|ws fun h5=>ws fun h6=>Ah<|sV2 (Aa rfl) (AD AG rfl) ?_
 refine sbl (Cy rfl rfl) fun z7 hz7=>?_
 refine wh h6 ?_
 rcases zi hz7 hr with ⟨e0a,_,f1a⟩ | ⟨e0a,_,f2a⟩
 ·refine ct e0a<|ws fun h3a=>Ah<|sV (Ab rfl) ?_
  refine wh h3a<|wp_ret ?_
  exact Bn f1a (Ext.refl _) rfl
 ·refine cf e0a<|wp_skip<|h5 _ _<|ws fun h4a=>Ah<|sV3 (Aa rfl) (AD AG rfl) (Bt (c:=wi64 ((x0.length:Int) - 1)) rfl rfl rfl) ?_
  refine sV3 (KS (c:=wi64 (32*(wi64 ((x0.length:Int) - 1)))) rfl rfl rfl) (Aa rfl) (Aa rfl) ?_
  refine sV2 (AD AG rfl) (Bt (c:=wi64 ((x0.length:Int) - 1)) rfl rfl rfl) ?_
  obtain ⟨u5a,h6a,f7a⟩:=Ad f2a
  obtain ⟨bb23,oo24,hA8a,ia9a,ib0b,hc26⟩:=RL.nth n3 h6a
  refine sV2 (AA AG Av rfl rfl hA8a ia9a ib0b) (Ag AZ rfl hc26) ?_
  refine scr f7a (Ac en_264 (by rfl)) (c_math_bits_Len32 u5a w hT) fun r1b f32 w1 E2b=>?_
  refine sV2 (AV (c:=wi64 ((wi64 (32*(wi64 ((x0.length:Int) - 1))))+r1b)) rfl rfl rfl) (Ab rfl) ?_
  refine wh h4a<|wp_ret ?_
  exact Bn f32 E2b rfl
theorem JR (x0:List Int) (x1:Int) (A1:OA) (c2:Nat) (w:World) (hT:TB w) (n3:RLu w A1 c2 x0) (r:List Int) (hr:EL x0 x1=some r) :
  Calls prog 249 #[.slice A1 x0.length c2,.int .i64 x1] w (Ret Kx w r):=by
 unfold EL at hr
 go_enter func249,ntmps249
 refine ws fun h4=>Ah<|sV (Ab rfl) ?_
 refine wh h4<|ws fun h5=>ws fun h6=>Ah<|sV2 (Aa rfl) (Aa rfl) ?_
 refine scr hr (Ac en_271 (by rfl)) (c_nat_limbs_size x0 A1 c2 w hT n3) fun r7 f9 w1 E6a=>?_
 refine sbl (Hb rfl rfl) fun z6b hz6b=>?_
 refine wh h6 ?_
 rcases zi hz6b f9 with ⟨e7a,_,f8c⟩ | ⟨e7a,_,f9c⟩
 ·refine ct e7a<|ws fun h0d=>Ah<|sV (Ab rfl) ?_
  refine wh h0d<|wp_ret ?_
  exact Bn f8c E6a ⟨none,0,rfl,(RL.nil _ _ _)⟩
 ·refine cf e7a<|wp_skip<|h5 _ _<|ws fun h1d=>Ah<|sV3 (Aa rfl) (AD AG rfl) (Aa rfl) ?_
  refine sV (Ji (c:=wi64 (x1.tdiv 32)) (by decide) rfl rfl rfl) ?_
  refine sV (Bt (c:=wi64 ((x0.length:Int) - (wi64 (x1.tdiv 32)))) rfl rfl rfl) ?_
  obtain ⟨_,h2d,f3d⟩:=Ad f9c
  have gd26:=AI h2d
  refine IH AG ER rfl rfl gd26 fun A1a w2 E7b ow4d=>?_
  refine nrm ?_
  have X5d:=xtr E6a E7b
  refine sV (Ab rfl) ?_
  refine wh h1d<|ws fun h6d=>ws fun h7d=>Ah<|sV3 (Aa rfl) (AD AG rfl) (Aa rfl) ?_
  refine wh h7d ?_
  obtain ⟨m8a,h8d,f9d⟩:=Ad f3d
  refine CG (fun l l' w'=>Ext w w'∧Ext w1 w'∧OW 179 w1.heap.size w' A1a (((wi64 ((x0.length:Int) - (wi64 (x1.tdiv 32)))):Int).toNat) (((wi64 ((x0.length:Int) - (wi64 (x1.tdiv 32)))):Int).toNat) m8a∧Fr l' (fun t9a=>gp t9a 0 5 (.slice A1a (((wi64 ((x0.length:Int) - (wi64 (x1.tdiv 32)))):Int).toNat) (((wi64 ((x0.length:Int) - (wi64 (x1.tdiv 32)))):Int).toNat)::gp t9a 6 43 []))) ?_ ?_
  ·apply wp_block
   refine Bp (fun l n8b l' w'=>∃(v0a:Int) (v2a:List Int),Ext w w'∧Ext w1 w'∧OW 179 w1.heap.size w' A1a (((wi64 ((x0.length:Int) - (wi64 (x1.tdiv 32)))):Int).toNat) (((wi64 ((x0.length:Int) - (wi64 (x1.tdiv 32)))):Int).toNat) v2a∧DN x0 x1 n8b v0a v2a=some m8a∧Fr l' (fun t3a=>.slice A1 x0.length c2::.int .i64 x1::gp t3a 2 3 (.slice A1a (((wi64 ((x0.length:Int) - (wi64 (x1.tdiv 32)))):Int).toNat) (((wi64 ((x0.length:Int) - (wi64 (x1.tdiv 32)))):Int).toNat)::gp t3a 6 13 (.int .i64 (((((wi64 ((x0.length:Int) - (wi64 (x1.tdiv 32)))):Int).toNat):Nat):Int)::.int .i64 v0a::gp t3a 21 28 [])))) 18446744073709551616 ?_ ?_ ?_
   ·exact ⟨0,(List.replicate ((wi64 ((x0.length:Int) - (wi64 (x1.tdiv 32)))):Int).toNat (0:Int)),X5d,E7b,ow4d,h8d,(Fr.mk (by kernel_rfl))⟩
   ·rintro l' w' ⟨v0a,v2a,_,_,_,hz,_⟩
    exact nomatch hz
   ·rintro n8b ih0e _ w3 ⟨v0a,v2a,X4a,X9b,ow0c,hr1c,⟨t3a,rfl⟩⟩ l'' hl
    simp only [gp,Nat.reduceAdd] at hl
    subst hl
    unfold DN at hr1c
    refine AW<|ws fun h1e=>Ah<|sbl (Bv rfl rfl) fun z2c hz2c=>?_
    refine wh h1e<|ws fun h2e=>?_
    rcases zi hz2c hr1c with ⟨e0b,_,f3e⟩ | ⟨e0b,_,f4e⟩
    ·refine ct e0b<|wp_skip<|h2e _ _<|ws fun h5e=>?_
     apply wp_block
     refine ws fun h6e=>Ah<|sV2 (Aa rfl) (Ab rfl) ?_
     refine nx h6e fun h7e=>sV3 (Aa rfl) (Aa rfl) (Aa rfl) ?_
     refine sV (Ji (c:=wi64 (x1.tdiv 32)) (by decide) rfl rfl rfl) ?_
     refine sV (AV (c:=wi64 (v0a+(wi64 (x1.tdiv 32)))) rfl rfl rfl) ?_
     refine scr f3e (Ac Mg (by rfl)) (Fu x0 (wi64 (v0a+(wi64 (x1.tdiv 32)))) A1 c2 w3 (tbx X4a hT) (n3.ext X4a)) fun r1b f8e w4 E2b=>?_
     have X3b:=xtr X4a E2b
     have X9e:=xtr X9b E2b
     refine sV3 (Aa rfl) (Aa rfl) (Aa rfl) ?_
     refine sV (Ji (c:=wi64 (x1.tdiv 32)) (by decide) rfl rfl rfl) ?_
     refine sV2 (AV (c:=wi64 (v0a+(wi64 (x1.tdiv 32)))) rfl rfl rfl) (AV (c:=wi64 ((wi64 (v0a+(wi64 (x1.tdiv 32))))+1)) rfl rfl rfl) ?_
     refine scr f8e (Ac Mg (by rfl)) (Fu x0 (wi64 ((wi64 (v0a+(wi64 (x1.tdiv 32))))+1)) A1 c2 w4 (tbx X3b hT) (n3.ext X3b)) fun r5a f0f w5 E4b=>?_
     have X1f:=xtr X3b E4b
     have X2f:=xtr X9e E4b
     refine sV (LQ (c:=wu64 (r5a*2^min (32:Int).toNat IntKind.u64.bits)) (by decide) rfl rfl rfl) ?_
     refine sV2 (Oq rfl rfl) (Ab rfl) ?_
     refine wh h7e<|Ah<|sV3 (Aa rfl) (Aa rfl) (Aa rfl) ?_
     refine sV2 (Aa rfl) (LD (c:=x1.tmod 32) (by decide) rfl rfl rfl) ?_
     obtain ⟨_,h3f,f4f⟩:=Ad f0f
     have gd349:=AI h3f
     refine sV2 (IX (c:=(bor .u64 r1b (wu64 (r5a*2^min (32:Int).toNat IntKind.u64.bits))).fdiv (2^min ((x1.tmod 32):Int).toNat IntKind.u64.bits)) gd349 rfl rfl rfl) (AO (c:=wu32 ((bor .u64 r1b (wu64 (r5a*2^min (32:Int).toNat IntKind.u64.bits))).fdiv (2^min ((x1.tmod 32):Int).toNat IntKind.u64.bits))) AN AQ rfl rfl) ?_
     have ow5b:=(ow0c.ext E2b).ext E4b
     obtain ⟨u7g,h5f,f6f⟩:=Ad f4f
     obtain ⟨bb354,hA3c,hz8g,ia4c,ib5c,hc359⟩:=OW.nthc ow5b h5f
     refine sV (AA AG Av rfl rfl hA3c ia4c ib5c) ?_
     refine MW Av rfl rfl ow5b hA3c ia4c (by rw [OW.len ow5b];exact ib5c) fun w6 B360 U9g ow7f=>?_
     have X8f:=xO X1f B360 E6a.size
     have X9f:=xO X2f B360 (Nat.le_refl _)
     refine wh h5e<|Ah<|sV2 (AV (c:=wi64 (v0a+1)) rfl rfl rfl) (Aa rfl) ?_
     refine AF ?_
     exact ih0e _ _ ⟨(wi64 (v0a+1)),(List.set v2a (v0a:Int).toNat (wu32 ((bor .u64 r1b (wu64 (r5a*2^min (32:Int).toNat IntKind.u64.bits))).fdiv (2^min ((x1.tmod 32):Int).toNat IntKind.u64.bits)))),X8f,X9f,ow7f,f6f,(Fr.mk (by kernel_rfl))⟩
    ·refine cf e0b<|wp_exit ?_
     simp only [Exit.then,Exit.inBlock,↓reduceIte,Nat.reduceEqDiff]
     obtain rfl:=sj f4e
     exact ⟨_,rfl,X4a,X9b,ow0c,(Fr.mk (by kernel_rfl))⟩
  ·rintro _ w3 ⟨X6c,X0h,ow7c,⟨t9a,rfl⟩⟩ l'' hl
   simp only [gp,Nat.reduceAdd] at hl
   subst hl
   refine h6d _ _<|ws fun h0g=>Ah<|sV (Aa rfl) ?_
   refine scn f9d (Ac Lv (by simp only [OW.len ow7c];rfl)) (DE m8a A1a (((wi64 ((x0.length:Int) - (wi64 (x1.tdiv 32)))):Int).toNat) w3 (tbx X6c hT) (OW.rl ow7c)) fun r1h f1g w4 A2g c3g E4g n5g=>?_
   have X6g:=xtr X6c E4g
   refine sV (Ab rfl) ?_
   refine wh h0g<|wp_ret ?_
   exact Bn f1g X6g ⟨A2g,c3g,rfl,n5g⟩
theorem c_nat_limbs_short (x0:List Int) (x1:Int) (A1:OA) (c2:Nat) (w:World) (hT:TB w) (n3:RLu w A1 c2 x0) (r:List Int × List Int) (hr:GE x0 x1=some r) :
  Calls prog 267 #[.slice A1 x0.length c2,.int .u32 x1] w (Ret Nh w r):=by
 unfold GE at hr
 go_enter func267,ntmps267
 refine ws fun h4=>Ah<|sV2 (Ab rfl) (Ab rfl) ?_
 refine nx h4 fun h5=>sV2 (Aa rfl) (AD AG rfl) ?_
 obtain ⟨_,h6,f7⟩:=Ad hr
 have gd8:=AI h6
 refine IH AG ER rfl rfl gd8 fun A9 w1 E0c ow1c=>?_
 refine nrm ?_
 refine sV (Ab rfl) ?_
 refine nx h5 fun h2c=>sV (Ab rfl) ?_
 refine wh h2c<|ws fun h3c=>ws fun h4c=>Ah<|sV3 (Aa rfl) (AD AG rfl) (Bt (c:=wi64 ((x0.length:Int) - 1)) rfl rfl rfl) ?_
 refine sV (Ab rfl) ?_
 refine wh h4c ?_
 obtain ⟨m3a,h5c,f6c⟩:=Ad f7
 refine CG (fun l l' w'=>Ext w w'∧OW 179 w.heap.size w' A9 (((x0.length:Int):Int).toNat) (((x0.length:Int):Int).toNat) m3a.2∧Fr l' (fun t6a=>gp t6a 0 6 (.slice A9 (((x0.length:Int):Int).toNat) (((x0.length:Int):Int).toNat)::.int .u64 m3a.1::gp t6a 8 35 []))) ?_ ?_
 ·apply wp_block
  refine Bp (fun l n0b l' w'=>∃(v0a:Int) (v1a:Int) (v4a:List Int),Ext w w'∧OW 179 w.heap.size w' A9 (((x0.length:Int):Int).toNat) (((x0.length:Int):Int).toNat) v4a∧EK x0 x1 n0b v0a v1a v4a=some m3a∧Fr l' (fun t7a=>.slice A1 x0.length c2::.int .u32 x1::gp t7a 2 4 (.slice A9 (((x0.length:Int):Int).toNat) (((x0.length:Int):Int).toNat)::.int .u64 v0a::.int .i64 v1a::gp t7a 9 34 []))) 18446744073709551616 ?_ ?_ ?_
  ·exact ⟨0,(wi64 ((x0.length:Int) - 1)),(List.replicate ((x0.length:Int):Int).toNat (0:Int)),E0c,ow1c,h5c,(Fr.mk (by kernel_rfl))⟩
  ·rintro l' w' ⟨v0a,v1a,v4a,_,_,hz,_⟩
   exact nomatch hz
  ·rintro n0b ih7c _ w2 ⟨v0a,v1a,v4a,X8a,ow5a,hr1b,⟨t7a,rfl⟩⟩ l'' hl
   simp only [gp,Nat.reduceAdd] at hl
   subst hl
   unfold EK at hr1b
   refine AW<|ws fun h8c=>ws fun h9c=>Ah<|sV (Aa rfl) ?_
   refine sbl (Hb rfl rfl) fun z2b hz2b=>?_
   refine wh h9c ?_
   rcases zi hz2b hr1b with ⟨e9a,_,f0d⟩ | ⟨e9a,_,f1d⟩
   ·refine ct e9a<|wp_skip<|h8c _ _<|ws fun h2d=>?_
    apply wp_block
    refine ws fun h3d=>Ah<|sV2 (Aa rfl) (LQ (c:=wu64 (v0a*2^min (32:Int).toNat IntKind.u64.bits)) (by decide) rfl rfl rfl) ?_
    refine sV2 (Aa rfl) (Aa rfl) ?_
    obtain ⟨u2a,h4d,f5d⟩:=Ad f0d
    obtain ⟨bb310,oo311,hA6d,ia7d,ib8d,hc313⟩:=RL.nth (n3.ext X8a) h4d
    refine sV3 (AA AG Av rfl rfl hA6d ia7d ib8d) (Ag AZ rfl hc313) (AO (c:=wu64 u2a) AQ AN rfl rfl) ?_
    refine sV2 (Oq rfl rfl) (Ab rfl) ?_
    refine nx h3d fun h9d=>sV3 (Aa rfl) (Aa rfl) (Aa rfl) ?_
    refine sV2 (Aa rfl) (AO (c:=wu64 x1) AQ AN rfl rfl) ?_
    obtain ⟨_,h0e,f1e⟩:=Ad f5d
    have gd320:=AI h0e
    refine sV2 (Ji (c:=wu64 ((bor .u64 (wu64 (v0a*2^min (32:Int).toNat IntKind.u64.bits)) (wu64 u2a)).tdiv (wu64 x1))) (decide_eq_true gd320) rfl rfl rfl) (AO (c:=wu32 (wu64 ((bor .u64 (wu64 (v0a*2^min (32:Int).toNat IntKind.u64.bits)) (wu64 u2a)).tdiv (wu64 x1)))) AN AQ rfl rfl) ?_
    obtain ⟨u9f,h2e,f3e⟩:=Ad f1e
    obtain ⟨bb324,hA3b,hz0g,ia4b,ib5b,hc329⟩:=OW.nthc ow5a h2e
    refine sV (AA AG Av rfl rfl hA3b ia4b ib5b) ?_
    refine MW Av rfl rfl ow5a hA3b ia4b (by rw [OW.len ow5a];exact ib5b) fun w3 B330 U1g ow4e=>?_
    have X5e:=xO X8a B330 (Nat.le_refl _)
    refine wh h9d<|Ah<|sV3 (Aa rfl) (Aa rfl) (AO (c:=wu64 x1) AQ AN rfl rfl) ?_
    obtain ⟨_,h6e,f7e⟩:=Ad f3e
    have gd336:=AI h6e
    refine sV2 (LD (c:=(bor .u64 (wu64 (v0a*2^min (32:Int).toNat IntKind.u64.bits)) (wu64 u2a)).tmod (wu64 x1)) (decide_eq_true gd336) rfl rfl rfl) (Ab rfl) ?_
    refine wh h2d<|Ah<|sV3 (Aa rfl) (Bt (c:=wi64 (v1a - 1)) rfl rfl rfl) (Ab rfl) ?_
    refine AF ?_
    exact ih7c _ _ ⟨((bor .u64 (wu64 (v0a*2^min (32:Int).toNat IntKind.u64.bits)) (wu64 u2a)).tmod (wu64 x1)),(wi64 (v1a - 1)),(List.set v4a (v1a:Int).toNat (wu32 (wu64 ((bor .u64 (wu64 (v0a*2^min (32:Int).toNat IntKind.u64.bits)) (wu64 u2a)).tdiv (wu64 x1))))),X5e,ow4e,f7e,(Fr.mk (by kernel_rfl))⟩
   ·refine cf e9a<|wp_exit ?_
    simp only [Exit.then,Exit.inBlock,↓reduceIte,Nat.reduceEqDiff]
    obtain rfl:=sj f1d
    exact ⟨_,rfl,X8a,ow5a,(Fr.mk (by kernel_rfl))⟩
 ·rintro _ w2 ⟨X6b,ow7b,⟨t6a,rfl⟩⟩ l'' hl
  simp only [gp,Nat.reduceAdd] at hl
  subst hl
  refine h3c _ _<|ws fun h8e=>Ah<|sV (Aa rfl) ?_
  refine scn f6c (Ac Lv (by simp only [OW.len ow7b];rfl)) (DE m3a.2 A9 (((x0.length:Int):Int).toNat) w2 (tbx X6b hT) (OW.rl ow7b)) fun r2g f9e w3 A0f c1f E2f n3f=>?_
  have X8b:=xtr X6b E2f
  refine sV (Aa rfl) ?_
  refine scn f9e (Ac en_282 (by rfl)) (c_nat_of m3a.1 w3 (tbx X8b hT)) fun r3g f4f w4 A5f c6f E9b n7f=>?_
  have X8f:=xtr X8b E9b
  refine sV2 (Ab rfl) (Ab rfl) ?_
  refine wh h8e<|wp_ret ?_
  exact Gd f4f rfl (Res.tmp rfl (Res.tmp rfl Res.nil)) (AJ X8f ⟨A0f,c1f,A5f,c6f,rfl,(n3f.ext E9b),n7f⟩)
theorem c_nat_takes (x0:List Int) (x1:List Int) (x2:Int) (A1:OA) (c2:Nat) (A4:OA) (c5:Nat) (bp0:Nat) (pre ys:List Int) (w:World) (hT:TB w) (q0:WN 179 bp0 pre ys w A1 x0.length c2 x0) (hb0:bp0≠0) (n6:RLu w A4 c5 x1) (ap0:Apart A4 x1 bp0) (r:(Bool) × List Int) (hr:KH x0 x1 x2=some r) :
  Calls prog 283 #[.slice A1 x0.length c2,.slice A4 x1.length c5,.int .u64 x2] w (RetW 179 bp0 pre ys x0.length Gi w r):=by
 unfold KH at hr
 go_enter func283,ntmps283
 refine ws fun h7=>Ah<|sV (Ab rfl) ?_
 refine nx h7 fun h8=>sV2 (Ab rfl) (Ab rfl) ?_
 refine wh h8<|ws fun h9=>ws fun h2c=>Ah<|sV3 (Aa rfl) (AD AG rfl) (Aa rfl) ?_
 refine wh h2c ?_
 obtain ⟨m6a,h3c,f4c⟩:=Ad hr
 refine CG (fun l l' w'=>UpdS [bp0] w w'∧WN 179 bp0 pre ys w' A1 x0.length c2 m6a.2∧Fr l' (fun t0b=>gp t0b 0 8 (.int .u64 m6a.1::gp t0b 9 37 []))) ?_ ?_
 ·apply wp_block
  refine Bp (fun l n3b l' w'=>∃(v0a:Int) (v2a:Int) (v3a:Int) (v5a:List Int),UpdS [bp0] w w'∧WN 179 bp0 pre ys w' A1 x0.length c2 v5a∧FZ x0 x1 x2 n3b v0a v2a v3a v5a=some m6a∧Fr l' (fun t7a=>.slice A1 x0.length c2::.slice A4 x1.length c5::.int .u64 x2::gp t7a 3 4 (.int .u64 v0a::.int .u64 v2a::gp t7a 9 3 (.int .i64 ((x0.length:Nat):Int)::.int .i64 v3a::gp t7a 14 32 [])))) 18446744073709551616 ?_ ?_ ?_
  ·exact ⟨0,0,0,x0,(UpdS.refl [bp0] w),q0,h3c,(Fr.mk (by kernel_rfl))⟩
  ·rintro l' w' ⟨v0a,v2a,v3a,v5a,_,_,hz,_⟩
   exact nomatch hz
  ·rintro n3b ih5c _ w1 ⟨v0a,v2a,v3a,v5a,X8a,ow4b,hr5b,⟨t7a,rfl⟩⟩ l'' hl
   simp only [gp,Nat.reduceAdd] at hl
   subst hl
   unfold FZ at hr5b
   refine AW<|ws fun h6c=>Ah<|sbl (Bv rfl rfl) fun z6b hz6b=>?_
   refine wh h6c<|ws fun h7c=>?_
   rcases zi hz6b hr5b with ⟨e1b,_,f8c⟩ | ⟨e1b,_,f9c⟩
   ·refine ct e1b<|wp_skip<|h7c _ _<|ws fun h0d=>?_
    apply wp_block
    refine ws fun h1d=>Ah<|sV2 (Aa rfl) (Ab rfl) ?_
    refine nx h1d fun h2d=>sV3 (Aa rfl) (Aa rfl) (Aa rfl) ?_
    refine sV (Aa rfl) ?_
    refine scr f8c (Ac Mg (by rfl)) (Fu x1 v3a A4 c5 w1 (TB.updW X8a hb0 hT) (RL.updW n6 X8a ap0)) fun r1a f3d w2 E7b=>?_
    have X4d:=UpdS.ext X8a E7b
    refine sV3 (KS (c:=wu64 (x2*r1a)) rfl rfl rfl) (AV (c:=wu64 (v0a+(wu64 (x2*r1a)))) rfl rfl rfl) (Ab rfl) ?_
    refine nx h2d fun h5d=>sV2 (Aa rfl) (Aa rfl) ?_
    obtain ⟨u4a,h6d,f7d⟩:=Ad f3d
    have q9a:=ow4b.ext E7b
    obtain ⟨bb321,hA8d,hz0f,ia9d,ib0e,hc326⟩:=WN.nthc q9a h6d
    refine sV3 (AA AG Av rfl rfl hA8d ia9d ib0e) (Ag AZ rfl hc326) (AO (c:=wu64 u4a) AQ AN rfl rfl) ?_
    refine sV3 (Aa rfl) (AO (c:=wu32 (wu64 (v0a+(wu64 (x2*r1a))))) AN AQ rfl rfl) (AO (c:=wu64 (wu32 (wu64 (v0a+(wu64 (x2*r1a)))))) AQ AN rfl rfl) ?_
    refine sV3 (Bt (c:=wu64 ((wu64 u4a) - (wu64 (wu32 (wu64 (v0a+(wu64 (x2*r1a)))))))) rfl rfl rfl) (Aa rfl) (Bt (c:=wu64 ((wu64 ((wu64 u4a) - (wu64 (wu32 (wu64 (v0a+(wu64 (x2*r1a)))))))) - v2a)) rfl rfl rfl) ?_
    refine sV (Ab rfl) ?_
    refine nx h5d fun h1e=>sV3 (Aa rfl) (Aa rfl) (Aa rfl) ?_
    refine sV (AO (c:=wu32 (wu64 ((wu64 ((wu64 u4a) - (wu64 (wu32 (wu64 (v0a+(wu64 (x2*r1a)))))))) - v2a))) AN AQ rfl rfl) ?_
    obtain ⟨u1f,h2e,f3e⟩:=Ad f7d
    obtain ⟨bb331,hA8b,hz2f,ia9b,ib0c,hc336⟩:=WN.nthc q9a h2e
    refine sV (AA AG Av rfl rfl hA8b ia9b ib0c) ?_
    refine Rb Av rfl rfl q9a hA8b ia9b (by rw [WN.len q9a];exact ib0c) fun w3 U4e ow5e=>?_
    have X6e:=UpdS.tr X4d U4e
    refine nx h1e fun h7e=>sV2 (Aa rfl) (IX (c:=(wu64 ((wu64 ((wu64 u4a) - (wu64 (wu32 (wu64 (v0a+(wu64 (x2*r1a)))))))) - v2a)).fdiv (2^min (63:Int).toNat IntKind.u64.bits)) (by decide) rfl rfl rfl) ?_
    refine sV (Ab rfl) ?_
    refine wh h7e<|Ah<|sV2 (Aa rfl) (IX (c:=(wu64 (v0a+(wu64 (x2*r1a)))).fdiv (2^min (32:Int).toNat IntKind.u64.bits)) (by decide) rfl rfl rfl) ?_
    refine sV (Ab rfl) ?_
    refine wh h0d<|Ah<|sV2 (AV (c:=wi64 (v3a+1)) rfl rfl rfl) (Aa rfl) ?_
    refine AF ?_
    exact ih5c _ _ ⟨((wu64 (v0a+(wu64 (x2*r1a)))).fdiv (2^min (32:Int).toNat IntKind.u64.bits)),((wu64 ((wu64 ((wu64 u4a) - (wu64 (wu32 (wu64 (v0a+(wu64 (x2*r1a)))))))) - v2a)).fdiv (2^min (63:Int).toNat IntKind.u64.bits)),(wi64 (v3a+1)),(List.set v5a (v3a:Int).toNat (wu32 (wu64 ((wu64 ((wu64 u4a) - (wu64 (wu32 (wu64 (v0a+(wu64 (x2*r1a)))))))) - v2a)))),X6e,ow5e,f3e,(Fr.mk (by kernel_rfl))⟩
   ·refine cf e1b<|wp_exit ?_
    simp only [Exit.then,Exit.inBlock,↓reduceIte,Nat.reduceEqDiff]
    obtain rfl:=sj f9c
    exact ⟨_,rfl,X8a,ow4b,(Fr.mk (by kernel_rfl))⟩
 ·rintro _ w1 ⟨X8e,ow1c,⟨t0b,rfl⟩⟩ l'' hl
  simp only [gp,Nat.reduceAdd] at hl
  subst hl
  refine h9 _ _<|ws fun h9e=>Ah<|sV (Aa rfl) ?_
  refine sbl (Eh rfl rfl) fun z2b hz2b=>?_
  refine sV (Ab rfl) ?_
  refine wh h9e<|wp_ret ?_
  obtain rfl:z2b=decide (0<m6a.1):=bz hz2b
  exact Gd f4c rfl (Res.tmp rfl Res.nil) ⟨X8e,WN.len ow1c,WN.bx ow1c,_,rfl,rfl⟩
set_option maxRecDepth 20000 in
theorem c_nat_estimate (x0:List Int) (x1:List Int) (A1:OA) (c2:Nat) (A4:OA) (c5:Nat) (bp0:Nat) (pre ys:List Int) (w:World) (hT:TB w) (q0:WN 179 bp0 pre ys w A1 x0.length c2 x0) (hb0:bp0≠0) (n6:RLu w A4 c5 x1) (ap0:Apart A4 x1 bp0) (r:(Int) × List Int) (hr:HX x0 x1=some r) :
  Calls prog 268 #[.slice A1 x0.length c2,.slice A4 x1.length c5] w (RetW 179 bp0 pre ys x0.length QX w r):=by
 unfold HX at hr
 refine Na func268 rfl 107 ?_
 refine ws fun h7=>Ah<|sV (Ab rfl) ?_
 refine nx h7 fun h8=>sV3 (Aa rfl) (AD AG rfl) (Ab rfl) ?_
 refine wh h8<|ws fun h9=>DT [] 14 mo rfl fun w1 E5a S7d=>have X7f:=UpdS.ext (UpdS.refl [bp0] w) E5a;dA 0 rfl (fun _=>Aa rfl) ?_
 refine dA 1 rfl (fun _=>Aa rfl) ?_
 obtain ⟨u6a,h8f,f9f⟩:=Ad hr
 obtain ⟨bb16,hA0g,hz5p,ia1g,ib2g,hc21⟩:=WN.nthc (q0.ext E5a) h8f
 refine dA 2 rfl (fun _=>AA AG Av rfl rfl hA0g ia1g ib2g) ?_
 refine dV 3 rfl (fun _ hw=>Ag AZ rfl (DS hc21 hw)) S7d ?_
 refine dA2 4 5 rfl rfl (fun _=>AO (c:=wu64 u6a) AQ AN rfl rfl) (fun _=>LQ (c:=wu64 ((wu64 u6a)*2^min (32:Int).toNat IntKind.u64.bits)) (by decide) rfl rfl rfl) ?_
 refine dA2 6 7 rfl rfl (fun _=>Aa rfl) (fun _=>Aa rfl) ?_
 refine dA 8 rfl (fun _=>Bt (c:=wi64 ((x1.length:Int) - 1)) rfl rfl rfl) ?_
 obtain ⟨u8a,h3g,f4g⟩:=Ad f9f
 obtain ⟨bb25,hA5g,hz6p,ia6g,ib7g,hc30⟩:=WN.nthc (q0.ext E5a) h3g
 refine dA 9 rfl (fun _=>AA AG Av rfl rfl hA5g ia6g ib7g) ?_
 refine dV 10 rfl (fun _ hw=>Ag AZ rfl (DS hc30 hw)) S7d ?_
 refine dA2 11 12 rfl rfl (fun _=>AO (c:=wu64 u8a) AQ AN rfl rfl) (fun _=>Oq rfl rfl) ?_
 refine dA 13 rfl (fun _=>Ab rfl) ?_
 refine Cx (by kernel_rfl) ?_
 refine h9 _ _<|ws fun h8g=>Ah<|sV3 (Aa rfl) (Aa rfl) (Aa rfl) ?_
 refine sV (Bt (c:=wi64 ((x1.length:Int) - 1)) rfl rfl rfl) ?_
 obtain ⟨u32,h9g,f0h⟩:=Ad f4g
 obtain ⟨bb35,oo36,hA1h,ia2h,ib3h,hc38⟩:=RL.nth (n6.ext E5a) h9g
 refine sV3 (AA AG Av rfl rfl hA1h ia2h ib3h) (Ag AZ rfl hc38) (AO (c:=wu64 u32) AQ AN rfl rfl) ?_
 obtain ⟨_,h4h,f5h⟩:=Ad f0h
 have gd44:=AI h4h
 refine sV3 (Ji (c:=wu64 ((bor .u64 (wu64 ((wu64 u6a)*2^min (32:Int).toNat IntKind.u64.bits)) (wu64 u8a)).tdiv (wu64 u32))) (decide_eq_true gd44) rfl rfl rfl) (PO rfl rfl) (Ab rfl) ?_
 refine wh h8g<|ws fun h6h=>ws fun h7h=>Ah<|sV3 (Aa rfl) (Aa rfl) (Aa rfl) ?_
 refine sV2 (Aa rfl) (Bt (c:=wi64 ((x1.length:Int) - 1)) rfl rfl rfl) ?_
 obtain ⟨u1c,h8h,f9h⟩:=Ad f5h
 obtain ⟨bb50,oo51,hA0i,ia1i,ib2i,hc53⟩:=RL.nth (n6.ext E5a) h8h
 refine sV3 (AA AG Av rfl rfl hA0i ia1i ib2i) (Ag AZ rfl hc53) (AO (c:=wu64 u1c) AQ AN rfl rfl) ?_
 refine sV3 (KS (c:=wu64 ((min (wu64 ((bor .u64 (wu64 ((wu64 u6a)*2^min (32:Int).toNat IntKind.u64.bits)) (wu64 u8a)).tdiv (wu64 u32))) 4294967295)*(wu64 u1c))) rfl rfl rfl) (Bt (c:=wu64 ((bor .u64 (wu64 ((wu64 u6a)*2^min (32:Int).toNat IntKind.u64.bits)) (wu64 u8a)) - (wu64 ((min (wu64 ((bor .u64 (wu64 ((wu64 u6a)*2^min (32:Int).toNat IntKind.u64.bits)) (wu64 u8a)).tdiv (wu64 u32))) 4294967295)*(wu64 u1c))))) rfl rfl rfl) (Ab rfl) ?_
 refine wh h7h ?_
 obtain ⟨m2b,h3i,f4i⟩:=Ad f9h
 refine CG (fun l l' w'=>Ext w1 w'∧Fr l' (fun t2c=>.slice A1 x0.length c2::.slice A4 x1.length c5::gp t2c 2 5 (.int .u64 m2b::gp t2c 8 101 []))) ?_ ?_
 ·apply wp_block
  refine Bp (fun l n8d l' w'=>∃(v4a:Int) (v3a:Int) (t2a:Nat→Value),Ext w1 w'∧Gf x0 x1 n8d v4a v3a=some m2b∧Fr l' (fun t5b=>.slice A1 x0.length c2::.slice A4 x1.length c5::gp t5b 2 3 (.int .i64 (x1.length:Int)::gp t5b 6 1 (.int .u64 v4a::.int .u64 v3a::gp t5b 9 39 ((t2a 0)::(t2a 1)::(t2a 2)::(t2a 3)::(t2a 4)::(t2a 5)::(t2a 6)::(t2a 7)::(t2a 8)::(t2a 9)::(t2a 10)::(t2a 11)::(t2a 12)::(t2a 13)::(t2a 14)::(t2a 15)::(t2a 16)::(t2a 17)::gp t5b 66 43 []))))) 18446744073709551616 ?_ ?_ ?_
  ·exact ⟨(min (wu64 ((bor .u64 (wu64 ((wu64 u6a)*2^min (32:Int).toNat IntKind.u64.bits)) (wu64 u8a)).tdiv (wu64 u32))) 4294967295),(wu64 ((bor .u64 (wu64 ((wu64 u6a)*2^min (32:Int).toNat IntKind.u64.bits)) (wu64 u8a)) - (wu64 ((min (wu64 ((bor .u64 (wu64 ((wu64 u6a)*2^min (32:Int).toNat IntKind.u64.bits)) (wu64 u8a)).tdiv (wu64 u32))) 4294967295)*(wu64 u1c))))),(tk [uu,uu,uu,uu,uu,uu,uu,uu,uu,uu,uu,uu,uu,uu,uu,uu,uu,uu]),(Ext.refl _),h3i,(Fr.mk (by kernel_rfl))⟩
  ·rintro l' w' ⟨v4a,v3a,t2a,_,hz,_⟩
   exact nomatch hz
  ·rintro n8d ih5i _ w2 ⟨v4a,v3a,t2a,U6b,hr9d,⟨t5b,rfl⟩⟩ l'' hl
   simp only [gp,Nat.reduceAdd] at hl
   subst hl
   unfold Gf at hr9d
   refine AW<|ws fun h6i=>ws fun h7i=>DT [] 22 mo rfl fun w3 E7b S0e=>dA 0 rfl (fun _=>Aa rfl) ?_
   refine dab 1 rfl (by kernel_rfl) (fun _ _ _ h=>h) (by rfl) (fun _=>Bv rfl rfl) fun z1e hz1e=>?_
   refine dnrm ?_
   refine dA 2 rfl (fun _=>Aa rfl) ?_
   obtain ⟨m8i,h9i,f0j⟩:=Ad hr9d
   refine Kn (tb 22 4194303) 0 (fun l l' w'=>∃(t1a:Nat→Value),w3=w'∧l'=(((((((((((((((((((l.set 48 (t1a 0)).set 49 (t1a 1)).set 50 (t1a 2)).set 51 (t1a 3)).set 52 (t1a 4)).set 53 (t1a 5)).set 54 (t1a 6)).set 55 (t1a 7)).set 56 (t1a 8)).set 57 (t1a 9)).set 58 (t1a 10)).set 59 (t1a 11)).set 60 (t1a 12)).set 61 (t1a 13)).set 62 (t1a 14)).set 63 (t1a 15)).set 64 (t1a 16)).set 65 (t1a 17)).set 66 (.bool m8i))) ?_ ?_
   ·intro HJ553
    rcases zi hz1e h9i with ⟨e0a,_,f1j⟩ | ⟨e0a,_,f2j⟩
    ·refine dA 3 rfl (fun _=>Aa rfl) ?_ (hw:=wgT rfl e0a)
     refine dA 4 rfl (fun _=>Aa rfl) ?_ (hw:=wgT rfl e0a)
     refine dA 5 rfl (fun _=>Aa rfl) ?_ (hw:=wgT rfl e0a)
     refine dA 6 rfl (fun _=>Bt (c:=wi64 ((x1.length:Int) - 2)) rfl rfl rfl) ?_ (hw:=wgT rfl e0a)
     have n3j:=((n6.ext E5a).ext U6b).ext E7b
     obtain ⟨u0b,h4j,f5j⟩:=Ad f1j
     obtain ⟨bb563,oo564,hA6j,ia7j,ib8j,hc566⟩:=RL.nth n3j h4j
     refine dA 7 rfl (fun _=>AA AG Av rfl rfl hA6j ia7j ib8j) ?_ (hw:=wgT rfl e0a)
     refine dV 8 rfl (fun _ hw=>Ag AZ rfl (DS hc566 hw)) S0e ?_ (hw:=wgT rfl e0a)
     refine dA 9 rfl (fun _=>AO (c:=wu64 u0b) AQ AN rfl rfl) ?_ (hw:=wgT rfl e0a)
     refine dA 10 rfl (fun _=>KS (c:=wu64 (v4a*(wu64 u0b))) rfl rfl rfl) ?_ (hw:=wgT rfl e0a)
     refine dA 11 rfl (fun _=>Aa rfl) ?_ (hw:=wgT rfl e0a)
     refine dA 12 rfl (fun _=>LQ (c:=wu64 (v3a*2^min (32:Int).toNat IntKind.u64.bits)) (by decide) rfl rfl rfl) ?_ (hw:=wgT rfl e0a)
     refine dA 13 rfl (fun _=>Aa rfl) ?_ (hw:=wgT rfl e0a)
     refine dA 14 rfl (fun _=>Aa rfl) ?_ (hw:=wgT rfl e0a)
     refine dA 15 rfl (fun _=>Bt (c:=wi64 ((x1.length:Int) - 2)) rfl rfl rfl) ?_ (hw:=wgT rfl e0a)
     have ow9j:=((q0.ext E5a).ext U6b).ext E7b
     obtain ⟨u3b,h0k,f1k⟩:=Ad f5j
     obtain ⟨bb573,hA2k,hz7p,ia3k,ib4k,hc578⟩:=WN.nthc ow9j h0k
     refine dA 16 rfl (fun _=>AA AG Av rfl rfl hA2k ia3k ib4k) ?_ (hw:=wgT rfl e0a)
     refine dV 17 rfl (fun _ hw=>Ag AZ rfl (DS hc578 hw)) S0e ?_ (hw:=wgT rfl e0a)
     refine dA 18 rfl (fun _=>AO (c:=wu64 u3b) AQ AN rfl rfl) ?_ (hw:=wgT rfl e0a)
     refine dA 19 rfl (fun _=>Oq rfl rfl) ?_ (hw:=wgT rfl e0a)
     refine dab 20 rfl (by kernel_rfl) (fun _ _ _ h=>h) (wgT rfl e0a) (fun _=>Eh rfl rfl) fun z3c hz3c=>?_
     refine dnrm ?_
     refine dA 21 rfl (fun _=>Az (evb rfl e0a) rfl) ?_
     obtain rfl:z3c=decide ((bor .u64 (wu64 (v3a*2^min (32:Int).toNat IntKind.u64.bits)) (wu64 u3b))<(wu64 (v4a*(wu64 u0b)))):=bz hz3c
     obtain rfl:=sj f1k
     exact dls (HJ553 _ _ ⟨(tk [.int .u64 v4a,.slice A4 x1.length c5,.int .i64 (x1.length:Int),.int .i64 (wi64 ((x1.length:Int) - 2)),.pointer (some ⟨bb563,oo564+((wi64 ((x1.length:Int) - 2)):Int).toNat,none⟩),.int .u32 u0b,.int .u64 (wu64 u0b),.int .u64 (wu64 (v4a*(wu64 u0b))),.int .u64 v3a,.int .u64 (wu64 (v3a*2^min (32:Int).toNat IntKind.u64.bits)),.slice A1 x0.length c2,.int .i64 (x1.length:Int),.int .i64 (wi64 ((x1.length:Int) - 2)),.pointer (some ⟨bb573,List.length pre+((wi64 ((x1.length:Int) - 2)):Int).toNat,none⟩),.int .u32 u3b,.int .u64 (wu64 u3b),.int .u64 (bor .u64 (wu64 (v3a*2^min (32:Int).toNat IntKind.u64.bits)) (wu64 u3b)),.bool (decide ((bor .u64 (wu64 (v3a*2^min (32:Int).toNat IntKind.u64.bits)) (wu64 u3b))<(wu64 (v4a*(wu64 u0b)))))]),(by trivial),(by kernel_rfl)⟩)
    ·refine dP 3 rfl ?_ (hw:=wgF rfl e0a)
     refine dP 4 rfl ?_ (hw:=wgF rfl e0a)
     refine dP 5 rfl ?_ (hw:=wgF rfl e0a)
     refine dP 6 rfl ?_ (hw:=wgF rfl e0a)
     refine dP 7 rfl ?_ (hw:=wgF rfl e0a)
     refine dP 8 rfl ?_ (hw:=wgF rfl e0a)
     refine dP 9 rfl ?_ (hw:=wgF rfl e0a)
     refine dP 10 rfl ?_ (hw:=wgF rfl e0a)
     refine dP 11 rfl ?_ (hw:=wgF rfl e0a)
     refine dP 12 rfl ?_ (hw:=wgF rfl e0a)
     refine dP 13 rfl ?_ (hw:=wgF rfl e0a)
     refine dP 14 rfl ?_ (hw:=wgF rfl e0a)
     refine dP 15 rfl ?_ (hw:=wgF rfl e0a)
     refine dP 16 rfl ?_ (hw:=wgF rfl e0a)
     refine dP 17 rfl ?_ (hw:=wgF rfl e0a)
     refine dP 18 rfl ?_ (hw:=wgF rfl e0a)
     refine dP 19 rfl ?_ (hw:=wgF rfl e0a)
     refine dP 20 rfl ?_ (hw:=wgF rfl e0a)
     refine dA 21 rfl (fun _=>AE (evb rfl e0a) rfl) ?_
     obtain rfl:=sj f2j
     exact dls (HJ553 _ _ ⟨(tk [uu,uu,uu,uu,uu,uu,uu,uu,uu,uu,uu,uu,uu,uu,uu,uu,uu,uu]),(by trivial),(by kernel_rfl)⟩)
   ·rintro l' _ ⟨t1a,rfl,rfl⟩ l'' hl
    simp only [S0,S1] at hl;subst hl
    refine Cx (by kernel_rfl) ?_
    refine h7i _ _ ?_
    rcases zb f0j with ⟨e4c,f5k⟩ | ⟨e4c,f6k⟩
    ·refine ct e4c<|wp_skip<|h6i _ _<|ws fun h7k=>?_
     apply wp_block
     refine Ah<|sV3 (Aa rfl) (Bt (c:=wu64 (v4a - 1)) rfl rfl rfl) (Ab rfl) ?_
     refine wh h7k<|Ah<|sV3 (Aa rfl) (Aa rfl) (Aa rfl) ?_
     refine sV (Bt (c:=wi64 ((x1.length:Int) - 1)) rfl rfl rfl) ?_
     have n8k:=((n6.ext E5a).ext U6b).ext E7b
     obtain ⟨u5c,h9k,f0l⟩:=Ad f5k
     obtain ⟨bb595,oo596,hA1l,ia2l,ib3l,hc598⟩:=RL.nth n8k h9k
     refine sV3 (AA AG Av rfl rfl hA1l ia2l ib3l) (Ag AZ rfl hc598) (AO (c:=wu64 u5c) AQ AN rfl rfl) ?_
     refine sV2 (AV (c:=wu64 (v3a+(wu64 u5c))) rfl rfl rfl) (Ab rfl) ?_
     refine AF ?_
     exact ih5i _ _ ⟨(wu64 (v4a - 1)),(wu64 (v3a+(wu64 u5c))),(tk [t1a 0,t1a 1,t1a 2,t1a 3,t1a 4,t1a 5,t1a 6,t1a 7,t1a 8,t1a 9,t1a 10,t1a 11,t1a 12,t1a 13,t1a 14,t1a 15,t1a 16,t1a 17]),(U6b.trans E7b),f0l,(Fr.mk (by kernel_rfl))⟩
    ·refine cf e4c<|wp_exit ?_
     simp only [Exit.then,Exit.inBlock,↓reduceIte,Nat.reduceEqDiff]
     obtain rfl:=sj f6k
     exact ⟨_,rfl,(U6b.trans E7b),(Fr.mk (by kernel_rfl))⟩
 ·rintro _ w2 ⟨U6c,⟨t2c,rfl⟩⟩ l'' hl
  simp only [gp,Nat.reduceAdd] at hl
  subst hl
  have X2e:=UpdS.ext X7f U6c
  refine h6h _ _<|ws fun h4l=>ws fun h5l=>Ah<|sV3 (Aa rfl) (Aa rfl) (Aa rfl) ?_
  have ow3e:=(q0.ext E5a).ext U6c
  obtain ⟨r7c,h6l,f7l⟩:=Ad f4i
  refine scK (Ac en_283 (by rfl)) (c_nat_takes x0 x1 m2b A1 c2 A4 c5 bp0 pre ys w2 (TB.updW X2e hb0 hT) ow3e hb0 ((n6.ext E5a).ext U6c) ap0 r7c h6l) ?_
  rintro _ w3 ⟨U8l,hl610,q9l,_,rfl,rfl⟩
  refine ⟨_,rfl,?_⟩
  refine nrm ?_
  have ow4e:=WN.upd ow3e hl610 q9l
  have X5e:=UpdS.tr X2e U8l
  refine wh h5l ?_
  obtain ⟨m8c,h6e,f0m⟩:=Ad f7l
  refine CG (fun l l' w'=>UpdS [bp0] w w'∧WN 179 bp0 pre ys w' A1 x0.length c2 m8c.2∧Fr l' (fun t9c=>gp t9c 0 7 (.int .u64 m8c.1::gp t9c 8 101 []))) ?_ ?_
  ·rcases bft r7c.1 with e8b | e8b
   ·have p1m:=e8b
    have f2m:=ifP p1m h6e
    refine ct e8b<|ws fun h3m=>Ah<|sV3 (Aa rfl) (Bt (c:=wu64 (m2b - 1)) rfl rfl rfl) (Ab rfl) ?_
    refine nx h3m fun h4m=>sV (Ab rfl) ?_
    refine nx h4m fun h5m=>sV3 (Aa rfl) (AD AG rfl) (Aa rfl) ?_
    refine wh h5m ?_
    obtain ⟨m7e,h6m,f7m⟩:=Ad f2m
    refine CG (fun l l' w'=>UpdS [bp0] w w'∧WN 179 bp0 pre ys w' A1 x0.length c2 m7e∧Fr l' (fun t0d=>gp t0d 0 7 (.int .u64 (wu64 (m2b - 1))::gp t0d 8 101 []))) ?_ ?_
    ·apply wp_block
     refine Bp (fun l n8e l' w'=>∃(v7a:Int) (v9a:Int) (v9b:List Int),UpdS [bp0] w w'∧WN 179 bp0 pre ys w' A1 x0.length c2 v9b∧Er x0 x1 n8e v7a v9a v9b=some m7e∧Fr l' (fun t0c=>.slice A1 x0.length c2::.slice A4 x1.length c5::gp t0c 2 5 (.int .u64 (wu64 (m2b - 1))::gp t0c 8 1 (.int .u64 v7a::gp t0c 10 74 (.int .i64 ((x0.length:Nat):Int)::.int .i64 v9a::gp t0c 86 23 []))))) 18446744073709551616 ?_ ?_ ?_
     ·exact ⟨0,0,r7c.2,X5e,ow4e,h6m,(Fr.mk (by kernel_rfl))⟩
     ·rintro l' w' ⟨v7a,v9a,v9b,_,_,hz,_⟩
      exact nomatch hz
     ·rintro n8e ih8m _ w4 ⟨v7a,v9a,v9b,X9e,ow1d,hr0f,⟨t0c,rfl⟩⟩ l'' hl
      simp only [gp,Nat.reduceAdd] at hl
      subst hl
      unfold Er at hr0f
      refine AW<|ws fun h9m=>Ah<|sbl (Bv rfl rfl) fun z1f hz1f=>?_
      refine wh h9m<|ws fun h0n=>?_
      rcases zi hz1f hr0f with ⟨e2d,_,f1n⟩ | ⟨e2d,_,f2n⟩
      ·refine ct e2d<|wp_skip<|h0n _ _<|ws fun h3n=>?_
       apply wp_block
       refine ws fun h4n=>Ah<|sV2 (Aa rfl) (Ab rfl) ?_
       refine wh h4n<|ws fun h5n=>DT [] 12 mo rfl fun w5 E3d S2f=>have X4d:=UpdS.ext X9e E3d;dA 0 rfl (fun _=>Aa rfl) ?_
       refine dA2 1 2 rfl rfl (fun _=>Aa rfl) (fun _=>Aa rfl) ?_
       obtain ⟨u1b,h6n,f7n⟩:=Ad f1n
       obtain ⟨bb1304,hA8n,hz8p,ia9n,ib0o,hc1309⟩:=WN.nthc (ow1d.ext E3d) h6n
       refine dA 3 rfl (fun _=>AA AG Av rfl rfl hA8n ia9n ib0o) ?_
       refine dV 4 rfl (fun _ hw=>Ag AZ rfl (DS hc1309 hw)) S2f ?_
       refine dA2 5 6 rfl rfl (fun _=>AO (c:=wu64 u1b) AQ AN rfl rfl) (fun _=>Aa rfl) ?_
       refine dA 7 rfl (fun _=>Aa rfl) ?_
       refine dcr f7n 8 rfl (by rfl) (Ac Mg (by rfl)) (Fu x1 v9a A4 c5 w5 (TB.updW X4d hb0 hT) (RL.updW n6 X4d ap0)) fun r4b f1o w6 E5d=>?_
       have X2o:=UpdS.ext X4d E5d
       have S9p:=S2f.trans E5d
       refine dA2 9 10 rfl rfl (fun _=>AV (c:=wu64 ((wu64 u1b)+r4b)) rfl rfl rfl) (fun _=>AV (c:=wu64 (v7a+(wu64 ((wu64 u1b)+r4b)))) rfl rfl rfl) ?_
       refine dA 11 rfl (fun _=>Ab rfl) ?_
       refine Cx (by kernel_rfl) ?_
       refine h5n _ _<|ws fun h3o=>Ah<|sV3 (Aa rfl) (Aa rfl) (Aa rfl) ?_
       refine sV (AO (c:=wu32 (wu64 (v7a+(wu64 ((wu64 u1b)+r4b))))) AN AQ rfl rfl) ?_
       have ow6d:=(ow1d.ext E3d).ext E5d
       obtain ⟨u0q,h4o,f5o⟩:=Ad f1o
       obtain ⟨bb1321,hA3f,hz1q,ia4f,ib5f,hc1326⟩:=WN.nthc ow6d h4o
       refine sV (AA AG Av rfl rfl hA3f ia4f ib5f) ?_
       refine Rb Av rfl rfl ow6d hA3f ia4f (by rw [WN.len ow6d];exact ib5f) fun w7 U6o ow7o=>?_
       have X8o:=UpdS.tr X2o U6o
       refine wh h3o<|Ah<|sV2 (Aa rfl) (IX (c:=(wu64 (v7a+(wu64 ((wu64 u1b)+r4b)))).fdiv (2^min (32:Int).toNat IntKind.u64.bits)) (by decide) rfl rfl rfl) ?_
       refine sV (Ab rfl) ?_
       refine wh h3n<|Ah<|sV2 (AV (c:=wi64 (v9a+1)) rfl rfl rfl) (Aa rfl) ?_
       refine AF ?_
       exact ih8m _ _ ⟨((wu64 (v7a+(wu64 ((wu64 u1b)+r4b)))).fdiv (2^min (32:Int).toNat IntKind.u64.bits)),(wi64 (v9a+1)),(List.set v9b (v9a:Int).toNat (wu32 (wu64 (v7a+(wu64 ((wu64 u1b)+r4b)))))),X8o,ow7o,f5o,(Fr.mk (by kernel_rfl))⟩
      ·refine cf e2d<|wp_exit ?_
       simp only [Exit.then,Exit.inBlock,↓reduceIte,Nat.reduceEqDiff]
       obtain rfl:=sj f2n
       exact ⟨_,rfl,X9e,ow1d,(Fr.mk (by kernel_rfl))⟩
    ·rintro _ w4 ⟨X9o,ow0p,⟨t0d,rfl⟩⟩ l'' hl
     simp only [gp,Nat.reduceAdd] at hl
     subst hl
     obtain rfl:=sj f7m
     exact ⟨_,rfl,X9o,ow0p,(Fr.mk (by kernel_rfl))⟩
   ·have p1p:=bF e8b
    have f2p:=ifN p1p h6e
    refine cf e8b<|wp_skip ?_
    obtain rfl:=sj f2p
    exact ⟨_,rfl,X5e,ow4e,(Fr.mk (by kernel_rfl))⟩
  ·rintro _ w4 ⟨X3p,ow6f,⟨t9c,rfl⟩⟩ l'' hl
   simp only [gp,Nat.reduceAdd] at hl
   subst hl
   refine h4l _ _<|ws fun h4p=>Ah<|sV3 (Aa rfl) (AO (c:=wu32 m8c.1) AN AQ rfl rfl) (Ab rfl) ?_
   refine wh h4p<|wp_ret ?_
   exact Gd f0m rfl (Res.tmp rfl Res.nil) ⟨X3p,WN.len ow6f,WN.bx ow6f,_,rfl,rfl⟩
theorem Ie (x0:List Int) (x1:List Int) (A1:OA) (c2:Nat) (A4:OA) (c5:Nat) (w:World) (hT:TB w) (n3:RLu w A1 c2 x0) (n6:RLu w A4 c5 x1) (r:List Int × List Int) (hr:BP x0 x1=some r) :
  Calls prog 244 #[.slice A1 x0.length c2,.slice A4 x1.length c5] w (Ret Nh w r):=by
 unfold BP at hr
 go_enter func244,ntmps244
 refine ws fun h7=>Ah<|sV2 (Ab rfl) (Ab rfl) ?_
 refine wh h7<|ws fun h8=>?_
 apply wp_block
 refine ws fun h9=>Ah<|sV2 (Aa rfl) (AD AG rfl) ?_
 refine sbl (Cy rfl rfl) fun z4a hz4a=>?_
 refine sV (Ab rfl) ?_
 refine wh h9 ?_
 rcases zi hz4a hr with ⟨e3b,_,f4f⟩ | ⟨e3b,_,f5f⟩
 ·refine ct e3b<|ws fun h6f=>Ah<|sV2 (Aa rfl) (Aa rfl) ?_
  obtain ⟨u7f,h8f,f9f⟩:=Ad f4f
  obtain ⟨bb528,oo529,hA0g,ia1g,ib2g,hc531⟩:=RL.nth n6 h8f
  refine sV2 (AA AG Av rfl rfl hA0g ia1g ib2g) (Ag AZ rfl hc531) ?_
  obtain ⟨r3g,h4g,f5g⟩:=Ad f9f
  refine sc (Ac en_267 (by rfl)) (c_nat_limbs_short x0 u7f A1 c2 w hT n3 r3g h4g) ?_
  rintro _ w1 E6g ⟨A7g,c8g,A9g,c0h,rfl,n1h,n2h⟩
  refine nrm ?_
  refine sV3 (Ai rfl rfl) (Ai rfl rfl) (Ab rfl) ?_
  refine sV (Ab rfl) ?_
  refine wh h6f<|wp_ret ?_
  exact Gd f5g rfl (Res.tmp rfl (Res.tmp rfl Res.nil)) (AJ E6g ⟨A7g,c8g,A9g,c0h,rfl,n1h,n2h⟩)
 ·refine cf e3b<|ws fun h3h=>Ah<|sV2 (Aa rfl) (Aa rfl) ?_
  refine scr f5f (Ac Pv (by rfl)) (Hz x0 x1 A1 c2 A4 c5 w hT n3 n6) fun r6o f4h w1 E5a=>?_
  refine sbl (Bv rfl rfl) fun z7c hz7c=>?_
  refine sV (Ab rfl) ?_
  refine wh h3h ?_
  rcases zi hz7c f4h with ⟨e4b,_,f5h⟩ | ⟨e4b,_,f6h⟩
  ·refine ct e4b<|ws fun h7h=>Ah<|sV3 (Aa rfl) (Ab rfl) (Ab rfl) ?_
   refine wh h7h<|wp_ret ?_
   exact Gd f5h rfl (Res.tmp rfl (Res.tmp rfl Res.nil)) (AJ E5a ⟨none,0,A1,c2,rfl,(RL.nil _ _ _),(n3.ext E5a)⟩)
  ·refine cf e4b<|wp_skip<|h8 _ _<|ws fun h8h=>Ah<|sV3 (Aa rfl) (Aa rfl) (AD AG rfl) ?_
   refine sV (Bt (c:=wi64 ((x1.length:Int) - 1)) rfl rfl rfl) ?_
   obtain ⟨u9h,h0i,f1i⟩:=Ad f6h
   obtain ⟨bb60,oo61,hA2i,ia3i,ib4i,hc63⟩:=RL.nth (n6.ext E5a) h0i
   refine sV2 (AA AG Av rfl rfl hA2i ia3i ib4i) (Ag AZ rfl hc63) ?_
   refine scr f1i (Ac Qn (by rfl)) (Gh u9h w1 (tbx E5a hT)) fun r6a f5i w2 E6i=>?_
   have X5b:=xtr E5a E6i
   refine sV (Ab rfl) ?_
   refine nx h8h fun h7i=>sV2 (Aa rfl) (Aa rfl) ?_
   refine scn f5i (Ac Qq (by rfl)) (IA x1 r6a A4 c5 w2 (tbx X5b hT) (n6.ext X5b)) fun r0a f8i w3 A8c c9c E9i n0d=>?_
   have X1b:=xtr X5b E9i
   refine sV (Ab rfl) ?_
   refine nx h7i fun h0j=>sV3 (Aa rfl) (AD AG rfl) (Ab rfl) ?_
   refine nx h0j fun h1j=>sV3 (Aa rfl) (AD AG rfl) (AV (c:=wi64 ((x0.length:Int)+1)) rfl rfl rfl) ?_
   obtain ⟨_,h2j,f3j⟩:=Ad f8i
   have gd85:=AI h2j
   refine IH AG ER rfl rfl gd85 fun A7a w4 E1d ow4j=>?_
   refine nrm ?_
   have X6b:=xtr X1b E1d
   refine sV (Ab rfl) ?_
   refine nx h1j fun h5j=>sV3 (Aa rfl) (Aa rfl) (Aa rfl) ?_
   refine scn f3j (Ac Qq (by rfl)) (IA x0 r6a A1 c2 w4 (tbx X6b hT) (n3.ext X6b)) fun r2d f6j w5 A7o c8o E7b n7j=>?_
   have X8j:=xtr X6b E7b
   have X9j:=xtr E1d E7b
   refine RH AG Av rfl rfl (ow4j.ext E7b) n7j fun w6 B101 ow3d=>?_
   refine nrm ?_
   have X4d:=xO X8j B101 X1b.size
   have X5d:=xO X9j B101 (Nat.le_refl _)
   refine nx h5j fun h0k=>sV3 (Aa rfl) (AD AG rfl) (Aa rfl) ?_
   refine sV (Bt (c:=wi64 ((((((wi64 ((x0.length:Int)+1)):Int).toNat):Nat):Int) - (r0a.length:Int))) rfl rfl rfl) ?_
   obtain ⟨_,h1k,f2k⟩:=Ad f6j
   have gd112:=AI h1k
   have hl113:=OW.lt ow3d
   refine IH AG ER rfl rfl gd112 fun A8a w7 E8b ow3k=>?_
   refine nrm ?_
   have X4k:=xtr X4d E8b
   have X5k:=xtr X5d E8b
   refine sV (Ab rfl) ?_
   refine wh h0k<|ws fun h6k=>ws fun h7k=>Ah<|sV3 (Aa rfl) (AD AG rfl) (Bt (c:=wi64 ((((((wi64 ((((((wi64 ((x0.length:Int)+1)):Int).toNat):Nat):Int) - (r0a.length:Int))):Int).toNat):Nat):Int) - 1)) rfl rfl rfl) ?_
   refine sV (Ab rfl) ?_
   refine wh h7k ?_
   obtain ⟨m9a,h8k,f9k⟩:=Ad f2k
   refine CG (fun l l' w'=>Ext w w'∧Ext w3 w'∧OW 179 w6.heap.size w' A8a (((wi64 ((((((wi64 ((x0.length:Int)+1)):Int).toNat):Nat):Int) - (r0a.length:Int))):Int).toNat) (((wi64 ((((((wi64 ((x0.length:Int)+1)):Int).toNat):Nat):Int) - (r0a.length:Int))):Int).toNat) m9a.1∧OW 179 w3.heap.size w' A7a (((wi64 ((x0.length:Int)+1)):Int).toNat) (((wi64 ((x0.length:Int)+1)):Int).toNat) m9a.2∧Fr l' (fun t2b=>gp t2b 0 6 (.int .i64 r6a::gp t2b 7 2 (.slice A7a (((wi64 ((x0.length:Int)+1)):Int).toNat) (((wi64 ((x0.length:Int)+1)):Int).toNat)::.slice A8a (((wi64 ((((((wi64 ((x0.length:Int)+1)):Int).toNat):Nat):Int) - (r0a.length:Int))):Int).toNat) (((wi64 ((((((wi64 ((x0.length:Int)+1)):Int).toNat):Nat):Int) - (r0a.length:Int))):Int).toNat)::gp t2b 11 69 [])))) ?_ ?_
   ·apply wp_block
    refine Bp (fun l n6d l' w'=>∃(v1a:Int) (v0b:List Int) (v2a:List Int),Ext w w'∧Ext w3 w'∧OW 179 w6.heap.size w' A8a (((wi64 ((((((wi64 ((x0.length:Int)+1)):Int).toNat):Nat):Int) - (r0a.length:Int))):Int).toNat) (((wi64 ((((((wi64 ((x0.length:Int)+1)):Int).toNat):Nat):Int) - (r0a.length:Int))):Int).toNat) v0b∧OW 179 w3.heap.size w' A7a (((wi64 ((x0.length:Int)+1)):Int).toNat) (((wi64 ((x0.length:Int)+1)):Int).toNat) v2a∧Ed x0 x1 r0a n6d v1a v0b v2a=some m9a∧Fr l' (fun t9b=>gp t9b 0 6 (.int .i64 r6a::.slice A8c r0a.length c9c::.int .i64 (r0a.length:Int)::.slice A7a (((wi64 ((x0.length:Int)+1)):Int).toNat) (((wi64 ((x0.length:Int)+1)):Int).toNat)::.slice A8a (((wi64 ((((((wi64 ((x0.length:Int)+1)):Int).toNat):Nat):Int) - (r0a.length:Int))):Int).toNat) (((wi64 ((((((wi64 ((x0.length:Int)+1)):Int).toNat):Nat):Int) - (r0a.length:Int))):Int).toNat)::.int .i64 v1a::gp t9b 12 68 []))) 18446744073709551616 ?_ ?_ ?_
    ·exact ⟨(wi64 ((((((wi64 ((((((wi64 ((x0.length:Int)+1)):Int).toNat):Nat):Int) - (r0a.length:Int))):Int).toNat):Nat):Int) - 1)),(List.replicate ((wi64 ((((((wi64 ((x0.length:Int)+1)):Int).toNat):Nat):Int) - (r0a.length:Int))):Int).toNat (0:Int)),((r2d).take (List.length (List.replicate ((wi64 ((x0.length:Int)+1)):Int).toNat (0:Int)))++(List.replicate ((wi64 ((x0.length:Int)+1)):Int).toNat (0:Int)).drop r2d.length),X4k,X5k,ow3k,(ow3d.ext E8b),h8k,(Fr.mk (by kernel_rfl))⟩
    ·rintro l' w' ⟨v1a,v0b,v2a,_,_,_,_,hz,_⟩
     exact nomatch hz
    ·rintro n6d ih0l _ w8 ⟨v1a,v0b,v2a,X0c,X1c,ow7d,ow3a,hr8d,⟨t9b,rfl⟩⟩ l'' hl
     simp only [gp,Nat.reduceAdd] at hl
     subst hl
     unfold Ed at hr8d
     refine AW<|ws fun h1l=>ws fun h2l=>Ah<|sV (Aa rfl) ?_
     refine sbl (Hb rfl rfl) fun z9d hz9d=>?_
     refine wh h2l ?_
     rcases zi hz9d hr8d with ⟨e2c,_,f3l⟩ | ⟨e2c,_,f4l⟩
     ·refine ct e2c<|wp_skip<|h1l _ _<|ws fun h5l=>?_
      apply wp_block
      refine Ah<|sV3 (Aa rfl) (Aa rfl) (Aa rfl) ?_
      refine sV3 (Aa rfl) (Aa rfl) (Aa rfl) ?_
      refine sV2 (AV (c:=wi64 (v1a+(r0a.length:Int))) rfl rfl rfl) (AV (c:=wi64 ((wi64 (v1a+(r0a.length:Int)))+1)) rfl rfl rfl) ?_
      obtain ⟨_,h6l,f7l⟩:=Ad f3l
      have gd460:=AI h6l
      obtain ⟨b0e,ys462,hA1e,hz8l,g3c,q2e,bk467⟩:=OW.win (lo:=(v1a:Int).toNat) (hi:=((wi64 ((wi64 (v1a+(r0a.length:Int)))+1)):Int).toNat) ow3a (by omega) (by rw [←OW.len ow3a];omega)
      refine swin (lo:=(v1a:Int).toNat) (hi:=((wi64 ((wi64 (v1a+(r0a.length:Int)))+1)):Int).toNat) AG Av rfl ⟨.i64,by rw [Int.toNat_of_nonneg (a:=v1a) (by omega)];rfl⟩ ⟨.i64,by rw [Int.toNat_of_nonneg (a:=(wi64 ((wi64 (v1a+(r0a.length:Int)))+1))) (by omega)];rfl⟩ (by omega) (by rw [←OW.len ow3a];omega) ow3a hA1e ?_
      refine nrm ?_
      refine sV (Aa rfl) ?_
      obtain ⟨r4c,h9l,f0m⟩:=Ad f7l
      refine scK (Ac en_268 (by rfl)) (c_nat_estimate ((List.drop ((v1a:Int).toNat) v2a).take ((((wi64 ((wi64 (v1a+(r0a.length:Int)))+1)):Int).toNat) - ((v1a:Int).toNat))) r0a (some ⟨b0e,List.length ((v2a).take ((v1a:Int).toNat)),none⟩) ((((wi64 ((x0.length:Int)+1)):Int).toNat) - ((v1a:Int).toNat)) A8c c9c b0e ((v2a).take ((v1a:Int).toNat)) ys462 w8 (tbx X0c hT) ⟨rfl,rfl,q2e,by have:=OW.cap ow3a;simp only [List.length_take,List.length_drop];omega,by have:=(OW.rl ow3a).2.1;omega⟩  (TB.nz (tbx X1b hT) g3c) (n0d.ext X1c) (apartB n0d g3c) r4c h9l) ?_
      rintro _ w9 ⟨U3e,hl473,q1m,_,rfl,rfl⟩
      refine ⟨_,rfl,?_⟩
      refine nrm ?_
      have B475:=UpdS.below U3e g3c q2e.lt
      have ow2m:=bk467 _ _ (by rw [hl473];simp only [List.length_take,List.length_drop];omega) q1m
      have X3m:=xO X0c B475 X1b.size
      have X4m:=xO X1c B475 (Nat.le_refl _)
      have ow5c:=OW.updO ow7d U3e (hl113 _ hA1e hz8l)
      obtain ⟨u9o,h5m,f6m⟩:=Ad f0m
      obtain ⟨bb483,hA4e,hz0p,ia5e,ib6e,hc488⟩:=OW.nthc ow5c h5m
      refine sV (AA AG Av rfl rfl hA4e ia5e ib6e) ?_
      refine MW Av rfl rfl ow5c hA4e ia5e (by rw [OW.len ow5c];exact ib6e) fun w4a B489 U1p ow7m=>?_
      have X8m:=xO X3m B489 X4d.size
      have X9m:=xO X4m B489 X5d.size
      have ow0n:=OW.bel2 ow2m B489 hl113
      refine wh h5l<|Ah<|sV3 (Aa rfl) (Bt (c:=wi64 (v1a - 1)) rfl rfl rfl) (Ab rfl) ?_
      refine AF ?_
      exact ih0l _ _ ⟨(wi64 (v1a - 1)),(List.set v0b (v1a:Int).toNat r4c.1),(((v2a).take ((v1a:Int).toNat))++r4c.2++((v2a).drop (((wi64 ((wi64 (v1a+(r0a.length:Int)))+1)):Int).toNat))),X8m,X9m,ow7m,ow0n,f6m,(Fr.mk (by kernel_rfl))⟩
     ·refine cf e2c<|wp_exit ?_
      simp only [Exit.then,Exit.inBlock,↓reduceIte,Nat.reduceEqDiff]
      obtain rfl:=sj f4l
      exact ⟨_,rfl,X0c,X1c,ow7d,ow3a,(Fr.mk (by kernel_rfl))⟩
   ·rintro _ w8 ⟨X7e,X2p,ow8e,ow9e,⟨t2b,rfl⟩⟩ l'' hl
    simp only [gp,Nat.reduceAdd] at hl
    subst hl
    refine h6k _ _<|ws fun h1n=>Ah<|sV (Aa rfl) ?_
    refine scn f9k (Ac Lv (by simp only [OW.len ow8e];rfl)) (DE m9a.1 A8a (((wi64 ((((((wi64 ((x0.length:Int)+1)):Int).toNat):Nat):Int) - (r0a.length:Int))):Int).toNat) w8 (tbx X7e hT) (OW.rl ow8e)) fun r3p f2n w9 A3n c4n E6c n5n=>?_
    have X0f:=xtr X7e E6c
    refine sV (Aa rfl) ?_
    refine scn f2n (Ac Lv (by simp only [OW.len (ow9e.ext E6c)];rfl)) (DE m9a.2 A7a (((wi64 ((x0.length:Int)+1)):Int).toNat) w9 (tbx X0f hT) (OW.rl (ow9e.ext E6c))) fun r6n f7n w4a A8n c9n E1f n0o=>?_
    have X2f:=xtr X0f E1f
    refine sV (Aa rfl) ?_
    refine scn f7n (Ac Sl (by rfl)) (JR r6n r6a A8n c9n w4a (tbx X2f hT) n0o) fun r4p f1o w5p A2o c3o E3f n4o=>?_
    have X5o:=xtr X2f E3f
    refine sV2 (Ab rfl) (Ab rfl) ?_
    refine wh h1n<|wp_ret ?_
    exact Gd f1o rfl (Res.tmp rfl (Res.tmp rfl Res.nil)) (AJ X5o ⟨A3n,c4n,A2o,c3o,rfl,((n5n.ext E1f).ext E3f),n4o⟩)
theorem Ka (x0:List Int) (x1:List Int) (A1:OA) (c2:Nat) (A4:OA) (c5:Nat) (w:World) (hT:TB w) (n3:RLu w A1 c2 x0) (n6:RLu w A4 c5 x1) (r:List Int) (hr:DW x0 x1=some r) :
  Calls prog 253 #[.slice A1 x0.length c2,.slice A4 x1.length c5] w (Ret Kx w r):=by
 unfold DW at hr
 go_enter func253,ntmps253
 refine ws fun h7=>Ah<|sV (Ab rfl) ?_
 refine nx h7 fun h8=>sV3 (Aa rfl) (AD AG rfl) (Aa rfl) ?_
 refine sV3 (AD AG rfl) (OC rfl rfl) (AV (c:=wi64 ((max (x0.length:Int) (x1.length:Int))+1)) rfl rfl rfl) ?_
 obtain ⟨_,h9,f4c⟩:=Ad hr
 have gd11:=AI h9
 refine IH AG ER rfl rfl gd11 fun A4a w1 E5c ow6c=>?_
 refine nrm ?_
 refine sV (Ab rfl) ?_
 refine nx h8 fun h7c=>sV (Ab rfl) ?_
 refine wh h7c<|ws fun h8c=>ws fun h9c=>Ah<|sV3 (Aa rfl) (AD AG rfl) (Aa rfl) ?_
 refine wh h9c ?_
 obtain ⟨m8a,h0d,f1d⟩:=Ad f4c
 refine CG (fun l l' w'=>Ext w w'∧OW 179 w.heap.size w' A4a (((wi64 ((max (x0.length:Int) (x1.length:Int))+1)):Int).toNat) (((wi64 ((max (x0.length:Int) (x1.length:Int))+1)):Int).toNat) m8a∧Fr l' (fun t9a=>gp t9a 0 5 (.slice A4a (((wi64 ((max (x0.length:Int) (x1.length:Int))+1)):Int).toNat) (((wi64 ((max (x0.length:Int) (x1.length:Int))+1)):Int).toNat)::gp t9a 6 33 []))) ?_ ?_
 ·apply wp_block
  refine Bp (fun l n3b l' w'=>∃(v0a:Int) (v1a:Int) (v5a:List Int),Ext w w'∧OW 179 w.heap.size w' A4a (((wi64 ((max (x0.length:Int) (x1.length:Int))+1)):Int).toNat) (((wi64 ((max (x0.length:Int) (x1.length:Int))+1)):Int).toNat) v5a∧DO x0 x1 n3b v0a v1a v5a=some m8a∧Fr l' (fun t6a=>.slice A1 x0.length c2::.slice A4 x1.length c5::gp t6a 2 3 (.slice A4a (((wi64 ((max (x0.length:Int) (x1.length:Int))+1)):Int).toNat) (((wi64 ((max (x0.length:Int) (x1.length:Int))+1)):Int).toNat)::.int .u64 v0a::gp t6a 7 9 (.int .i64 (((((wi64 ((max (x0.length:Int) (x1.length:Int))+1)):Int).toNat):Nat):Int)::.int .i64 v1a::gp t6a 18 21 [])))) 18446744073709551616 ?_ ?_ ?_
  ·exact ⟨0,0,(List.replicate ((wi64 ((max (x0.length:Int) (x1.length:Int))+1)):Int).toNat (0:Int)),E5c,ow6c,h0d,(Fr.mk (by kernel_rfl))⟩
  ·rintro l' w' ⟨v0a,v1a,v5a,_,_,hz,_⟩
   exact nomatch hz
  ·rintro n3b ih2d _ w2 ⟨v0a,v1a,v5a,X7a,ow4b,hr5b,⟨t6a,rfl⟩⟩ l'' hl
   simp only [gp,Nat.reduceAdd] at hl
   subst hl
   unfold DO at hr5b
   refine AW<|ws fun h3d=>Ah<|sbl (Bv rfl rfl) fun z6b hz6b=>?_
   refine wh h3d<|ws fun h4d=>?_
   rcases zi hz6b hr5b with ⟨e0b,_,f5d⟩ | ⟨e0b,_,f6d⟩
   ·refine ct e0b<|wp_skip<|h4d _ _<|ws fun h7d=>?_
    apply wp_block
    refine ws fun h8d=>Ah<|sV2 (Aa rfl) (Ab rfl) ?_
    refine nx h8d fun h9d=>sV3 (Aa rfl) (Aa rfl) (Aa rfl) ?_
    refine scr f5d (Ac Mg (by rfl)) (Fu x0 v1a A1 c2 w2 (tbx X7a hT) (n3.ext X7a)) fun r2a f0e w3 E7b=>?_
    have X1b:=xtr X7a E7b
    refine sV2 (Aa rfl) (Aa rfl) ?_
    refine scr f0e (Ac Mg (by rfl)) (Fu x1 v1a A4 c5 w3 (tbx X1b hT) (n6.ext X1b)) fun r3a f1e w4 E8b=>?_
    have X2e:=xtr X1b E8b
    refine sV3 (AV (c:=wu64 (r2a+r3a)) rfl rfl rfl) (AV (c:=wu64 (v0a+(wu64 (r2a+r3a)))) rfl rfl rfl) (Ab rfl) ?_
    refine nx h9d fun h3e=>sV3 (Aa rfl) (Aa rfl) (Aa rfl) ?_
    refine sV (AO (c:=wu32 (wu64 (v0a+(wu64 (r2a+r3a))))) AN AQ rfl rfl) ?_
    have ow2b:=(ow4b.ext E7b).ext E8b
    obtain ⟨u5f,h4e,f5e⟩:=Ad f1e
    obtain ⟨bb306,hA9b,hz6f,ia0c,ib1c,hc311⟩:=OW.nthc ow2b h4e
    refine sV (AA AG Av rfl rfl hA9b ia0c ib1c) ?_
    refine MW Av rfl rfl ow2b hA9b ia0c (by rw [OW.len ow2b];exact ib1c) fun w5 B312 U7f ow6e=>?_
    have X7e:=xO X2e B312 (Nat.le_refl _)
    refine wh h3e<|Ah<|sV2 (Aa rfl) (IX (c:=(wu64 (v0a+(wu64 (r2a+r3a)))).fdiv (2^min (32:Int).toNat IntKind.u64.bits)) (by decide) rfl rfl rfl) ?_
    refine sV (Ab rfl) ?_
    refine wh h7d<|Ah<|sV2 (AV (c:=wi64 (v1a+1)) rfl rfl rfl) (Aa rfl) ?_
    refine AF ?_
    exact ih2d _ _ ⟨((wu64 (v0a+(wu64 (r2a+r3a)))).fdiv (2^min (32:Int).toNat IntKind.u64.bits)),(wi64 (v1a+1)),(List.set v5a (v1a:Int).toNat (wu32 (wu64 (v0a+(wu64 (r2a+r3a)))))),X7e,ow6e,f5e,(Fr.mk (by kernel_rfl))⟩
   ·refine cf e0b<|wp_exit ?_
    simp only [Exit.then,Exit.inBlock,↓reduceIte,Nat.reduceEqDiff]
    obtain rfl:=sj f6d
    exact ⟨_,rfl,X7a,ow4b,(Fr.mk (by kernel_rfl))⟩
 ·rintro _ w2 ⟨X2c,ow3c,⟨t9a,rfl⟩⟩ l'' hl
  simp only [gp,Nat.reduceAdd] at hl
  subst hl
  refine h8c _ _<|ws fun h8e=>Ah<|sV (Aa rfl) ?_
  refine scn f1d (Ac Lv (by simp only [OW.len ow3c];rfl)) (DE m8a A4a (((wi64 ((max (x0.length:Int) (x1.length:Int))+1)):Int).toNat) w2 (tbx X2c hT) (OW.rl ow3c)) fun r8f f9e w3 A0f c1f E2f n3f=>?_
  have X4f:=xtr X2c E2f
  refine sV (Ab rfl) ?_
  refine wh h8e<|wp_ret ?_
  exact Bn f9e X4f ⟨A0f,c1f,rfl,n3f⟩
theorem Kb (x0:List Int) (x1:List Int) (A1:OA) (c2:Nat) (A4:OA) (c5:Nat) (w:World) (hT:TB w) (n3:RLu w A1 c2 x0) (n6:RLu w A4 c5 x1) (r:List Int) (hr:DV x0 x1=some r) :
  Calls prog 252 #[.slice A1 x0.length c2,.slice A4 x1.length c5] w (Ret Kx w r):=by
 unfold DV at hr
 go_enter func252,ntmps252
 refine ws fun h7=>Ah<|sV (Ab rfl) ?_
 refine nx h7 fun h8=>sV2 (Aa rfl) (AD AG rfl) ?_
 obtain ⟨_,h9,f4c⟩:=Ad hr
 have gd11:=AI h9
 refine IH AG ER rfl rfl gd11 fun A4a w1 E5c ow6c=>?_
 refine nrm ?_
 refine sV (Ab rfl) ?_
 refine nx h8 fun h7c=>sV (Ab rfl) ?_
 refine wh h7c<|ws fun h8c=>ws fun h9c=>Ah<|sV3 (Aa rfl) (AD AG rfl) (Aa rfl) ?_
 refine wh h9c ?_
 obtain ⟨m8a,h0d,f1d⟩:=Ad f4c
 refine CG (fun l l' w'=>Ext w w'∧OW 179 w.heap.size w' A4a (((x0.length:Int):Int).toNat) (((x0.length:Int):Int).toNat) m8a∧Fr l' (fun t9a=>gp t9a 0 5 (.slice A4a (((x0.length:Int):Int).toNat) (((x0.length:Int):Int).toNat)::gp t9a 6 30 []))) ?_ ?_
 ·apply wp_block
  refine Bp (fun l n3b l' w'=>∃(v0a:Int) (v1a:Int) (v5a:List Int),Ext w w'∧OW 179 w.heap.size w' A4a (((x0.length:Int):Int).toNat) (((x0.length:Int):Int).toNat) v5a∧DK x0 x1 n3b v0a v1a v5a=some m8a∧Fr l' (fun t6a=>.slice A1 x0.length c2::.slice A4 x1.length c5::gp t6a 2 3 (.slice A4a (((x0.length:Int):Int).toNat) (((x0.length:Int):Int).toNat)::.int .u64 v0a::gp t6a 7 6 (.int .i64 (((((x0.length:Int):Int).toNat):Nat):Int)::.int .i64 v1a::gp t6a 15 21 [])))) 18446744073709551616 ?_ ?_ ?_
  ·exact ⟨0,0,(List.replicate ((x0.length:Int):Int).toNat (0:Int)),E5c,ow6c,h0d,(Fr.mk (by kernel_rfl))⟩
  ·rintro l' w' ⟨v0a,v1a,v5a,_,_,hz,_⟩
   exact nomatch hz
  ·rintro n3b ih2d _ w2 ⟨v0a,v1a,v5a,X7a,ow4b,hr5b,⟨t6a,rfl⟩⟩ l'' hl
   simp only [gp,Nat.reduceAdd] at hl
   subst hl
   unfold DK at hr5b
   refine AW<|ws fun h3d=>Ah<|sbl (Bv rfl rfl) fun z6b hz6b=>?_
   refine wh h3d<|ws fun h4d=>?_
   rcases zi hz6b hr5b with ⟨e0b,_,f5d⟩ | ⟨e0b,_,f6d⟩
   ·refine ct e0b<|wp_skip<|h4d _ _<|ws fun h7d=>?_
    apply wp_block
    refine ws fun h8d=>Ah<|sV2 (Aa rfl) (Ab rfl) ?_
    refine nx h8d fun h9d=>sV2 (Aa rfl) (Aa rfl) ?_
    refine scr f5d (Ac Mg (by rfl)) (Fu x0 v1a A1 c2 w2 (tbx X7a hT) (n3.ext X7a)) fun r2a f0e w3 E7b=>?_
    have X1b:=xtr X7a E7b
    refine sV2 (Aa rfl) (Aa rfl) ?_
    refine scr f0e (Ac Mg (by rfl)) (Fu x1 v1a A4 c5 w3 (tbx X1b hT) (n6.ext X1b)) fun r3a f1e w4 E8b=>?_
    have X2e:=xtr X1b E8b
    refine sV3 (Bt (c:=wu64 (r2a - r3a)) rfl rfl rfl) (Aa rfl) (Bt (c:=wu64 ((wu64 (r2a - r3a)) - v0a)) rfl rfl rfl) ?_
    refine sV (Ab rfl) ?_
    refine nx h9d fun h3e=>sV3 (Aa rfl) (Aa rfl) (Aa rfl) ?_
    refine sV (AO (c:=wu32 (wu64 ((wu64 (r2a - r3a)) - v0a))) AN AQ rfl rfl) ?_
    have ow2b:=(ow4b.ext E7b).ext E8b
    obtain ⟨u5f,h4e,f5e⟩:=Ad f1e
    obtain ⟨bb306,hA9b,hz6f,ia0c,ib1c,hc311⟩:=OW.nthc ow2b h4e
    refine sV (AA AG Av rfl rfl hA9b ia0c ib1c) ?_
    refine MW Av rfl rfl ow2b hA9b ia0c (by rw [OW.len ow2b];exact ib1c) fun w5 B312 U7f ow6e=>?_
    have X7e:=xO X2e B312 (Nat.le_refl _)
    refine wh h3e<|Ah<|sV2 (Aa rfl) (IX (c:=(wu64 ((wu64 (r2a - r3a)) - v0a)).fdiv (2^min (63:Int).toNat IntKind.u64.bits)) (by decide) rfl rfl rfl) ?_
    refine sV (Ab rfl) ?_
    refine wh h7d<|Ah<|sV2 (AV (c:=wi64 (v1a+1)) rfl rfl rfl) (Aa rfl) ?_
    refine AF ?_
    exact ih2d _ _ ⟨((wu64 ((wu64 (r2a - r3a)) - v0a)).fdiv (2^min (63:Int).toNat IntKind.u64.bits)),(wi64 (v1a+1)),(List.set v5a (v1a:Int).toNat (wu32 (wu64 ((wu64 (r2a - r3a)) - v0a)))),X7e,ow6e,f5e,(Fr.mk (by kernel_rfl))⟩
   ·refine cf e0b<|wp_exit ?_
    simp only [Exit.then,Exit.inBlock,↓reduceIte,Nat.reduceEqDiff]
    obtain rfl:=sj f6d
    exact ⟨_,rfl,X7a,ow4b,(Fr.mk (by kernel_rfl))⟩
 ·rintro _ w2 ⟨X2c,ow3c,⟨t9a,rfl⟩⟩ l'' hl
  simp only [gp,Nat.reduceAdd] at hl
  subst hl
  refine h8c _ _<|ws fun h8e=>Ah<|sV (Aa rfl) ?_
  refine scn f1d (Ac Lv (by simp only [OW.len ow3c];rfl)) (DE m8a A4a (((x0.length:Int):Int).toNat) w2 (tbx X2c hT) (OW.rl ow3c)) fun r8f f9e w3 A0f c1f E2f n3f=>?_
  have X4f:=xtr X2c E2f
  refine sV (Ab rfl) ?_
  refine wh h8e<|wp_ret ?_
  exact Bn f9e X4f ⟨A0f,c1f,rfl,n3f⟩
end Go.Proofs.Lf

