import Derived.Test.YtabiobmfelafoaaGreatDoorBack
import Derived.Test.YtabiobmfelafoaaGreatDoorLeaf2
namespace Go.Proofs.Lf
set_option linter.unusedVariables false
set_option linter.unusedSimpArgs false
set_option maxHeartbeats 4000000
open Go.RowKit Go.Sb Go.Proofs Go.Proofs.Sbn
theorem WN.upd {t b n c:Nat} {pre ys xs zs:List Int} {A:Option Addr} {w w':World} (h:WN t b pre ys w A n c xs) (hl:zs.length=xs.length) (q:Bx w' b t (us (pre++zs++ys))):WN t b pre ys w' A n c zs:=⟨hl.trans h.1,h.2.1,q,h.2.2.2⟩
theorem en_264:Ent Tryz.prog 264:=ent Tryz.func264 (by kernel_rfl) rfl
theorem en_271:Ent Tryz.prog 271:=ent Tryz.func271 (by kernel_rfl) rfl
theorem MK:Ent Tryz.prog 272:=ent Tryz.func272 (by kernel_rfl) rfl
theorem en_282:Ent Tryz.prog 282:=ent Tryz.func282 (by kernel_rfl) rfl
theorem en_283:Ent Tryz.prog 283:=ent Tryz.func283 (by kernel_rfl) rfl
theorem NM:Ent Tryz.prog 251:=ent Tryz.func251 (by kernel_rfl) rfl
theorem MV:Ent Tryz.prog 226:=ent Tryz.func226 (by kernel_rfl) rfl
theorem en_268:Ent Tryz.prog 268:=ent Tryz.func268 (by kernel_rfl) rfl
theorem NQ:Ent Tryz.prog 249:=ent Tryz.func249 (by kernel_rfl) rfl
theorem en_267:Ent Tryz.prog 267:=ent Tryz.func267 (by kernel_rfl) rfl
def La (w:World) (r:List Int × List Int) (v:Value):Prop:=∃(A1:Option Addr) (c1:Nat) (A2:Option Addr) (c2:Nat),v = .tuple #[.slice A1 r.1.length c1,.slice A2 r.2.length c2]∧RLu w A1 c1 r.1∧RLu w A2 c2 r.2
def En (x0:List Int) (x1:Int):Option (Int):=
 if x1<(x0.length:Int) then (nth x0 x1).bind fun u0a=>
 some (wu64 u0a) else some 0
def JW (x0:Int):Option (List Int):=
 (Cw ([(wu32 x0),(wu32 (x0.fdiv (2^min (32:Int).toNat IntKind.u64.bits)))]:List Int)).bind fun r8=>
 some r8
def FJ (x0:List Int):Option (Int):=
 if (x0.length:Int)=0 then some 0 else (nth x0 (wi64 ((x0.length:Int) - 1))).bind fun u0a=>
 (Gy u0a).bind fun r1a=>
 some (wi64 ((wi64 (32*(wi64 ((x0.length:Int) - 1))))+r1a))
def Da (x0:List Int) (x1:Int):Nat→Int→List Int→Option (List Int)
 | 0,_,_=>none
 | n2a+1,v0a,v1a=>
 if v0a<(((((wi64 ((x0.length:Int) - (wi64 (x1.tdiv 32)))):Int).toNat):Nat):Int) then (En x0 (wi64 (v0a+(wi64 (x1.tdiv 32))))).bind fun r3a=>
 (En x0 (wi64 ((wi64 (v0a+(wi64 (x1.tdiv 32))))+1))).bind fun r4a=>
 (gd (0≤(x1.tmod 32))).bind fun _=>
 (nth v1a v0a).bind fun u5a=>
 Da x0 x1 n2a (wi64 (v0a+1)) (List.set v1a (v0a:Int).toNat (wu32 ((bor .u64 r3a (wu64 (r4a*2^min (32:Int).toNat IntKind.u64.bits))).fdiv (2^min ((x1.tmod 32):Int).toNat IntKind.u64.bits)))) else some (v1a)
def Dk (x0:List Int) (x1:Int):Option (List Int):=
 (FJ x0).bind fun r7=>
 if r7≤x1 then some ([]:List Int) else (gd (0≤((wi64 ((x0.length:Int) - (wi64 (x1.tdiv 32)))):Int)∧((wi64 ((x0.length:Int) - (wi64 (x1.tdiv 32)))):Int)≤((wi64 ((x0.length:Int) - (wi64 (x1.tdiv 32)))):Int)∧((wi64 ((x0.length:Int) - (wi64 (x1.tdiv 32)))):Int)≤70368744177664)).bind fun _=>
 (Da x0 x1 18446744073709551616 0 (List.replicate ((wi64 ((x0.length:Int) - (wi64 (x1.tdiv 32)))):Int).toNat (0:Int))).bind fun m0a=>
 (Cw m0a).bind fun r1a=>
 some r1a
def DM (x0:List Int) (x1:Int):Nat→Int→Int→List Int→Option (Int × List Int)
 | 0,_,_,_=>none
 | n4a+1,v1a,v0a,v2a=>
 if 0≤v0a then (nth x0 v0a).bind fun u3a=>
 (gd ((wu64 x1)≠0)).bind fun _=>
 (nth v2a v0a).bind fun u5a=>
 (gd ((wu64 x1)≠0)).bind fun _=>
 DM x0 x1 n4a ((bor .u64 (wu64 (v1a*2^min (32:Int).toNat IntKind.u64.bits)) (wu64 u3a)).tmod (wu64 x1)) (wi64 (v0a - 1)) (List.set v2a (v0a:Int).toNat (wu32 (wu64 ((bor .u64 (wu64 (v1a*2^min (32:Int).toNat IntKind.u64.bits)) (wu64 u3a)).tdiv (wu64 x1))))) else some (v1a,v2a)
def Fx (x0:List Int) (x1:Int):Option (List Int × List Int):=
 (gd (0≤((x0.length:Int):Int)∧((x0.length:Int):Int)≤((x0.length:Int):Int)∧((x0.length:Int):Int)≤70368744177664)).bind fun _=>
 (DM x0 x1 18446744073709551616 0 (wi64 ((x0.length:Int) - 1)) (List.replicate ((x0.length:Int):Int).toNat (0:Int))).bind fun m0a=>
 (Cw m0a.2).bind fun r1a=>
 (JW m0a.1).bind fun r2a=>
 some (r1a,r2a)
def EJ (x0:List Int) (x1:List Int) (x2:Int):Nat→Int→Int→Int→List Int→Option (Int × List Int)
 | 0,_,_,_,_=>none
 | n6a+1,v2a,v3a,v0a,v1a=>
 if v0a<((x0.length:Nat):Int) then (En x1 v0a).bind fun r4a=>
 (nth v1a v0a).bind fun u5a=>
 (nth v1a v0a).bind fun u7a=>
 EJ x0 x1 x2 n6a ((wu64 (v2a+(wu64 (x2*r4a)))).fdiv (2^min (32:Int).toNat IntKind.u64.bits)) ((wu64 ((wu64 ((wu64 u5a) - (wu64 (wu32 (wu64 (v2a+(wu64 (x2*r4a)))))))) - v3a)).fdiv (2^min (63:Int).toNat IntKind.u64.bits)) (wi64 (v0a+1)) (List.set v1a (v0a:Int).toNat (wu32 (wu64 ((wu64 ((wu64 u5a) - (wu64 (wu32 (wu64 (v2a+(wu64 (x2*r4a)))))))) - v3a)))) else some (v3a,v1a)
def IT (x0:List Int) (x1:List Int) (x2:Int):Option ((Bool) × List Int):=
 (EJ x0 x1 x2 18446744073709551616 0 0 0 x0).bind fun m0a=>
 some ((decide (0<m0a.1)),m0a.2)
def EL (x0:List Int) (x1:List Int):Nat→Int→Int→Option (Int)
 | 0,_,_=>none
 | n2a+1,v0a,v1a=>
 (if v1a<4294967296 then (nth x1 (wi64 ((x1.length:Int) - 2))).bind fun u3a=>
 (nth x0 (wi64 ((x1.length:Int) - 2))).bind fun u4a=>
 some (decide ((bor .u64 (wu64 (v1a*2^min (32:Int).toNat IntKind.u64.bits)) (wu64 u4a))<(wu64 (v0a*(wu64 u3a))))) else some (false)).bind fun m5a=>
 if m5a=true then (nth x1 (wi64 ((x1.length:Int) - 1))).bind fun u6a=>
 EL x0 x1 n2a (wu64 (v0a - 1)) (wu64 (v1a+(wu64 u6a))) else some (v0a)
def DA (x0:List Int) (x1:List Int):Nat→Int→Int→List Int→Option (List Int)
 | 0,_,_,_=>none
 | n5a+1,v2a,v0a,v1a=>
 if v0a<((x0.length:Nat):Int) then (nth v1a v0a).bind fun u3a=>
 (En x1 v0a).bind fun r4a=>
 (nth v1a v0a).bind fun u6a=>
 DA x0 x1 n5a ((wu64 (v2a+(wu64 ((wu64 u3a)+r4a)))).fdiv (2^min (32:Int).toNat IntKind.u64.bits)) (wi64 (v0a+1)) (List.set v1a (v0a:Int).toNat (wu32 (wu64 (v2a+(wu64 ((wu64 u3a)+r4a)))))) else some (v1a)
def GG (x0:List Int) (x1:List Int):Option ((Int) × List Int):=
 (nth x0 (x1.length:Int)).bind fun u0a=>
 (nth x0 (wi64 ((x1.length:Int) - 1))).bind fun u1a=>
 (nth x1 (wi64 ((x1.length:Int) - 1))).bind fun u32=>
 (gd ((wu64 u32)≠0)).bind fun _=>
 (nth x1 (wi64 ((x1.length:Int) - 1))).bind fun u5a=>
 (EL x0 x1 18446744073709551616 (min (wu64 ((bor .u64 (wu64 ((wu64 u0a)*2^min (32:Int).toNat IntKind.u64.bits)) (wu64 u1a)).tdiv (wu64 u32))) 4294967295) (wu64 ((bor .u64 (wu64 ((wu64 u0a)*2^min (32:Int).toNat IntKind.u64.bits)) (wu64 u1a)) - (wu64 ((min (wu64 ((bor .u64 (wu64 ((wu64 u0a)*2^min (32:Int).toNat IntKind.u64.bits)) (wu64 u1a)).tdiv (wu64 u32))) 4294967295)*(wu64 u5a)))))).bind fun m2a=>
 (IT x0 x1 m2a).bind fun r3a=>
 (if r3a.1=true then (DA x0 x1 18446744073709551616 0 0 r3a.2).bind fun m6a=>
 some ((wu64 (m2a - 1)),m6a) else some (m2a,r3a.2)).bind fun m4a=>
 some ((wu32 m4a.1),m4a.2)
def Dp (x0:List Int) (x1:List Int) (r1a:List Int):Nat→Int→List Int→List Int→Option (List Int × List Int)
 | 0,_,_,_=>none
 | n5a+1,v0a,v3a,v2a=>
 if 0≤v0a then (gd (0≤(v0a:Int)∧(v0a:Int)<(wi64 ((wi64 (v0a+(r1a.length:Int)))+1))∧(wi64 ((wi64 (v0a+(r1a.length:Int)))+1))≤(v2a.length:Int))).bind fun _=>
 (GG ((List.drop ((v0a:Int).toNat) v2a).take ((((wi64 ((wi64 (v0a+(r1a.length:Int)))+1)):Int).toNat) - ((v0a:Int).toNat))) r1a).bind fun r4a=>
 (nth v3a v0a).bind fun u6a=>
 Dp x0 x1 r1a n5a (wi64 (v0a - 1)) (List.set v3a (v0a:Int).toNat r4a.1) (((v2a).take ((v0a:Int).toNat))++r4a.2++((v2a).drop (((wi64 ((wi64 (v0a+(r1a.length:Int)))+1)):Int).toNat))) else some (v3a,v2a)
def BM (x0:List Int) (x1:List Int):Option (List Int × List Int):=
 if (x1.length:Int)=1 then (nth x1 0).bind fun u5a=>
 (Fx x0 u5a).bind fun r2a=>
 some (r2a.1,r2a.2) else (DQ x0 x1).bind fun r6a=>
 if r6a<0 then some (([]:List Int),x0) else (nth x1 (wi64 ((x1.length:Int) - 1))).bind fun u7a=>
 (AZ u7a).bind fun r1a=>
 (Cr x1 r1a).bind fun r0a=>
 (gd (0≤((wi64 ((x0.length:Int)+1)):Int)∧((wi64 ((x0.length:Int)+1)):Int)≤((wi64 ((x0.length:Int)+1)):Int)∧((wi64 ((x0.length:Int)+1)):Int)≤70368744177664)).bind fun _=>
 (Cr x0 r1a).bind fun r3a=>
 (gd (0≤((wi64 ((((((wi64 ((x0.length:Int)+1)):Int).toNat):Nat):Int) - (r0a.length:Int))):Int)∧((wi64 ((((((wi64 ((x0.length:Int)+1)):Int).toNat):Nat):Int) - (r0a.length:Int))):Int)≤((wi64 ((((((wi64 ((x0.length:Int)+1)):Int).toNat):Nat):Int) - (r0a.length:Int))):Int)∧((wi64 ((((((wi64 ((x0.length:Int)+1)):Int).toNat):Nat):Int) - (r0a.length:Int))):Int)≤70368744177664)).bind fun _=>
 (Dp x0 x1 r0a 18446744073709551616 (wi64 ((((((wi64 ((((((wi64 ((x0.length:Int)+1)):Int).toNat):Nat):Int) - (r0a.length:Int))):Int).toNat):Nat):Int) - 1)) (List.replicate ((wi64 ((((((wi64 ((x0.length:Int)+1)):Int).toNat):Nat):Int) - (r0a.length:Int))):Int).toNat (0:Int)) ((r3a).take (List.length (List.replicate ((wi64 ((x0.length:Int)+1)):Int).toNat (0:Int)))++(List.replicate ((wi64 ((x0.length:Int)+1)):Int).toNat (0:Int)).drop r3a.length)).bind fun m4a=>
 (Cw m4a.1).bind fun r8a=>
 (Cw m4a.2).bind fun r9a=>
 (Dk r9a r1a).bind fun r0b=>
 some (r8a,r0b)
theorem Hy (x0:List Int) (x1:Int) (A1:Option Addr) (c2:Nat) (w:World) (hT:TB w) (n3:RLu w A1 c2 x0) (r:Int) (hr:En x0 x1=some r) :
  Calls Tryz.prog 272 #[.slice A1 x0.length c2,.int .i64 x1] w (Ret KM w r):=by
 unfold En at hr
 go_enter Tryz.func272,Tryz.ntmps272
 refine wp_seq_k fun K4 h4=>Af<|sV (Ac rfl) ?_
 refine Ad<|h4 _ _<|wp_seq_k fun K5 h5=>wp_seq_k fun K6 h6=>Af<|sV (Aa rfl) ?_
 refine sV (Aa rfl) ?_
 refine sV (AD AP rfl) ?_
 refine sb (Cm rfl rfl) fun z7 hz7=>?_
 refine nrm ?_
 refine Ad<|h6 _ _ ?_
 rcases bft z7 with e0a | e0a
 ·have p3a:=zP hz7 e0a
  have f4a:=ifP p3a hr
  refine wp_cond_true (Aj (evb rfl e0a))<|wp_seq_k fun K1a h1a=>Af<|sV (Aa rfl) ?_
  refine sV (Aa rfl) ?_
  obtain ⟨u5a,h6a,f7a⟩:=Ab f4a
  obtain ⟨bb34,oo35,hA8a,ia9a,ib0b,hc37⟩:=RL.nth n3 h6a
  refine sV (Ay AP As rfl rfl hA8a ia9a ib0b) ?_
  refine sV (Ag AV rfl hc37) ?_
  refine sV (AQ (c:=wu64 u5a) AR AO rfl rfl) ?_
  refine sV (Ac rfl) ?_
  refine Ad<|h1a _ _<|wp_ret ?_
  obtain rfl:=sj f7a
  exact fin rfl (Res.tmp rfl Res.nil) (Ak (Ext.refl _) rfl)
 ·have p1b:=zN hz7 e0a
  have f2b:=ifN p1b hr
  refine wp_cond_false (Aj (evb rfl e0a))<|wp_skip<|h5 _ _<|wp_seq_k fun K2a h2a=>Af<|sV (Ac rfl) ?_
  refine Ad<|h2a _ _<|wp_ret ?_
  obtain rfl:=sj f2b
  exact fin rfl (Res.tmp rfl Res.nil) (Ak (Ext.refl _) rfl)
theorem c_nat_of (x0:Int) (w:World) (hT:TB w) (r:List Int) (hr:JW x0=some r) :
  Calls Tryz.prog 282 #[.int .u64 x0] w (Ret KI w r):=by
 unfold JW at hr
 go_enter Tryz.func282,Tryz.ntmps282
 refine wp_seq_k fun K1 h1=>Af<|sV (Ac rfl) ?_
 refine Ad<|h1 _ _<|wp_seq_k fun K2 h2=>Af<|sV (Aa rfl) ?_
 refine sV (AQ (c:=wu32 x0) AO AR rfl rfl) ?_
 refine sV (Aa rfl) ?_
 refine sV (IA (c:=x0.fdiv (2^min (32:Int).toNat IntKind.u64.bits)) (by decide) rfl rfl rfl) ?_
 refine sV (AQ (c:=wu32 (x0.fdiv (2^min (32:Int).toNat IntKind.u64.bits))) AO AR rfl rfl) ?_
 refine Ct (vals:=[(0,.int .u32 (wu32 x0)),(1,.int .u32 (wu32 (x0.fdiv (2^min (32:Int).toNat IntKind.u64.bits))))]) (cs:=[.int .u32 (wu32 x0),.int .u32 (wu32 (x0.fdiv (2^min (32:Int).toNat IntKind.u64.bits)))]) AP As Hc (by rfl) (by decide) (by kernel_rfl) fun b4 w1 E3 g5 q6=>?_
 refine nrm ?_
 have n7:RLu w1 (some ⟨b4,0,none⟩) 2 [(wu32 x0),(wu32 (x0.fdiv (2^min (32:Int).toNat IntKind.u64.bits)))]:=(OW.lit (n0:=0) (n:=2) (xs:=[(wu32 x0),(wu32 (x0.fdiv (2^min (32:Int).toNat IntKind.u64.bits)))]) q6 (Nat.zero_le _) rfl (by decide)).rl
 obtain ⟨r8,h9,f0a⟩:=Ab hr
 refine sc (Ae Lc (by rfl)) (EM ([(wu32 x0),(wu32 (x0.fdiv (2^min (32:Int).toNat IntKind.u64.bits)))]:List Int) (some ⟨b4,0,none⟩) 2 w1 (tbx E3 hT) n7 r8 h9) ?_
 rintro _ w2 E1a ⟨A2a,c3a,rfl,n4a⟩
 refine nrm ?_
 have X5a:=xtr E3 E1a
 refine sV (Ac rfl) ?_
 refine Ad<|h2 _ _<|wp_ret ?_
 obtain rfl:=sj f0a
 exact fin rfl (Res.tmp rfl Res.nil) (Ak X5a ⟨A2a,c3a,rfl,n4a⟩)
theorem c_nat_limbs_size (x0:List Int) (A1:Option Addr) (c2:Nat) (w:World) (hT:TB w) (n3:RLu w A1 c2 x0) (r:Int) (hr:FJ x0=some r) :
  Calls Tryz.prog 271 #[.slice A1 x0.length c2] w (Ret GI w r):=by
 unfold FJ at hr
 go_enter Tryz.func271,Tryz.ntmps271
 refine wp_seq_k fun K4 h4=>Af<|sV (Ac rfl) ?_
 refine Ad<|h4 _ _<|wp_seq_k fun K5 h5=>wp_seq_k fun K6 h6=>Af<|sV (Aa rfl) ?_
 refine sV (AD AP rfl) ?_
 refine sb (Ce rfl rfl) fun z7 hz7=>?_
 refine nrm ?_
 refine Ad<|h6 _ _ ?_
 rcases bft z7 with e0a | e0a
 ·have p4a:=zP hz7 e0a
  have f5a:=ifP p4a hr
  refine wp_cond_true (Aj (evb rfl e0a))<|wp_seq_k fun K1a h1a=>Af<|sV (Ac rfl) ?_
  refine Ad<|h1a _ _<|wp_ret ?_
  obtain rfl:=sj f5a
  exact fin rfl (Res.tmp rfl Res.nil) (Ak (Ext.refl _) rfl)
 ·have p6a:=zN hz7 e0a
  have f7a:=ifN p6a hr
  refine wp_cond_false (Aj (evb rfl e0a))<|wp_skip<|h5 _ _<|wp_seq_k fun K2a h2a=>Af<|sV (Aa rfl) ?_
  refine sV (AD AP rfl) ?_
  refine sV (Bv (c:=wi64 ((x0.length:Int) - 1)) rfl rfl rfl) ?_
  refine sV (JH (c:=wi64 (32*(wi64 ((x0.length:Int) - 1)))) rfl rfl rfl) ?_
  refine sV (Aa rfl) ?_
  refine sV (Aa rfl) ?_
  refine sV (AD AP rfl) ?_
  refine sV (Bv (c:=wi64 ((x0.length:Int) - 1)) rfl rfl rfl) ?_
  obtain ⟨u8a,h9a,f0b⟩:=Ab f7a
  obtain ⟨bb23,oo24,hA1b,ia2b,ib3b,hc26⟩:=RL.nth n3 h9a
  refine sV (Ay AP As rfl rfl hA1b ia2b ib3b) ?_
  refine sV (Ag AV rfl hc26) ?_
  obtain ⟨r3a,h4b,f32⟩:=Ab f0b
  refine sc (Ae en_264 (by rfl)) (c_math_bits_Len32 u8a w hT  r3a h4b) ?_
  rintro _ w1 E5b rfl
  refine nrm ?_
  refine sV (Bd (c:=wi64 ((wi64 (32*(wi64 ((x0.length:Int) - 1))))+r3a)) rfl rfl rfl) ?_
  refine sV (Ac rfl) ?_
  refine Ad<|h2a _ _<|wp_ret ?_
  obtain rfl:=sj f32
  exact fin rfl (Res.tmp rfl Res.nil) (Ak E5b rfl)
theorem Hg (x0:List Int) (x1:Int) (A1:Option Addr) (c2:Nat) (w:World) (hT:TB w) (n3:RLu w A1 c2 x0) (r:List Int) (hr:Dk x0 x1=some r) :
  Calls Tryz.prog 249 #[.slice A1 x0.length c2,.int .i64 x1] w (Ret KI w r):=by
 unfold Dk at hr
 go_enter Tryz.func249,Tryz.ntmps249
 refine wp_seq_k fun K4 h4=>Af<|sV (Ac rfl) ?_
 refine Ad<|h4 _ _<|wp_seq_k fun K5 h5=>wp_seq_k fun K6 h6=>Af<|sV (Aa rfl) ?_
 refine sV (Aa rfl) ?_
 obtain ⟨r7,h8,f9⟩:=Ab hr
 refine sc (Ae en_271 (by rfl)) (c_nat_limbs_size x0 A1 c2 w hT n3 r7 h8) ?_
 rintro _ w1 E1b rfl
 refine nrm ?_
 refine sb (EP rfl rfl) fun z6a hz6a=>?_
 refine nrm ?_
 refine Ad<|h6 _ _ ?_
 rcases bft z6a with e1a | e1a
 ·have p8d:=zP hz6a e1a
  have f9d:=ifP p8d f9
  refine wp_cond_true (Aj (evb rfl e1a))<|wp_seq_k fun K9b h9b=>Af<|sV (Ac rfl) ?_
  refine Ad<|h9b _ _<|wp_ret ?_
  obtain rfl:=sj f9d
  exact fin rfl (Res.tmp rfl Res.nil) (Ak E1b ⟨none,0,rfl,(RL.nil _ _ _)⟩)
 ·have p0e:=zN hz6a e1a
  have f1e:=ifN p0e f9
  refine wp_cond_false (Aj (evb rfl e1a))<|wp_skip<|h5 _ _<|wp_seq_k fun K0c h0c=>Af<|sV (Aa rfl) ?_
  refine sV (AD AP rfl) ?_
  refine sV (Aa rfl) ?_
  refine sV (HK (c:=wi64 (x1.tdiv 32)) (by decide) rfl rfl rfl) ?_
  refine sV (Bv (c:=wi64 ((x0.length:Int) - (wi64 (x1.tdiv 32)))) rfl rfl rfl) ?_
  obtain ⟨_,h2e,f3e⟩:=Ab f1e
  have gd26:=AJ h2e
  refine Iv AP Ez rfl rfl gd26 fun A2a w2 E1c ow4e=>?_
  refine nrm ?_
  have X5e:=xtr E1b E1c
  refine sV (Ac rfl) ?_
  refine Ad<|h0c _ _<|wp_seq_k fun K2c h2c=>wp_seq_k fun K3c h3c=>Af<|sV (Aa rfl) ?_
  refine sV (AD AP rfl) ?_
  refine sV (Aa rfl) ?_
  refine Ad<|h3c _ _ ?_
  obtain ⟨m2b,h6e,f7e⟩:=Ab f3e
  refine Di (fun l l' w'=>Ext w w'∧Ext w1 w'∧OW 179 w1.heap.size w' A2a (((wi64 ((x0.length:Int) - (wi64 (x1.tdiv 32)))):Int).toNat) (((wi64 ((x0.length:Int) - (wi64 (x1.tdiv 32)))):Int).toNat) m2b∧Fr l' (fun t3b=>gp t3b 0 5 (.slice A2a (((wi64 ((x0.length:Int) - (wi64 (x1.tdiv 32)))):Int).toNat) (((wi64 ((x0.length:Int) - (wi64 (x1.tdiv 32)))):Int).toNat)::gp t3b 6 43 []))) ?_ ?_
  ·apply wp_block
   refine BA (fun l n4c l' w'=>∃(v0a:Int) (v3a:List Int),Ext w w'∧Ext w1 w'∧OW 179 w1.heap.size w' A2a (((wi64 ((x0.length:Int) - (wi64 (x1.tdiv 32)))):Int).toNat) (((wi64 ((x0.length:Int) - (wi64 (x1.tdiv 32)))):Int).toNat) v3a∧Da x0 x1 n4c v0a v3a=some m2b∧Fr l' (fun t7a=>.slice A1 x0.length c2::.int .i64 x1::gp t7a 2 3 (.slice A2a (((wi64 ((x0.length:Int) - (wi64 (x1.tdiv 32)))):Int).toNat) (((wi64 ((x0.length:Int) - (wi64 (x1.tdiv 32)))):Int).toNat)::gp t7a 6 13 (.int .i64 (((((wi64 ((x0.length:Int) - (wi64 (x1.tdiv 32)))):Int).toNat):Nat):Int)::.int .i64 v0a::gp t7a 21 28 [])))) 18446744073709551616 ?_ ?_ ?_
   ·exact ⟨0,(List.replicate ((wi64 ((x0.length:Int) - (wi64 (x1.tdiv 32)))):Int).toNat (0:Int)),X5e,E1c,ow4e,h6e,(Fr.mk (by kernel_rfl))⟩
   ·rintro l' w' ⟨v0a,v3a,_,_,_,hz,_⟩
    exact nomatch hz
   ·rintro n4c ih8e _ w3 ⟨v0a,v3a,X8a,X5c,ow6c,hr4b,⟨t7a,rfl⟩⟩ l'' hl
    simp only [gp,Nat.reduceAdd] at hl
    subst hl
    unfold Da at hr4b
    refine Bg<|wp_seq_k fun K7c h7c=>Af<|sb (Cm rfl rfl) fun z9a hz9a=>?_
    refine nrm ?_
    refine Ad<|h7c _ _<|wp_seq_k fun K8c h8c=>?_
    rcases bft z9a with e4a | e4a
    ·have p9e:=zP hz9a e4a
     have f0f:=ifP p9e hr4b
     refine wp_cond_true (Aj (evb rfl e4a))<|wp_skip<|h8c _ _<|wp_seq_k fun K9c h9c=>?_
     apply wp_block
     refine wp_seq_k fun K0d h0d=>Af<|sV (Aa rfl) ?_
     refine sV (Ac rfl) ?_
     refine Ad<|h0d _ _<|wp_seq_k fun K1d h1d=>Af<|sV (Aa rfl) ?_
     refine sV (Aa rfl) ?_
     refine sV (Aa rfl) ?_
     refine sV (HK (c:=wi64 (x1.tdiv 32)) (by decide) rfl rfl rfl) ?_
     refine sV (Bd (c:=wi64 (v0a+(wi64 (x1.tdiv 32)))) rfl rfl rfl) ?_
     obtain ⟨r0b,h1f,f2f⟩:=Ab f0f
     refine sc (Ae MK (by rfl)) (Hy x0 (wi64 (v0a+(wi64 (x1.tdiv 32)))) A1 c2 w3 (tbx X8a hT) (n3.ext X8a) r0b h1f) ?_
     rintro _ w4 E5b rfl
     refine nrm ?_
     have X6b:=xtr X8a E5b
     have X3f:=xtr X5c E5b
     refine sV (Aa rfl) ?_
     refine sV (Aa rfl) ?_
     refine sV (Aa rfl) ?_
     refine sV (HK (c:=wi64 (x1.tdiv 32)) (by decide) rfl rfl rfl) ?_
     refine sV (Bd (c:=wi64 (v0a+(wi64 (x1.tdiv 32)))) rfl rfl rfl) ?_
     refine sV (Bd (c:=wi64 ((wi64 (v0a+(wi64 (x1.tdiv 32))))+1)) rfl rfl rfl) ?_
     obtain ⟨r5a,h4f,f5f⟩:=Ab f2f
     refine sc (Ae MK (by rfl)) (Hy x0 (wi64 ((wi64 (v0a+(wi64 (x1.tdiv 32))))+1)) A1 c2 w4 (tbx X6b hT) (n3.ext X6b) r5a h4f) ?_
     rintro _ w5 E7b rfl
     refine nrm ?_
     have X6f:=xtr X6b E7b
     have X7f:=xtr X3f E7b
     refine sV (JI (c:=wu64 (r5a*2^min (32:Int).toNat IntKind.u64.bits)) (by decide) rfl rfl rfl) ?_
     refine sV (Mr rfl rfl) ?_
     refine sV (Ac rfl) ?_
     refine Ad<|h1d _ _<|Af<|sV (Aa rfl) ?_
     refine sV (Aa rfl) ?_
     refine sV (Aa rfl) ?_
     refine sV (Aa rfl) ?_
     refine sV (JD (c:=x1.tmod 32) (by decide) rfl rfl rfl) ?_
     obtain ⟨_,h8f,f9f⟩:=Ab f5f
     have gd349:=AJ h8f
     refine sV (IA (c:=(bor .u64 r0b (wu64 (r5a*2^min (32:Int).toNat IntKind.u64.bits))).fdiv (2^min ((x1.tmod 32):Int).toNat IntKind.u64.bits)) gd349 rfl rfl rfl) ?_
     refine sV (AQ (c:=wu32 ((bor .u64 r0b (wu64 (r5a*2^min (32:Int).toNat IntKind.u64.bits))).fdiv (2^min ((x1.tmod 32):Int).toNat IntKind.u64.bits))) AO AR rfl rfl) ?_
     have ow8b:=(ow6c.ext E5b).ext E7b
     obtain ⟨u5h,h0g,f1g⟩:=Ab f9f
     obtain ⟨bb354,hA2d,hz6h,ia3d,ib4d,hc359⟩:=OW.nthc ow8b h0g
     refine sV (Ay AP As rfl rfl hA2d ia3d ib4d) ?_
     refine Mp As rfl rfl ow8b hA2d ia3d (by rw [OW.len ow8b];exact ib4d) fun w6 B360 U7h ow2g=>?_
     have X3g:=xO X6f B360 E1b.size
     have X4g:=xO X7f B360 (Nat.le_refl _)
     refine Ad<|h9c _ _<|Af<|sV (Bd (c:=wi64 (v0a+1)) rfl rfl rfl) ?_
     refine sV (Aa rfl) ?_
     refine Ad ?_
     exact ih8e _ _ ⟨(wi64 (v0a+1)),(List.set v3a (v0a:Int).toNat (wu32 ((bor .u64 r0b (wu64 (r5a*2^min (32:Int).toNat IntKind.u64.bits))).fdiv (2^min ((x1.tmod 32):Int).toNat IntKind.u64.bits)))),X3g,X4g,ow2g,f1g,(Fr.mk (by kernel_rfl))⟩
    ·have p5g:=zN hz9a e4a
     have f6g:=ifN p5g hr4b
     refine wp_cond_false (Aj (evb rfl e4a))<|wp_exit ?_
     simp only [Exit.then,Exit.inBlock,↓reduceIte,Nat.reduceEqDiff]
     obtain rfl:=sj f6g
     exact ⟨_,rfl,X8a,X5c,ow6c,(Fr.mk (by kernel_rfl))⟩
  ·rintro _ w3 ⟨X5d,X8h,ow6d,⟨t3b,rfl⟩⟩ l'' hl
   simp only [gp,Nat.reduceAdd] at hl
   subst hl
   refine h2c _ _<|wp_seq_k fun K7d h7d=>Af<|sV (Aa rfl) ?_
   obtain ⟨r7g,h8g,f9g⟩:=Ab f7e
   refine sc (Ae Lc (by simp only [OW.len ow6d];rfl)) (EM m2b A2a (((wi64 ((x0.length:Int) - (wi64 (x1.tdiv 32)))):Int).toNat) w3 (tbx X5d hT) (OW.rl ow6d) r7g h8g) ?_
   rintro _ w4 E0h ⟨A1h,c2h,rfl,n3h⟩
   refine nrm ?_
   have X4h:=xtr X5d E0h
   refine sV (Ac rfl) ?_
   refine Ad<|h7d _ _<|wp_ret ?_
   obtain rfl:=sj f9g
   exact fin rfl (Res.tmp rfl Res.nil) (Ak X4h ⟨A1h,c2h,rfl,n3h⟩)
theorem c_nat_limbs_short (x0:List Int) (x1:Int) (A1:Option Addr) (c2:Nat) (w:World) (hT:TB w) (n3:RLu w A1 c2 x0) (r:List Int × List Int) (hr:Fx x0 x1=some r) :
  Calls Tryz.prog 267 #[.slice A1 x0.length c2,.int .u32 x1] w (Ret La w r):=by
 unfold Fx at hr
 go_enter Tryz.func267,Tryz.ntmps267
 refine wp_seq_k fun K4 h4=>Af<|sV (Ac rfl) ?_
 refine sV (Ac rfl) ?_
 refine Ad<|h4 _ _<|wp_seq_k fun K5 h5=>Af<|sV (Aa rfl) ?_
 refine sV (AD AP rfl) ?_
 obtain ⟨_,h6,f7⟩:=Ab hr
 have gd8:=AJ h6
 refine Iv AP Ez rfl rfl gd8 fun A9 w1 E9c ow0d=>?_
 refine nrm ?_
 refine sV (Ac rfl) ?_
 refine Ad<|h5 _ _<|wp_seq_k fun K2b h2b=>Af<|sV (Ac rfl) ?_
 refine Ad<|h2b _ _<|wp_seq_k fun K3b h3b=>wp_seq_k fun K4b h4b=>Af<|sV (Aa rfl) ?_
 refine sV (AD AP rfl) ?_
 refine sV (Bv (c:=wi64 ((x0.length:Int) - 1)) rfl rfl rfl) ?_
 refine sV (Ac rfl) ?_
 refine Ad<|h4b _ _ ?_
 obtain ⟨m3a,h1d,f2d⟩:=Ab f7
 refine Di (fun l l' w'=>Ext w w'∧OW 179 w.heap.size w' A9 (((x0.length:Int):Int).toNat) (((x0.length:Int):Int).toNat) m3a.2∧Fr l' (fun t8a=>gp t8a 0 6 (.slice A9 (((x0.length:Int):Int).toNat) (((x0.length:Int):Int).toNat)::.int .u64 m3a.1::gp t8a 8 35 []))) ?_ ?_
 ·apply wp_block
  refine BA (fun l n5b l' w'=>∃(v0a:Int) (v1a:Int) (v4a:List Int),Ext w w'∧OW 179 w.heap.size w' A9 (((x0.length:Int):Int).toNat) (((x0.length:Int):Int).toNat) v4a∧DM x0 x1 n5b v0a v1a v4a=some m3a∧Fr l' (fun t9a=>.slice A1 x0.length c2::.int .u32 x1::gp t9a 2 4 (.slice A9 (((x0.length:Int):Int).toNat) (((x0.length:Int):Int).toNat)::.int .u64 v0a::.int .i64 v1a::gp t9a 9 34 []))) 18446744073709551616 ?_ ?_ ?_
  ·exact ⟨0,(wi64 ((x0.length:Int) - 1)),(List.replicate ((x0.length:Int):Int).toNat (0:Int)),E9c,ow0d,h1d,(Fr.mk (by kernel_rfl))⟩
  ·rintro l' w' ⟨v0a,v1a,v4a,_,_,hz,_⟩
   exact nomatch hz
  ·rintro n5b ih3d _ w2 ⟨v0a,v1a,v4a,X0b,ow6a,hr1b,⟨t9a,rfl⟩⟩ l'' hl
   simp only [gp,Nat.reduceAdd] at hl
   subst hl
   unfold DM at hr1b
   refine Bg<|wp_seq_k fun K6b h6b=>wp_seq_k fun K7b h7b=>Af<|sV (Aa rfl) ?_
   refine sb (EP rfl rfl) fun z7a hz7a=>?_
   refine nrm ?_
   refine Ad<|h7b _ _ ?_
   rcases bft z7a with e5a | e5a
   ·have p4d:=zP hz7a e5a
    have f5d:=ifP p4d hr1b
    refine wp_cond_true (Aj (evb rfl e5a))<|wp_skip<|h6b _ _<|wp_seq_k fun K8b h8b=>?_
    apply wp_block
    refine wp_seq_k fun K9b h9b=>Af<|sV (Aa rfl) ?_
    refine sV (JI (c:=wu64 (v0a*2^min (32:Int).toNat IntKind.u64.bits)) (by decide) rfl rfl rfl) ?_
    refine sV (Aa rfl) ?_
    refine sV (Aa rfl) ?_
    obtain ⟨u2a,h6d,f7d⟩:=Ab f5d
    obtain ⟨bb310,oo311,hA8d,ia9d,ib0e,hc313⟩:=RL.nth (n3.ext X0b) h6d
    refine sV (Ay AP As rfl rfl hA8d ia9d ib0e) ?_
    refine sV (Ag AV rfl hc313) ?_
    refine sV (AQ (c:=wu64 u2a) AR AO rfl rfl) ?_
    refine sV (Mr rfl rfl) ?_
    refine sV (Ac rfl) ?_
    refine Ad<|h9b _ _<|wp_seq_k fun K0c h0c=>Af<|sV (Aa rfl) ?_
    refine sV (Aa rfl) ?_
    refine sV (Aa rfl) ?_
    refine sV (Aa rfl) ?_
    refine sV (AQ (c:=wu64 x1) AR AO rfl rfl) ?_
    obtain ⟨_,h1e,f2e⟩:=Ab f7d
    have gd320:=AJ h1e
    refine sV (HK (c:=wu64 ((bor .u64 (wu64 (v0a*2^min (32:Int).toNat IntKind.u64.bits)) (wu64 u2a)).tdiv (wu64 x1))) (decide_eq_true gd320) rfl rfl rfl) ?_
    refine sV (AQ (c:=wu32 (wu64 ((bor .u64 (wu64 (v0a*2^min (32:Int).toNat IntKind.u64.bits)) (wu64 u2a)).tdiv (wu64 x1)))) AO AR rfl rfl) ?_
    obtain ⟨u5g,h3e,f4e⟩:=Ab f2e
    obtain ⟨bb324,hA1c,hz6g,ia2c,ib3c,hc329⟩:=OW.nthc ow6a h3e
    refine sV (Ay AP As rfl rfl hA1c ia2c ib3c) ?_
    refine Mp As rfl rfl ow6a hA1c ia2c (by rw [OW.len ow6a];exact ib3c) fun w3 B330 U7g ow5e=>?_
    have X6e:=xO X0b B330 (Nat.le_refl _)
    refine Ad<|h0c _ _<|Af<|sV (Aa rfl) ?_
    refine sV (Aa rfl) ?_
    refine sV (AQ (c:=wu64 x1) AR AO rfl rfl) ?_
    obtain ⟨_,h7e,f8e⟩:=Ab f4e
    have gd336:=AJ h7e
    refine sV (JD (c:=(bor .u64 (wu64 (v0a*2^min (32:Int).toNat IntKind.u64.bits)) (wu64 u2a)).tmod (wu64 x1)) (decide_eq_true gd336) rfl rfl rfl) ?_
    refine sV (Ac rfl) ?_
    refine Ad<|h8b _ _<|Af<|sV (Aa rfl) ?_
    refine sV (Bv (c:=wi64 (v1a - 1)) rfl rfl rfl) ?_
    refine sV (Ac rfl) ?_
    refine Ad ?_
    exact ih3d _ _ ⟨((bor .u64 (wu64 (v0a*2^min (32:Int).toNat IntKind.u64.bits)) (wu64 u2a)).tmod (wu64 x1)),(wi64 (v1a - 1)),(List.set v4a (v1a:Int).toNat (wu32 (wu64 ((bor .u64 (wu64 (v0a*2^min (32:Int).toNat IntKind.u64.bits)) (wu64 u2a)).tdiv (wu64 x1))))),X6e,ow5e,f8e,(Fr.mk (by kernel_rfl))⟩
   ·have p9e:=zN hz7a e5a
    have f0f:=ifN p9e hr1b
    refine wp_cond_false (Aj (evb rfl e5a))<|wp_exit ?_
    simp only [Exit.then,Exit.inBlock,↓reduceIte,Nat.reduceEqDiff]
    obtain rfl:=sj f0f
    exact ⟨_,rfl,X0b,ow6a,(Fr.mk (by kernel_rfl))⟩
 ·rintro _ w2 ⟨X4c,ow5c,⟨t8a,rfl⟩⟩ l'' hl
  simp only [gp,Nat.reduceAdd] at hl
  subst hl
  refine h3b _ _<|wp_seq_k fun K6c h6c=>Af<|sV (Aa rfl) ?_
  obtain ⟨r1f,h2f,f3f⟩:=Ab f2d
  refine sc (Ae Lc (by simp only [OW.len ow5c];rfl)) (EM m3a.2 A9 (((x0.length:Int):Int).toNat) w2 (tbx X4c hT) (OW.rl ow5c) r1f h2f) ?_
  rintro _ w3 E4f ⟨A5f,c6f,rfl,n7f⟩
  refine nrm ?_
  have X7c:=xtr X4c E4f
  refine sV (Aa rfl) ?_
  obtain ⟨r8f,h9f,f0g⟩:=Ab f3f
  refine sc (Ae en_282 (by rfl)) (c_nat_of m3a.1 w3 (tbx X7c hT)  r8f h9f) ?_
  rintro _ w4 E8c ⟨A1g,c2g,rfl,n3g⟩
  refine nrm ?_
  have X4g:=xtr X7c E8c
  refine sV (Ac rfl) ?_
  refine sV (Ac rfl) ?_
  refine Ad<|h6c _ _<|wp_ret ?_
  obtain rfl:=sj f0g
  exact fin rfl (Res.tmp rfl (Res.tmp rfl Res.nil)) (Ak X4g ⟨A5f,c6f,A1g,c2g,rfl,(n7f.ext E8c),n3g⟩)
theorem c_nat_takes (x0:List Int) (x1:List Int) (x2:Int) (A1:Option Addr) (c2:Nat) (A4:Option Addr) (c5:Nat) (bp0:Nat) (pre ys:List Int) (w:World) (hT:TB w) (q0:WN 179 bp0 pre ys w A1 x0.length c2 x0) (hb0:bp0≠0) (n6:RLu w A4 c5 x1) (ap0:Apart A4 x1 bp0) (r:(Bool) × List Int) (hr:IT x0 x1 x2=some r) :
  Calls Tryz.prog 283 #[.slice A1 x0.length c2,.slice A4 x1.length c5,.int .u64 x2] w (RetW 179 bp0 pre ys x0.length Fy w r):=by
 unfold IT at hr
 go_enter Tryz.func283,Tryz.ntmps283
 refine wp_seq_k fun K7 h7=>Af<|sV (Ac rfl) ?_
 refine Ad<|h7 _ _<|wp_seq_k fun K8 h8=>Af<|sV (Ac rfl) ?_
 refine sV (Ac rfl) ?_
 refine Ad<|h8 _ _<|wp_seq_k fun K9 h9=>wp_seq_k fun K6b h6b=>Af<|sV (Aa rfl) ?_
 refine sV (AD AP rfl) ?_
 refine sV (Aa rfl) ?_
 refine Ad<|h6b _ _ ?_
 obtain ⟨m9a,h1d,f2d⟩:=Ab hr
 refine Di (fun l l' w'=>UpdS [bp0] w w'∧WN 179 bp0 pre ys w' A1 x0.length c2 m9a.2∧Fr l' (fun t3b=>gp t3b 0 8 (.int .u64 m9a.1::gp t3b 9 37 []))) ?_ ?_
 ·apply wp_block
  refine BA (fun l n7b l' w'=>∃(v0a:Int) (v2a:Int) (v3a:Int) (v5a:List Int),UpdS [bp0] w w'∧WN 179 bp0 pre ys w' A1 x0.length c2 v5a∧EJ x0 x1 x2 n7b v0a v2a v3a v5a=some m9a∧Fr l' (fun t0b=>.slice A1 x0.length c2::.slice A4 x1.length c5::.int .u64 x2::gp t0b 3 4 (.int .u64 v0a::.int .u64 v2a::gp t0b 9 3 (.int .i64 ((x0.length:Nat):Int)::.int .i64 v3a::gp t0b 14 32 [])))) 18446744073709551616 ?_ ?_ ?_
  ·exact ⟨0,0,0,x0,(UpdS.refl [bp0] w),q0,h1d,(Fr.mk (by kernel_rfl))⟩
  ·rintro l' w' ⟨v0a,v2a,v3a,v5a,_,_,hz,_⟩
   exact nomatch hz
  ·rintro n7b ih3d _ w1 ⟨v0a,v2a,v3a,v5a,X1b,ow6a,hr4b,⟨t0b,rfl⟩⟩ l'' hl
   simp only [gp,Nat.reduceAdd] at hl
   subst hl
   unfold EJ at hr4b
   refine Bg<|wp_seq_k fun K8b h8b=>Af<|sb (Cm rfl rfl) fun z2b hz2b=>?_
   refine nrm ?_
   refine Ad<|h8b _ _<|wp_seq_k fun K9b h9b=>?_
   rcases bft z2b with e7a | e7a
   ·have p4d:=zP hz2b e7a
    have f5d:=ifP p4d hr4b
    refine wp_cond_true (Aj (evb rfl e7a))<|wp_skip<|h9b _ _<|wp_seq_k fun K0c h0c=>?_
    apply wp_block
    refine wp_seq_k fun K1c h1c=>Af<|sV (Aa rfl) ?_
    refine sV (Ac rfl) ?_
    refine Ad<|h1c _ _<|wp_seq_k fun K2c h2c=>Af<|sV (Aa rfl) ?_
    refine sV (Aa rfl) ?_
    refine sV (Aa rfl) ?_
    refine sV (Aa rfl) ?_
    obtain ⟨r1a,h6d,f7d⟩:=Ab f5d
    refine sc (Ae MK (by rfl)) (Hy x1 v3a A4 c5 w1 (TB.updW X1b hb0 hT) (RL.updW n6 X1b ap0) r1a h6d) ?_
    rintro _ w2 E8a rfl
    refine nrm ?_
    have X8d:=UpdS.ext X1b E8a
    refine sV (JH (c:=wu64 (x2*r1a)) rfl rfl rfl) ?_
    refine sV (Bd (c:=wu64 (v0a+(wu64 (x2*r1a)))) rfl rfl rfl) ?_
    refine sV (Ac rfl) ?_
    refine Ad<|h2c _ _<|wp_seq_k fun K3c h3c=>Af<|sV (Aa rfl) ?_
    refine sV (Aa rfl) ?_
    obtain ⟨u4a,h9d,f0e⟩:=Ab f7d
    obtain ⟨bb321,hA1e,hz2f,ia2e,ib3e,hc326⟩:=WN.nthc (ow6a.ext E8a) h9d
    refine sV (Ay AP As rfl rfl hA1e ia2e ib3e) ?_
    refine sV (Ag AV rfl hc326) ?_
    refine sV (AQ (c:=wu64 u4a) AR AO rfl rfl) ?_
    refine sV (Aa rfl) ?_
    refine sV (AQ (c:=wu32 (wu64 (v0a+(wu64 (x2*r1a))))) AO AR rfl rfl) ?_
    refine sV (AQ (c:=wu64 (wu32 (wu64 (v0a+(wu64 (x2*r1a)))))) AR AO rfl rfl) ?_
    refine sV (Bv (c:=wu64 ((wu64 u4a) - (wu64 (wu32 (wu64 (v0a+(wu64 (x2*r1a)))))))) rfl rfl rfl) ?_
    refine sV (Aa rfl) ?_
    refine sV (Bv (c:=wu64 ((wu64 ((wu64 u4a) - (wu64 (wu32 (wu64 (v0a+(wu64 (x2*r1a)))))))) - v2a)) rfl rfl rfl) ?_
    refine sV (Ac rfl) ?_
    refine Ad<|h3c _ _<|wp_seq_k fun K4c h4c=>Af<|sV (Aa rfl) ?_
    refine sV (Aa rfl) ?_
    refine sV (Aa rfl) ?_
    refine sV (AQ (c:=wu32 (wu64 ((wu64 ((wu64 u4a) - (wu64 (wu32 (wu64 (v0a+(wu64 (x2*r1a)))))))) - v2a))) AO AR rfl rfl) ?_
    obtain ⟨u3f,h4e,f5e⟩:=Ab f0e
    obtain ⟨bb331,hA5c,hz4f,ia6c,ib7c,hc336⟩:=WN.nthc (ow6a.ext E8a) h4e
    refine sV (Ay AP As rfl rfl hA5c ia6c ib7c) ?_
    refine Oj As rfl rfl (ow6a.ext E8a) hA5c ia6c (by rw [WN.len (ow6a.ext E8a)];exact ib7c) fun w3 U6e ow7e=>?_
    have X8e:=UpdS.tr X8d U6e
    refine Ad<|h4c _ _<|wp_seq_k fun K8c h8c=>Af<|sV (Aa rfl) ?_
    refine sV (IA (c:=(wu64 ((wu64 ((wu64 u4a) - (wu64 (wu32 (wu64 (v0a+(wu64 (x2*r1a)))))))) - v2a)).fdiv (2^min (63:Int).toNat IntKind.u64.bits)) (by decide) rfl rfl rfl) ?_
    refine sV (Ac rfl) ?_
    refine Ad<|h8c _ _<|Af<|sV (Aa rfl) ?_
    refine sV (IA (c:=(wu64 (v0a+(wu64 (x2*r1a)))).fdiv (2^min (32:Int).toNat IntKind.u64.bits)) (by decide) rfl rfl rfl) ?_
    refine sV (Ac rfl) ?_
    refine Ad<|h0c _ _<|Af<|sV (Bd (c:=wi64 (v3a+1)) rfl rfl rfl) ?_
    refine sV (Aa rfl) ?_
    refine Ad ?_
    exact ih3d _ _ ⟨((wu64 (v0a+(wu64 (x2*r1a)))).fdiv (2^min (32:Int).toNat IntKind.u64.bits)),((wu64 ((wu64 ((wu64 u4a) - (wu64 (wu32 (wu64 (v0a+(wu64 (x2*r1a)))))))) - v2a)).fdiv (2^min (63:Int).toNat IntKind.u64.bits)),(wi64 (v3a+1)),(List.set v5a (v3a:Int).toNat (wu32 (wu64 ((wu64 ((wu64 u4a) - (wu64 (wu32 (wu64 (v0a+(wu64 (x2*r1a)))))))) - v2a)))),X8e,ow7e,f5e,(Fr.mk (by kernel_rfl))⟩
   ·have p9e:=zN hz2b e7a
    have f0f:=ifN p9e hr4b
    refine wp_cond_false (Aj (evb rfl e7a))<|wp_exit ?_
    simp only [Exit.then,Exit.inBlock,↓reduceIte,Nat.reduceEqDiff]
    obtain rfl:=sj f0f
    exact ⟨_,rfl,X1b,ow6a,(Fr.mk (by kernel_rfl))⟩
 ·rintro _ w1 ⟨X1f,ow9c,⟨t3b,rfl⟩⟩ l'' hl
  simp only [gp,Nat.reduceAdd] at hl
  subst hl
  refine h9 _ _<|wp_seq_k fun K0d h0d=>Af<|sV (Aa rfl) ?_
  refine sb (Fs rfl rfl) fun z5b hz5b=>?_
  refine nrm ?_
  refine sV (Ac rfl) ?_
  refine Ad<|h0d _ _<|wp_ret ?_
  obtain rfl:z5b=decide (0<m9a.1):=bz hz5b
  obtain rfl:=sj f2d
  exact fin rfl (Res.tmp rfl Res.nil) ⟨X1f,WN.len ow9c,WN.bx ow9c,_,rfl,rfl⟩
set_option maxRecDepth 20000 in
theorem c_nat_estimate (x0:List Int) (x1:List Int) (A1:Option Addr) (c2:Nat) (A4:Option Addr) (c5:Nat) (bp0:Nat) (pre ys:List Int) (w:World) (hT:TB w) (q0:WN 179 bp0 pre ys w A1 x0.length c2 x0) (hb0:bp0≠0) (n6:RLu w A4 c5 x1) (ap0:Apart A4 x1 bp0) (r:(Int) × List Int) (hr:GG x0 x1=some r) :
  Calls Tryz.prog 268 #[.slice A1 x0.length c2,.slice A4 x1.length c5] w (RetW 179 bp0 pre ys x0.length NW w r):=by
 unfold GG at hr
 refine LQ Tryz.func268 rfl [.slice A1 x0.length c2,.slice A4 x1.length c5,uu,uu,uu,uu,uu,uu,uu,uu,uu,uu,uu,uu,uu,uu,uu,uu,uu,uu,uu,uu,uu,uu,uu,uu,uu,uu,uu,uu,uu,uu,uu,uu,uu,uu,uu,uu,uu,uu,uu,uu,uu,uu,uu,uu,uu,uu,uu,uu,uu,uu,uu,uu,uu,uu,uu,uu,uu,uu,uu,uu,uu,uu,uu,uu,uu,uu,uu,uu,uu,uu,uu,uu,uu,uu,uu,uu,uu,uu,uu,uu,uu,uu,uu,uu,uu,uu,uu,uu,uu,uu,uu,uu,uu,uu,uu,uu,uu,uu,uu,uu,uu,uu,uu,uu,uu,uu,uu] (by kernel_rfl) ?_
 refine wp_seq_k fun K7 h7=>Af<|sV (Ac rfl) ?_
 refine Ad<|h7 _ _<|wp_seq_k fun K8 h8=>Af<|sV (Aa rfl) ?_
 refine sV (AD AP rfl) ?_
 refine sV (Ac rfl) ?_
 refine Ad<|h8 _ _<|wp_seq_k fun K9 h9=>Ei [] 14 mo rfl fun w1 E5a S0e=>have X8h:=UpdS.ext (UpdS.refl [bp0] w) E5a;dA 0 rfl (fun _=>Aa rfl) ?_
 refine dA 1 rfl (fun _=>Aa rfl) ?_
 obtain ⟨u6a,h9h,f0i⟩:=Ab hr
 obtain ⟨bb16,hA1i,hz2q,ia2i,ib3i,hc21⟩:=WN.nthc (q0.ext E5a) h9h
 refine dA 2 rfl (fun _=>Ay AP As rfl rfl hA1i ia2i ib3i) ?_
 refine dV 3 rfl (fun _ hw=>Ag AV rfl (Dd hc21 hw)) S0e ?_
 refine dA 4 rfl (fun _=>AQ (c:=wu64 u6a) AR AO rfl rfl) ?_
 refine dA 5 rfl (fun _=>JI (c:=wu64 ((wu64 u6a)*2^min (32:Int).toNat IntKind.u64.bits)) (by decide) rfl rfl rfl) ?_
 refine dA 6 rfl (fun _=>Aa rfl) ?_
 refine dA 7 rfl (fun _=>Aa rfl) ?_
 refine dA 8 rfl (fun _=>Bv (c:=wi64 ((x1.length:Int) - 1)) rfl rfl rfl) ?_
 obtain ⟨u8a,h4i,f5i⟩:=Ab f0i
 obtain ⟨bb25,hA6i,hz3q,ia7i,ib8i,hc30⟩:=WN.nthc (q0.ext E5a) h4i
 refine dA 9 rfl (fun _=>Ay AP As rfl rfl hA6i ia7i ib8i) ?_
 refine dV 10 rfl (fun _ hw=>Ag AV rfl (Dd hc30 hw)) S0e ?_
 refine dA 11 rfl (fun _=>AQ (c:=wu64 u8a) AR AO rfl rfl) ?_
 refine dA 12 rfl (fun _=>Mr rfl rfl) ?_
 refine dA 13 rfl (fun _=>Ac rfl) ?_
 refine CU (by kernel_rfl) ?_
 refine h9 _ _<|wp_seq_k fun K1e h1e=>Af<|sV (Aa rfl) ?_
 refine sV (Aa rfl) ?_
 refine sV (Aa rfl) ?_
 refine sV (Bv (c:=wi64 ((x1.length:Int) - 1)) rfl rfl rfl) ?_
 obtain ⟨u32,h9i,f0j⟩:=Ab f5i
 obtain ⟨bb35,oo36,hA1j,ia2j,ib3j,hc38⟩:=RL.nth (n6.ext E5a) h9i
 refine sV (Ay AP As rfl rfl hA1j ia2j ib3j) ?_
 refine sV (Ag AV rfl hc38) ?_
 refine sV (AQ (c:=wu64 u32) AR AO rfl rfl) ?_
 obtain ⟨_,h4j,f5j⟩:=Ab f0j
 have gd44:=AJ h4j
 refine sV (HK (c:=wu64 ((bor .u64 (wu64 ((wu64 u6a)*2^min (32:Int).toNat IntKind.u64.bits)) (wu64 u8a)).tdiv (wu64 u32))) (decide_eq_true gd44) rfl rfl rfl) ?_
 refine sV (OA rfl rfl) ?_
 refine sV (Ac rfl) ?_
 refine Ad<|h1e _ _<|wp_seq_k fun K2e h2e=>wp_seq_k fun K3e h3e=>Af<|sV (Aa rfl) ?_
 refine sV (Aa rfl) ?_
 refine sV (Aa rfl) ?_
 refine sV (Aa rfl) ?_
 refine sV (Bv (c:=wi64 ((x1.length:Int) - 1)) rfl rfl rfl) ?_
 obtain ⟨u3c,h6j,f7j⟩:=Ab f5j
 obtain ⟨bb50,oo51,hA8j,ia9j,ib0k,hc53⟩:=RL.nth (n6.ext E5a) h6j
 refine sV (Ay AP As rfl rfl hA8j ia9j ib0k) ?_
 refine sV (Ag AV rfl hc53) ?_
 refine sV (AQ (c:=wu64 u3c) AR AO rfl rfl) ?_
 refine sV (JH (c:=wu64 ((min (wu64 ((bor .u64 (wu64 ((wu64 u6a)*2^min (32:Int).toNat IntKind.u64.bits)) (wu64 u8a)).tdiv (wu64 u32))) 4294967295)*(wu64 u3c))) rfl rfl rfl) ?_
 refine sV (Bv (c:=wu64 ((bor .u64 (wu64 ((wu64 u6a)*2^min (32:Int).toNat IntKind.u64.bits)) (wu64 u8a)) - (wu64 ((min (wu64 ((bor .u64 (wu64 ((wu64 u6a)*2^min (32:Int).toNat IntKind.u64.bits)) (wu64 u8a)).tdiv (wu64 u32))) 4294967295)*(wu64 u3c))))) rfl rfl rfl) ?_
 refine sV (Ac rfl) ?_
 refine Ad<|h3e _ _ ?_
 obtain ⟨m3b,h1k,f2k⟩:=Ab f7j
 refine Di (fun l l' w'=>Ext w1 w'∧Fr l' (fun t6c=>.slice A1 x0.length c2::.slice A4 x1.length c5::gp t6c 2 5 (.int .u64 m3b::gp t6c 8 101 []))) ?_ ?_
 ·apply wp_block
  refine BA (fun l n4e l' w'=>∃(v4a:Int) (v3a:Int) (t2a:Nat→Value),Ext w1 w'∧EL x0 x1 n4e v4a v3a=some m3b∧Fr l' (fun t5b=>.slice A1 x0.length c2::.slice A4 x1.length c5::gp t5b 2 3 (.int .i64 (x1.length:Int)::gp t5b 6 1 (.int .u64 v4a::.int .u64 v3a::gp t5b 9 39 ((t2a 0)::(t2a 1)::(t2a 2)::(t2a 3)::(t2a 4)::(t2a 5)::(t2a 6)::(t2a 7)::(t2a 8)::(t2a 9)::(t2a 10)::(t2a 11)::(t2a 12)::(t2a 13)::(t2a 14)::(t2a 15)::(t2a 16)::(t2a 17)::gp t5b 66 43 []))))) 18446744073709551616 ?_ ?_ ?_
  ·exact ⟨(min (wu64 ((bor .u64 (wu64 ((wu64 u6a)*2^min (32:Int).toNat IntKind.u64.bits)) (wu64 u8a)).tdiv (wu64 u32))) 4294967295),(wu64 ((bor .u64 (wu64 ((wu64 u6a)*2^min (32:Int).toNat IntKind.u64.bits)) (wu64 u8a)) - (wu64 ((min (wu64 ((bor .u64 (wu64 ((wu64 u6a)*2^min (32:Int).toNat IntKind.u64.bits)) (wu64 u8a)).tdiv (wu64 u32))) 4294967295)*(wu64 u3c))))),(tk [uu,uu,uu,uu,uu,uu,uu,uu,uu,uu,uu,uu,uu,uu,uu,uu,uu,uu]),(Ext.refl _),h1k,(Fr.mk (by kernel_rfl))⟩
  ·rintro l' w' ⟨v4a,v3a,t2a,_,hz,_⟩
   exact nomatch hz
  ·rintro n4e ih3k _ w2 ⟨v4a,v3a,t2a,U6b,hr5e,⟨t5b,rfl⟩⟩ l'' hl
   simp only [gp,Nat.reduceAdd] at hl
   subst hl
   unfold EL at hr5e
   refine Bg<|wp_seq_k fun K6e h6e=>wp_seq_k fun K7e h7e=>Ei [] 22 mo rfl fun w3 E7b S8e=>dA 0 rfl (fun _=>Aa rfl) ?_
   refine dab 1 rfl (by kernel_rfl) (fun _ _ _ h=>h) (by rfl) (fun _=>Cm rfl rfl) fun z4c hz4c=>?_
   refine dnrm ?_
   refine dA 2 rfl (fun _=>Aa rfl) ?_
   obtain ⟨m9e,h0f,f1f⟩:=Ab hr5e
   refine IP #[true,true,true,true,true,true,true,true,true,true,true,true,true,true,true,true,true,true,true,true,true,true] 0 (fun l l' w'=>∃(t1a:Nat→Value),w3=w'∧l'=(((((((((((((((((((l.set 48 (t1a 0)).set 49 (t1a 1)).set 50 (t1a 2)).set 51 (t1a 3)).set 52 (t1a 4)).set 53 (t1a 5)).set 54 (t1a 6)).set 55 (t1a 7)).set 56 (t1a 8)).set 57 (t1a 9)).set 58 (t1a 10)).set 59 (t1a 11)).set 60 (t1a 12)).set 61 (t1a 13)).set 62 (t1a 14)).set 63 (t1a 15)).set 64 (t1a 16)).set 65 (t1a 17)).set 66 (.bool m9e))) ?_ ?_
   ·intro HJ553
    rcases bft z4c with e0a | e0a
    ·have p4k:=zP hz4c e0a
     have f5k:=ifP p4k h0f
     refine dA 3 rfl (fun _=>Aa rfl) ?_ (hw:=wgT rfl e0a)
     refine dA 4 rfl (fun _=>Aa rfl) ?_ (hw:=wgT rfl e0a)
     refine dA 5 rfl (fun _=>Aa rfl) ?_ (hw:=wgT rfl e0a)
     refine dA 6 rfl (fun _=>Bv (c:=wi64 ((x1.length:Int) - 2)) rfl rfl rfl) ?_ (hw:=wgT rfl e0a)
     have n6k:=((n6.ext E5a).ext U6b).ext E7b
     obtain ⟨u0b,h7k,f8k⟩:=Ab f5k
     obtain ⟨bb563,oo564,hA9k,ia0l,ib1l,hc566⟩:=RL.nth n6k h7k
     refine dA 7 rfl (fun _=>Ay AP As rfl rfl hA9k ia0l ib1l) ?_ (hw:=wgT rfl e0a)
     refine dV 8 rfl (fun _ hw=>Ag AV rfl (Dd hc566 hw)) S8e ?_ (hw:=wgT rfl e0a)
     refine dA 9 rfl (fun _=>AQ (c:=wu64 u0b) AR AO rfl rfl) ?_ (hw:=wgT rfl e0a)
     refine dA 10 rfl (fun _=>JH (c:=wu64 (v4a*(wu64 u0b))) rfl rfl rfl) ?_ (hw:=wgT rfl e0a)
     refine dA 11 rfl (fun _=>Aa rfl) ?_ (hw:=wgT rfl e0a)
     refine dA 12 rfl (fun _=>JI (c:=wu64 (v3a*2^min (32:Int).toNat IntKind.u64.bits)) (by decide) rfl rfl rfl) ?_ (hw:=wgT rfl e0a)
     refine dA 13 rfl (fun _=>Aa rfl) ?_ (hw:=wgT rfl e0a)
     refine dA 14 rfl (fun _=>Aa rfl) ?_ (hw:=wgT rfl e0a)
     refine dA 15 rfl (fun _=>Bv (c:=wi64 ((x1.length:Int) - 2)) rfl rfl rfl) ?_ (hw:=wgT rfl e0a)
     have ow2l:=((q0.ext E5a).ext U6b).ext E7b
     obtain ⟨u4b,h3l,f4l⟩:=Ab f8k
     obtain ⟨bb573,hA5l,hz4q,ia6l,ib7l,hc578⟩:=WN.nthc ow2l h3l
     refine dA 16 rfl (fun _=>Ay AP As rfl rfl hA5l ia6l ib7l) ?_ (hw:=wgT rfl e0a)
     refine dV 17 rfl (fun _ hw=>Ag AV rfl (Dd hc578 hw)) S8e ?_ (hw:=wgT rfl e0a)
     refine dA 18 rfl (fun _=>AQ (c:=wu64 u4b) AR AO rfl rfl) ?_ (hw:=wgT rfl e0a)
     refine dA 19 rfl (fun _=>Mr rfl rfl) ?_ (hw:=wgT rfl e0a)
     refine dab 20 rfl (by kernel_rfl) (fun _ _ _ h=>h) (wgT rfl e0a) (fun _=>Fs rfl rfl) fun z7c hz7c=>?_
     refine dnrm ?_
     refine dA 21 rfl (fun _=>AB (evb rfl e0a) rfl) ?_
     obtain rfl:z7c=decide ((bor .u64 (wu64 (v3a*2^min (32:Int).toNat IntKind.u64.bits)) (wu64 u4b))<(wu64 (v4a*(wu64 u0b)))):=bz hz7c
     obtain rfl:=sj f4l
     exact Et (by kernel_rfl) (HJ553 _ _ ⟨(tk [.int .u64 v4a,.slice A4 x1.length c5,.int .i64 (x1.length:Int),.int .i64 (wi64 ((x1.length:Int) - 2)),.pointer (some ⟨bb563,oo564+((wi64 ((x1.length:Int) - 2)):Int).toNat,none⟩),.int .u32 u0b,.int .u64 (wu64 u0b),.int .u64 (wu64 (v4a*(wu64 u0b))),.int .u64 v3a,.int .u64 (wu64 (v3a*2^min (32:Int).toNat IntKind.u64.bits)),.slice A1 x0.length c2,.int .i64 (x1.length:Int),.int .i64 (wi64 ((x1.length:Int) - 2)),.pointer (some ⟨bb573,List.length pre+((wi64 ((x1.length:Int) - 2)):Int).toNat,none⟩),.int .u32 u4b,.int .u64 (wu64 u4b),.int .u64 (bor .u64 (wu64 (v3a*2^min (32:Int).toNat IntKind.u64.bits)) (wu64 u4b)),.bool (decide ((bor .u64 (wu64 (v3a*2^min (32:Int).toNat IntKind.u64.bits)) (wu64 u4b))<(wu64 (v4a*(wu64 u0b)))))]),(by trivial),(by simp only [S0,S1]<;>rfl)⟩)
    ·have p8l:=zN hz4c e0a
     have f9l:=ifN p8l h0f
     refine dP 3 rfl ?_ (hw:=wgF rfl e0a)
     refine dP 4 rfl ?_ (hw:=wgF rfl e0a)
     refine dP 5 rfl ?_ (hw:=wgF rfl e0a)
     refine dP 6 rfl ?_ (hw:=wgF rfl e0a)
     refine dP 7 rfl ?_ (hw:=wgF rfl e0a)
     refine dP 8 rfl ?_ (hw:=wgF rfl e0a)
     refine dP 9 rfl ?_ (hw:=wgF rfl e0a)
     refine dP 10 rfl ?_ (hw:=wgF rfl e0a)
     refine dP 11 rfl ?_ (hw:=wgF rfl e0a)
     refine dP 12 rfl ?_ (hw:=wgF rfl e0a)
     refine dP 13 rfl ?_ (hw:=wgF rfl e0a)
     refine dP 14 rfl ?_ (hw:=wgF rfl e0a)
     refine dP 15 rfl ?_ (hw:=wgF rfl e0a)
     refine dP 16 rfl ?_ (hw:=wgF rfl e0a)
     refine dP 17 rfl ?_ (hw:=wgF rfl e0a)
     refine dP 18 rfl ?_ (hw:=wgF rfl e0a)
     refine dP 19 rfl ?_ (hw:=wgF rfl e0a)
     refine dP 20 rfl ?_ (hw:=wgF rfl e0a)
     refine dA 21 rfl (fun _=>AF (evb rfl e0a) rfl) ?_
     obtain rfl:=sj f9l
     exact Et (by kernel_rfl) (HJ553 _ _ ⟨(tk [uu,uu,uu,uu,uu,uu,uu,uu,uu,uu,uu,uu,uu,uu,uu,uu,uu,uu]),(by trivial),(by simp only [S0,S1]<;>rfl)⟩)
   ·rintro l' _ ⟨t1a,rfl,hq'⟩ l'' hl
    rw [hq'] at hl
    clear hq'
    simp only [S0,S1] at hl
    subst hl
    refine CU (by kernel_rfl) ?_
    refine h7e _ _ ?_
    rcases bft m9e with e8b | e8b
    ·have p0m:=e8b
     have f1m:=ifP p0m f1f
     refine wp_cond_true (Aj (evb rfl e8b))<|wp_skip<|h6e _ _<|wp_seq_k fun K2f h2f=>?_
     apply wp_block
     refine Af<|sV (Aa rfl) ?_
     refine sV (Bv (c:=wu64 (v4a - 1)) rfl rfl rfl) ?_
     refine sV (Ac rfl) ?_
     refine Ad<|h2f _ _<|Af<|sV (Aa rfl) ?_
     refine sV (Aa rfl) ?_
     refine sV (Aa rfl) ?_
     refine sV (Bv (c:=wi64 ((x1.length:Int) - 1)) rfl rfl rfl) ?_
     have n2m:=((n6.ext E5a).ext U6b).ext E7b
     obtain ⟨u8c,h3m,f4m⟩:=Ab f1m
     obtain ⟨bb595,oo596,hA5m,ia6m,ib7m,hc598⟩:=RL.nth n2m h3m
     refine sV (Ay AP As rfl rfl hA5m ia6m ib7m) ?_
     refine sV (Ag AV rfl hc598) ?_
     refine sV (AQ (c:=wu64 u8c) AR AO rfl rfl) ?_
     refine sV (Bd (c:=wu64 (v3a+(wu64 u8c))) rfl rfl rfl) ?_
     refine sV (Ac rfl) ?_
     refine Ad ?_
     exact ih3k _ _ ⟨(wu64 (v4a - 1)),(wu64 (v3a+(wu64 u8c))),(tk [t1a 0,t1a 1,t1a 2,t1a 3,t1a 4,t1a 5,t1a 6,t1a 7,t1a 8,t1a 9,t1a 10,t1a 11,t1a 12,t1a 13,t1a 14,t1a 15,t1a 16,t1a 17]),(U6b.trans E7b),f4m,(Fr.mk (by kernel_rfl))⟩
    ·have p8m:=bF e8b
     have f9m:=ifN p8m f1f
     refine wp_cond_false (Aj (evb rfl e8b))<|wp_exit ?_
     simp only [Exit.then,Exit.inBlock,↓reduceIte,Nat.reduceEqDiff]
     obtain rfl:=sj f9m
     exact ⟨_,rfl,(U6b.trans E7b),(Fr.mk (by kernel_rfl))⟩
 ·rintro _ w2 ⟨U9c,⟨t6c,rfl⟩⟩ l'' hl
  simp only [gp,Nat.reduceAdd] at hl
  subst hl
  have X3f:=UpdS.ext X8h U9c
  refine h2e _ _<|wp_seq_k fun K4f h4f=>wp_seq_k fun K5f h5f=>Af<|sV (Aa rfl) ?_
  refine sV (Aa rfl) ?_
  refine sV (Aa rfl) ?_
  have ow6f:=(q0.ext E5a).ext U9c
  obtain ⟨r0d,h0n,f1n⟩:=Ab f2k
  refine scK (Ae en_283 (by rfl)) (c_nat_takes x0 x1 m3b A1 c2 A4 c5 bp0 pre ys w2 (TB.updW X3f hb0 hT) ow6f hb0 ((n6.ext E5a).ext U9c) ap0 r0d h0n) ?_
  rintro _ w3 ⟨U2n,hl610,q3n,_,rfl,rfl⟩
  refine ⟨_,rfl,?_⟩
  refine nrm ?_
  have ow7f:=WN.upd ow6f hl610 q3n
  have X8f:=UpdS.tr X3f U2n
  refine Ad<|h5f _ _ ?_
  obtain ⟨m1d,h9f,f4n⟩:=Ab f1n
  refine Di (fun l l' w'=>UpdS [bp0] w w'∧WN 179 bp0 pre ys w' A1 x0.length c2 m1d.2∧Fr l' (fun t2d=>gp t2d 0 7 (.int .u64 m1d.1::gp t2d 8 101 []))) ?_ ?_
  ·rcases bft r0d.1 with e9b | e9b
   ·have p5n:=e9b
    have f6n:=ifP p5n h9f
    refine wp_cond_true (Aj (evb rfl e9b))<|wp_seq_k fun K0g h0g=>Af<|sV (Aa rfl) ?_
    refine sV (Bv (c:=wu64 (m3b - 1)) rfl rfl rfl) ?_
    refine sV (Ac rfl) ?_
    refine Ad<|h0g _ _<|wp_seq_k fun K1g h1g=>Af<|sV (Ac rfl) ?_
    refine Ad<|h1g _ _<|wp_seq_k fun K2g h2g=>Af<|sV (Aa rfl) ?_
    refine sV (AD AP rfl) ?_
    refine sV (Aa rfl) ?_
    refine Ad<|h2g _ _ ?_
    obtain ⟨m3g,h7n,f8n⟩:=Ab f6n
    refine Di (fun l l' w'=>UpdS [bp0] w w'∧WN 179 bp0 pre ys w' A1 x0.length c2 m3g∧Fr l' (fun t3d=>gp t3d 0 7 (.int .u64 (wu64 (m3b - 1))::gp t3d 8 101 []))) ?_ ?_
    ·apply wp_block
     refine BA (fun l n4g l' w'=>∃(v7a:Int) (v9a:Int) (v0c:List Int),UpdS [bp0] w w'∧WN 179 bp0 pre ys w' A1 x0.length c2 v0c∧DA x0 x1 n4g v7a v9a v0c=some m3g∧Fr l' (fun t1c=>.slice A1 x0.length c2::.slice A4 x1.length c5::gp t1c 2 5 (.int .u64 (wu64 (m3b - 1))::gp t1c 8 1 (.int .u64 v7a::gp t1c 10 74 (.int .i64 ((x0.length:Nat):Int)::.int .i64 v9a::gp t1c 86 23 []))))) 18446744073709551616 ?_ ?_ ?_
     ·exact ⟨0,0,r0d.2,X8f,ow7f,h7n,(Fr.mk (by kernel_rfl))⟩
     ·rintro l' w' ⟨v7a,v9a,v0c,_,_,hz,_⟩
      exact nomatch hz
     ·rintro n4g ih9n _ w4 ⟨v7a,v9a,v0c,X5g,ow4d,hr5d,⟨t1c,rfl⟩⟩ l'' hl
      simp only [gp,Nat.reduceAdd] at hl
      subst hl
      unfold DA at hr5d
      refine Bg<|wp_seq_k fun K6g h6g=>Af<|sb (Cm rfl rfl) fun z5c hz5c=>?_
      refine nrm ?_
      refine Ad<|h6g _ _<|wp_seq_k fun K7g h7g=>?_
      rcases bft z5c with e2c | e2c
      ·have p0o:=zP hz5c e2c
       have f1o:=ifP p0o hr5d
       refine wp_cond_true (Aj (evb rfl e2c))<|wp_skip<|h7g _ _<|wp_seq_k fun K8g h8g=>?_
       apply wp_block
       refine wp_seq_k fun K9g h9g=>Af<|sV (Aa rfl) ?_
       refine sV (Ac rfl) ?_
       refine Ad<|h9g _ _<|wp_seq_k fun K0h h0h=>Ei [] 12 mo rfl fun w5 E6d S1h=>have X7d:=UpdS.ext X5g E6d;dA 0 rfl (fun _=>Aa rfl) ?_
       refine dA 1 rfl (fun _=>Aa rfl) ?_
       refine dA 2 rfl (fun _=>Aa rfl) ?_
       obtain ⟨u1b,h2o,f3o⟩:=Ab f1o
       obtain ⟨bb1304,hA4o,hz5q,ia5o,ib6o,hc1309⟩:=WN.nthc (ow4d.ext E6d) h2o
       refine dA 3 rfl (fun _=>Ay AP As rfl rfl hA4o ia5o ib6o) ?_
       refine dV 4 rfl (fun _ hw=>Ag AV rfl (Dd hc1309 hw)) S1h ?_
       refine dA 5 rfl (fun _=>AQ (c:=wu64 u1b) AR AO rfl rfl) ?_
       refine dA 6 rfl (fun _=>Aa rfl) ?_
       refine dA 7 rfl (fun _=>Aa rfl) ?_
       obtain ⟨r2b,h7o,f8o⟩:=Ab f3o
       refine dc 8 rfl (by kernel_rfl) (by rfl) (Ae MK (by rfl)) (Hy x1 v9a A4 c5 w5 (TB.updW X7d hb0 hT) (RL.updW n6 X7d ap0) r2b h7o) ?_
       rintro _ w6 E8d rfl
       refine dnrm ?_
       have X9o:=UpdS.ext X7d E8d
       have S6q:=S1h.trans E8d
       refine dA 9 rfl (fun _=>Bd (c:=wu64 ((wu64 u1b)+r2b)) rfl rfl rfl) ?_
       refine dA 10 rfl (fun _=>Bd (c:=wu64 (v7a+(wu64 ((wu64 u1b)+r2b)))) rfl rfl rfl) ?_
       refine dA 11 rfl (fun _=>Ac rfl) ?_
       refine CU (by kernel_rfl) ?_
       refine h0h _ _<|wp_seq_k fun K2h h2h=>Af<|sV (Aa rfl) ?_
       refine sV (Aa rfl) ?_
       refine sV (Aa rfl) ?_
       refine sV (AQ (c:=wu32 (wu64 (v7a+(wu64 ((wu64 u1b)+r2b))))) AO AR rfl rfl) ?_
       have ow9d:=(ow4d.ext E6d).ext E8d
       obtain ⟨u7q,h0p,f1p⟩:=Ab f8o
       obtain ⟨bb1321,hA3h,hz8q,ia4h,ib5h,hc1326⟩:=WN.nthc ow9d h0p
       refine sV (Ay AP As rfl rfl hA3h ia4h ib5h) ?_
       refine Oj As rfl rfl ow9d hA3h ia4h (by rw [WN.len ow9d];exact ib5h) fun w7 U2p ow3p=>?_
       have X4p:=UpdS.tr X9o U2p
       refine Ad<|h2h _ _<|Af<|sV (Aa rfl) ?_
       refine sV (IA (c:=(wu64 (v7a+(wu64 ((wu64 u1b)+r2b)))).fdiv (2^min (32:Int).toNat IntKind.u64.bits)) (by decide) rfl rfl rfl) ?_
       refine sV (Ac rfl) ?_
       refine Ad<|h8g _ _<|Af<|sV (Bd (c:=wi64 (v9a+1)) rfl rfl rfl) ?_
       refine sV (Aa rfl) ?_
       refine Ad ?_
       exact ih9n _ _ ⟨((wu64 (v7a+(wu64 ((wu64 u1b)+r2b)))).fdiv (2^min (32:Int).toNat IntKind.u64.bits)),(wi64 (v9a+1)),(List.set v0c (v9a:Int).toNat (wu32 (wu64 (v7a+(wu64 ((wu64 u1b)+r2b)))))),X4p,ow3p,f1p,(Fr.mk (by kernel_rfl))⟩
      ·have p5p:=zN hz5c e2c
       have f6p:=ifN p5p hr5d
       refine wp_cond_false (Aj (evb rfl e2c))<|wp_exit ?_
       simp only [Exit.then,Exit.inBlock,↓reduceIte,Nat.reduceEqDiff]
       obtain rfl:=sj f6p
       exact ⟨_,rfl,X5g,ow4d,(Fr.mk (by kernel_rfl))⟩
    ·rintro _ w4 ⟨X7p,ow8p,⟨t3d,rfl⟩⟩ l'' hl
     simp only [gp,Nat.reduceAdd] at hl
     subst hl
     obtain rfl:=sj f8n
     exact ⟨_,rfl,X7p,ow8p,(Fr.mk (by kernel_rfl))⟩
   ·have p9p:=bF e9b
    have f0q:=ifN p9p h9f
    refine wp_cond_false (Aj (evb rfl e9b))<|wp_skip ?_
    obtain rfl:=sj f0q
    exact ⟨_,rfl,X8f,ow7f,(Fr.mk (by kernel_rfl))⟩
  ·rintro _ w4 ⟨X1q,ow6h,⟨t2d,rfl⟩⟩ l'' hl
   simp only [gp,Nat.reduceAdd] at hl
   subst hl
   refine h4f _ _<|wp_seq_k fun K7h h7h=>Af<|sV (Aa rfl) ?_
   refine sV (AQ (c:=wu32 m1d.1) AO AR rfl rfl) ?_
   refine sV (Ac rfl) ?_
   refine Ad<|h7h _ _<|wp_ret ?_
   obtain rfl:=sj f4n
   exact fin rfl (Res.tmp rfl Res.nil) ⟨X1q,WN.len ow6h,WN.bx ow6h,_,rfl,rfl⟩
theorem HU (x0:List Int) (x1:List Int) (A1:Option Addr) (c2:Nat) (A4:Option Addr) (c5:Nat) (w:World) (hT:TB w) (n3:RLu w A1 c2 x0) (n6:RLu w A4 c5 x1) (r:List Int × List Int) (hr:BM x0 x1=some r) :
  Calls Tryz.prog 244 #[.slice A1 x0.length c2,.slice A4 x1.length c5] w (Ret La w r):=by
 unfold BM at hr
 go_enter Tryz.func244,Tryz.ntmps244
 refine wp_seq_k fun K7 h7=>Af<|sV (Ac rfl) ?_
 refine sV (Ac rfl) ?_
 refine Ad<|h7 _ _<|wp_seq_k fun K8 h8=>?_
 apply wp_block
 refine wp_seq_k fun K9 h9=>Af<|sV (Aa rfl) ?_
 refine sV (AD AP rfl) ?_
 refine sb (Ce rfl rfl) fun z3a hz3a=>?_
 refine nrm ?_
 refine sV (Ac rfl) ?_
 refine Ad<|h9 _ _ ?_
 rcases bft z3a with e6a | e6a
 ·have p1h:=zP hz3a e6a
  have f2h:=ifP p1h hr
  refine wp_cond_true (Aj (evb rfl e6a))<|wp_seq_k fun K1d h1d=>Af<|sV (Aa rfl) ?_
  refine sV (Aa rfl) ?_
  obtain ⟨u3h,h4h,f5h⟩:=Ab f2h
  obtain ⟨bb528,oo529,hA6h,ia7h,ib8h,hc531⟩:=RL.nth n6 h4h
  refine sV (Ay AP As rfl rfl hA6h ia7h ib8h) ?_
  refine sV (Ag AV rfl hc531) ?_
  obtain ⟨r9h,h0i,f1i⟩:=Ab f5h
  refine sc (Ae en_267 (by rfl)) (c_nat_limbs_short x0 u3h A1 c2 w hT n3 r9h h0i) ?_
  rintro _ w1 E2i ⟨A3i,c4i,A5i,c6i,rfl,n7i,n8i⟩
  refine nrm ?_
  refine sV (Ap rfl rfl) ?_
  refine sV (Ap rfl rfl) ?_
  refine sV (Ac rfl) ?_
  refine sV (Ac rfl) ?_
  refine Ad<|h1d _ _<|wp_ret ?_
  obtain rfl:=sj f1i
  exact fin rfl (Res.tmp rfl (Res.tmp rfl Res.nil)) (Ak E2i ⟨A3i,c4i,A5i,c6i,rfl,n7i,n8i⟩)
 ·have p9i:=zN hz3a e6a
  have f0j:=ifN p9i hr
  refine wp_cond_false (Aj (evb rfl e6a))<|wp_seq_k fun K2d h2d=>Af<|sV (Aa rfl) ?_
  refine sV (Aa rfl) ?_
  obtain ⟨r1j,h2j,f3d⟩:=Ab f0j
  refine sc (Ae NM (by rfl)) (Hj x0 x1 A1 c2 A4 c5 w hT n3 n6 r1j h2j) ?_
  rintro _ w1 E7a rfl
  refine nrm ?_
  refine sb (Cm rfl rfl) fun z4b hz4b=>?_
  refine nrm ?_
  refine sV (Ac rfl) ?_
  refine Ad<|h2d _ _ ?_
  rcases bft z4b with e8a | e8a
  ·have p3j:=zP hz4b e8a
   have f4j:=ifP p3j f3d
   refine wp_cond_true (Aj (evb rfl e8a))<|wp_seq_k fun K4d h4d=>Af<|sV (Aa rfl) ?_
   refine sV (Ac rfl) ?_
   refine sV (Ac rfl) ?_
   refine Ad<|h4d _ _<|wp_ret ?_
   obtain rfl:=sj f4j
   exact fin rfl (Res.tmp rfl (Res.tmp rfl Res.nil)) (Ak E7a ⟨none,0,A1,c2,rfl,(RL.nil _ _ _),(n3.ext E7a)⟩)
  ·have p5j:=zN hz4b e8a
   have f6j:=ifN p5j f3d
   refine wp_cond_false (Aj (evb rfl e8a))<|wp_skip<|h8 _ _<|wp_seq_k fun K5d h5d=>Af<|sV (Aa rfl) ?_
   refine sV (Aa rfl) ?_
   refine sV (AD AP rfl) ?_
   refine sV (Bv (c:=wi64 ((x1.length:Int) - 1)) rfl rfl rfl) ?_
   obtain ⟨u7j,h8j,f9j⟩:=Ab f6j
   obtain ⟨bb60,oo61,hA0k,ia1k,ib2k,hc63⟩:=RL.nth (n6.ext E7a) h8j
   refine sV (Ay AP As rfl rfl hA0k ia1k ib2k) ?_
   refine sV (Ag AV rfl hc63) ?_
   obtain ⟨r5a,h3k,f4k⟩:=Ab f9j
   refine sc (Ae Nq (by rfl)) (ET u7j w1 (tbx E7a hT)  r5a h3k) ?_
   rintro _ w2 E5k rfl
   refine nrm ?_
   have X8b:=xtr E7a E5k
   refine sV (Ac rfl) ?_
   refine Ad<|h5d _ _<|wp_seq_k fun K6d h6d=>Af<|sV (Aa rfl) ?_
   refine sV (Aa rfl) ?_
   obtain ⟨r0a,h6k,f7k⟩:=Ab f4k
   refine sc (Ae MV (by rfl)) (Gi x1 r5a A4 c5 w2 (tbx X8b hT) (n6.ext X8b) r0a h6k) ?_
   rintro _ w3 E8k ⟨A7d,c8d,rfl,n9d⟩
   refine nrm ?_
   have X5b:=xtr X8b E8k
   refine sV (Ac rfl) ?_
   refine Ad<|h6d _ _<|wp_seq_k fun K0e h0e=>Af<|sV (Aa rfl) ?_
   refine sV (AD AP rfl) ?_
   refine sV (Ac rfl) ?_
   refine Ad<|h0e _ _<|wp_seq_k fun K1e h1e=>Af<|sV (Aa rfl) ?_
   refine sV (AD AP rfl) ?_
   refine sV (Bd (c:=wi64 ((x0.length:Int)+1)) rfl rfl rfl) ?_
   obtain ⟨_,h9k,f0l⟩:=Ab f7k
   have gd85:=AJ h9k
   refine Iv AP Ez rfl rfl gd85 fun A9a w4 E2e ow1l=>?_
   refine nrm ?_
   have X9b:=xtr X5b E2e
   refine sV (Ac rfl) ?_
   refine Ad<|h1e _ _<|wp_seq_k fun K3e h3e=>Af<|sV (Aa rfl) ?_
   refine sV (Aa rfl) ?_
   refine sV (Aa rfl) ?_
   obtain ⟨r0c,h2l,f3l⟩:=Ab f0l
   refine sc (Ae MV (by rfl)) (Gi x0 r5a A1 c2 w4 (tbx X9b hT) (n3.ext X9b) r0c h2l) ?_
   rintro _ w5 E1c ⟨A2q,c3q,rfl,n4l⟩
   refine nrm ?_
   have X5l:=xtr X9b E1c
   have X6l:=xtr E2e E1c
   refine ON AP As rfl rfl (ow1l.ext E1c) n4l fun w6 B101 ow4e=>?_
   refine nrm ?_
   have X5e:=xO X5l B101 X5b.size
   have X6e:=xO X6l B101 (Nat.le_refl _)
   refine Ad<|h3e _ _<|wp_seq_k fun K7e h7e=>Af<|sV (Aa rfl) ?_
   refine sV (AD AP rfl) ?_
   refine sV (Aa rfl) ?_
   refine sV (Bv (c:=wi64 ((((((wi64 ((x0.length:Int)+1)):Int).toNat):Nat):Int) - (r0a.length:Int))) rfl rfl rfl) ?_
   obtain ⟨_,h7l,f8l⟩:=Ab f3l
   have gd112:=AJ h7l
   have hl113:=OW.lt ow4e
   refine Iv AP Ez rfl rfl gd112 fun A0b w7 E2c ow9l=>?_
   refine nrm ?_
   have X0m:=xtr X5e E2c
   have X1m:=xtr X6e E2c
   refine sV (Ac rfl) ?_
   refine Ad<|h7e _ _<|wp_seq_k fun K8e h8e=>wp_seq_k fun K9e h9e=>Af<|sV (Aa rfl) ?_
   refine sV (AD AP rfl) ?_
   refine sV (Bv (c:=wi64 ((((((wi64 ((((((wi64 ((x0.length:Int)+1)):Int).toNat):Nat):Int) - (r0a.length:Int))):Int).toNat):Nat):Int) - 1)) rfl rfl rfl) ?_
   refine sV (Ac rfl) ?_
   refine Ad<|h9e _ _ ?_
   obtain ⟨m1b,h2m,f3m⟩:=Ab f8l
   refine Di (fun l l' w'=>Ext w w'∧Ext w3 w'∧OW 179 w6.heap.size w' A0b (((wi64 ((((((wi64 ((x0.length:Int)+1)):Int).toNat):Nat):Int) - (r0a.length:Int))):Int).toNat) (((wi64 ((((((wi64 ((x0.length:Int)+1)):Int).toNat):Nat):Int) - (r0a.length:Int))):Int).toNat) m1b.1∧OW 179 w3.heap.size w' A9a (((wi64 ((x0.length:Int)+1)):Int).toNat) (((wi64 ((x0.length:Int)+1)):Int).toNat) m1b.2∧Fr l' (fun t6b=>gp t6b 0 6 (.int .i64 r5a::gp t6b 7 2 (.slice A9a (((wi64 ((x0.length:Int)+1)):Int).toNat) (((wi64 ((x0.length:Int)+1)):Int).toNat)::.slice A0b (((wi64 ((((((wi64 ((x0.length:Int)+1)):Int).toNat):Nat):Int) - (r0a.length:Int))):Int).toNat) (((wi64 ((((((wi64 ((x0.length:Int)+1)):Int).toNat):Nat):Int) - (r0a.length:Int))):Int).toNat)::gp t6b 11 69 [])))) ?_ ?_
   ·apply wp_block
    refine BA (fun l n0f l' w'=>∃(v1a:Int) (v2b:List Int) (v2a:List Int),Ext w w'∧Ext w3 w'∧OW 179 w6.heap.size w' A0b (((wi64 ((((((wi64 ((x0.length:Int)+1)):Int).toNat):Nat):Int) - (r0a.length:Int))):Int).toNat) (((wi64 ((((((wi64 ((x0.length:Int)+1)):Int).toNat):Nat):Int) - (r0a.length:Int))):Int).toNat) v2b∧OW 179 w3.heap.size w' A9a (((wi64 ((x0.length:Int)+1)):Int).toNat) (((wi64 ((x0.length:Int)+1)):Int).toNat) v2a∧Dp x0 x1 r0a n0f v1a v2b v2a=some m1b∧Fr l' (fun t3c=>gp t3c 0 6 (.int .i64 r5a::.slice A7d r0a.length c8d::.int .i64 (r0a.length:Int)::.slice A9a (((wi64 ((x0.length:Int)+1)):Int).toNat) (((wi64 ((x0.length:Int)+1)):Int).toNat)::.slice A0b (((wi64 ((((((wi64 ((x0.length:Int)+1)):Int).toNat):Nat):Int) - (r0a.length:Int))):Int).toNat) (((wi64 ((((((wi64 ((x0.length:Int)+1)):Int).toNat):Nat):Int) - (r0a.length:Int))):Int).toNat)::.int .i64 v1a::gp t3c 12 68 []))) 18446744073709551616 ?_ ?_ ?_
    ·exact ⟨(wi64 ((((((wi64 ((((((wi64 ((x0.length:Int)+1)):Int).toNat):Nat):Int) - (r0a.length:Int))):Int).toNat):Nat):Int) - 1)),(List.replicate ((wi64 ((((((wi64 ((x0.length:Int)+1)):Int).toNat):Nat):Int) - (r0a.length:Int))):Int).toNat (0:Int)),((r0c).take (List.length (List.replicate ((wi64 ((x0.length:Int)+1)):Int).toNat (0:Int)))++(List.replicate ((wi64 ((x0.length:Int)+1)):Int).toNat (0:Int)).drop r0c.length),X0m,X1m,ow9l,(ow4e.ext E2c),h2m,(Fr.mk (by kernel_rfl))⟩
    ·rintro l' w' ⟨v1a,v2b,v2a,_,_,_,_,hz,_⟩
     exact nomatch hz
    ·rintro n0f ih4m _ w8 ⟨v1a,v2b,v2a,X4c,X5c,ow1f,ow4a,hr6c,⟨t3c,rfl⟩⟩ l'' hl
     simp only [gp,Nat.reduceAdd] at hl
     subst hl
     unfold Dp at hr6c
     refine Bg<|wp_seq_k fun K2f h2f=>wp_seq_k fun K3f h3f=>Af<|sV (Aa rfl) ?_
     refine sb (EP rfl rfl) fun z7b hz7b=>?_
     refine nrm ?_
     refine Ad<|h3f _ _ ?_
     rcases bft z7b with e3b | e3b
     ·have p5m:=zP hz7b e3b
      have f6m:=ifP p5m hr6c
      refine wp_cond_true (Aj (evb rfl e3b))<|wp_skip<|h2f _ _<|wp_seq_k fun K4f h4f=>?_
      apply wp_block
      refine Af<|sV (Aa rfl) ?_
      refine sV (Aa rfl) ?_
      refine sV (Aa rfl) ?_
      refine sV (Aa rfl) ?_
      refine sV (Aa rfl) ?_
      refine sV (Aa rfl) ?_
      refine sV (Bd (c:=wi64 (v1a+(r0a.length:Int))) rfl rfl rfl) ?_
      refine sV (Bd (c:=wi64 ((wi64 (v1a+(r0a.length:Int)))+1)) rfl rfl rfl) ?_
      obtain ⟨_,h7m,f8m⟩:=Ab f6m
      have gd460:=AJ h7m
      obtain ⟨b5f,ys462,hA6f,hz9m,g7c,q7f,bk467⟩:=OW.win (lo:=(v1a:Int).toNat) (hi:=((wi64 ((wi64 (v1a+(r0a.length:Int)))+1)):Int).toNat) ow4a (by omega) (by rw [←OW.len ow4a];omega)
      refine swin (lo:=(v1a:Int).toNat) (hi:=((wi64 ((wi64 (v1a+(r0a.length:Int)))+1)):Int).toNat) AP As rfl ⟨.i64,by rw [Int.toNat_of_nonneg (a:=v1a) (by omega)];rfl⟩ ⟨.i64,by rw [Int.toNat_of_nonneg (a:=(wi64 ((wi64 (v1a+(r0a.length:Int)))+1))) (by omega)];rfl⟩ (by omega) (by rw [←OW.len ow4a];omega) ow4a hA6f ?_
      refine nrm ?_
      refine sV (Aa rfl) ?_
      obtain ⟨r8c,h0n,f1n⟩:=Ab f8m
      refine scK (Ae en_268 (by rfl)) (c_nat_estimate ((List.drop ((v1a:Int).toNat) v2a).take ((((wi64 ((wi64 (v1a+(r0a.length:Int)))+1)):Int).toNat) - ((v1a:Int).toNat))) r0a (some ⟨b5f,List.length ((v2a).take ((v1a:Int).toNat)),none⟩) ((((wi64 ((x0.length:Int)+1)):Int).toNat) - ((v1a:Int).toNat)) A7d c8d b5f ((v2a).take ((v1a:Int).toNat)) ys462 w8 (tbx X4c hT) ⟨rfl,rfl,q7f,by have:=OW.cap ow4a;simp only [List.length_take,List.length_drop];omega,by have:=(OW.rl ow4a).2.1;omega⟩  (TB.nz (tbx X5b hT) g7c) (n9d.ext X5c) (apartB n9d g7c) r8c h0n) ?_
      rintro _ w9 ⟨U8f,hl473,q2n,_,rfl,rfl⟩
      refine ⟨_,rfl,?_⟩
      refine nrm ?_
      have B475:=UpdS.below U8f g7c q7f.lt
      have ow3n:=bk467 _ _ (by rw [hl473];simp only [List.length_take,List.length_drop];omega) q2n
      have X4n:=xO X4c B475 X5b.size
      have X5n:=xO X5c B475 (Nat.le_refl _)
      have ow9c:=OW.updO ow1f U8f (hl113 _ hA6f hz9m)
      obtain ⟨u4q,h6n,f7n⟩:=Ab f1n
      obtain ⟨bb483,hA9f,hz5q,ia0g,ib1g,hc488⟩:=OW.nthc ow9c h6n
      refine sV (Ay AP As rfl rfl hA9f ia0g ib1g) ?_
      refine Mp As rfl rfl ow9c hA9f ia0g (by rw [OW.len ow9c];exact ib1g) fun w3a B489 U6q ow8n=>?_
      have X9n:=xO X4n B489 X5e.size
      have X0o:=xO X5n B489 X6e.size
      have ow1o:=OW.bel2 ow3n B489 hl113
      refine Ad<|h4f _ _<|Af<|sV (Aa rfl) ?_
      refine sV (Bv (c:=wi64 (v1a - 1)) rfl rfl rfl) ?_
      refine sV (Ac rfl) ?_
      refine Ad ?_
      exact ih4m _ _ ⟨(wi64 (v1a - 1)),(List.set v2b (v1a:Int).toNat r8c.1),(((v2a).take ((v1a:Int).toNat))++r8c.2++((v2a).drop (((wi64 ((wi64 (v1a+(r0a.length:Int)))+1)):Int).toNat))),X9n,X0o,ow8n,ow1o,f7n,(Fr.mk (by kernel_rfl))⟩
     ·have p2o:=zN hz7b e3b
      have f3o:=ifN p2o hr6c
      refine wp_cond_false (Aj (evb rfl e3b))<|wp_exit ?_
      simp only [Exit.then,Exit.inBlock,↓reduceIte,Nat.reduceEqDiff]
      obtain rfl:=sj f3o
      exact ⟨_,rfl,X4c,X5c,ow1f,ow4a,(Fr.mk (by kernel_rfl))⟩
   ·rintro _ w8 ⟨X2g,X7q,ow3g,ow4g,⟨t6b,rfl⟩⟩ l'' hl
    simp only [gp,Nat.reduceAdd] at hl
    subst hl
    refine h8e _ _<|wp_seq_k fun K5g h5g=>Af<|sV (Aa rfl) ?_
    obtain ⟨r4o,h5o,f6o⟩:=Ab f3m
    refine sc (Ae Lc (by simp only [OW.len ow3g];rfl)) (EM m1b.1 A0b (((wi64 ((((((wi64 ((x0.length:Int)+1)):Int).toNat):Nat):Int) - (r0a.length:Int))):Int).toNat) w8 (tbx X2g hT) (OW.rl ow3g) r4o h5o) ?_
    rintro _ w9 E0d ⟨A7o,c8o,rfl,n9o⟩
    refine nrm ?_
    have X6g:=xtr X2g E0d
    refine sV (Aa rfl) ?_
    obtain ⟨r7g,h0p,f1p⟩:=Ab f6o
    refine sc (Ae Lc (by simp only [OW.len (ow4g.ext E0d)];rfl)) (EM m1b.2 A9a (((wi64 ((x0.length:Int)+1)):Int).toNat) w9 (tbx X6g hT) (OW.rl (ow4g.ext E0d)) r7g h0p) ?_
    rintro _ w3a E8g ⟨A2p,c3p,rfl,n4p⟩
    refine nrm ?_
    have X9g:=xtr X6g E8g
    refine sV (Aa rfl) ?_
    obtain ⟨r5p,h6p,f7p⟩:=Ab f1p
    refine sc (Ae NQ (by rfl)) (Hg r7g r5a A2p c3p w3a (tbx X9g hT) n4p r5p h6p) ?_
    rintro _ w8q E0h ⟨A8p,c9p,rfl,n0q⟩
    refine nrm ?_
    have X1q:=xtr X9g E0h
    refine sV (Ac rfl) ?_
    refine sV (Ac rfl) ?_
    refine Ad<|h5g _ _<|wp_ret ?_
    obtain rfl:=sj f7p
    exact fin rfl (Res.tmp rfl (Res.tmp rfl Res.nil)) (Ak X1q ⟨A7o,c8o,A8p,c9p,rfl,((n9o.ext E8g).ext E0h),n0q⟩)
end Go.Proofs.Lf

