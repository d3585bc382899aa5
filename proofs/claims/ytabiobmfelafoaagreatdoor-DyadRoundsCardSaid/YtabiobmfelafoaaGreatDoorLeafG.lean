import Derived.Test.YtabiobmfelafoaaGreatDoorBack
import Derived.Test.YtabiobmfelafoaaGreatDoorLeaf2
namespace Go.Proofs.Lf
set_option linter.unusedVariables false
set_option linter.unusedSimpArgs false
set_option maxHeartbeats 4000000
open Go.RowKit Go.Sb Go.Proofs Go.Proofs.Sbn
theorem WN.upd {t b n c:Nat} {pre ys xs zs:List Int} {A:Option Addr} {w w':World} (h:WN t b pre ys w A n c xs) (hl:zs.length=xs.length) (q:Bx w' b t (us (pre++zs++ys))):WN t b pre ys w' A n c zs:=⟨hl.trans h.1,h.2.1,q,h.2.2.2⟩
theorem en_264:Ent Tryz.prog 264:=ent Tryz.func264 (by kernel_rfl) rfl
theorem en_271:Ent Tryz.prog 271:=ent Tryz.func271 (by kernel_rfl) rfl
theorem Lr:Ent Tryz.prog 272:=ent Tryz.func272 (by kernel_rfl) rfl
theorem en_282:Ent Tryz.prog 282:=ent Tryz.func282 (by kernel_rfl) rfl
theorem en_283:Ent Tryz.prog 283:=ent Tryz.func283 (by kernel_rfl) rfl
theorem NE:Ent Tryz.prog 251:=ent Tryz.func251 (by kernel_rfl) rfl
theorem Mr:Ent Tryz.prog 226:=ent Tryz.func226 (by kernel_rfl) rfl
theorem en_268:Ent Tryz.prog 268:=ent Tryz.func268 (by kernel_rfl) rfl
theorem Nt:Ent Tryz.prog 249:=ent Tryz.func249 (by kernel_rfl) rfl
theorem en_267:Ent Tryz.prog 267:=ent Tryz.func267 (by kernel_rfl) rfl
def Kc (w:World) (r:List Int × List Int) (v:Value):Prop:=∃(A1:Option Addr) (c1:Nat) (A2:Option Addr) (c2:Nat),v = .tuple #[.slice A1 r.1.length c1,.slice A2 r.2.length c2]∧RLu w A1 c1 r.1∧RLu w A2 c2 r.2
def Er (x0:List Int) (x1:Int):Option (Int):=
 if x1<(x0.length:Int) then (nth x0 x1).bind fun u0a=>
 some (wu64 u0a) else some 0
def IW (x0:Int):Option (List Int):=
 (Cy ([(wu32 x0),(wu32 (x0.fdiv (2^min (32:Int).toNat IntKind.u64.bits)))]:List Int)).bind fun r8=>
 some r8
def Fy (x0:List Int):Option (Int):=
 if (x0.length:Int)=0 then some 0 else (nth x0 (wi64 ((x0.length:Int) - 1))).bind fun u0a=>
 (Gb u0a).bind fun r1a=>
 some (wi64 ((wi64 (32*(wi64 ((x0.length:Int) - 1))))+r1a))
def Di (x0:List Int) (x1:Int):Nat→Int→List Int→Option (List Int)
 | 0,_,_=>none
 | n2a+1,v0a,v1a=>
 if v0a<(((((wi64 ((x0.length:Int) - (wi64 (x1.tdiv 32)))):Int).toNat):Nat):Int) then (Er x0 (wi64 (v0a+(wi64 (x1.tdiv 32))))).bind fun r3a=>
 (Er x0 (wi64 ((wi64 (v0a+(wi64 (x1.tdiv 32))))+1))).bind fun r4a=>
 (gd (0≤(x1.tmod 32))).bind fun _=>
 (nth v1a v0a).bind fun u5a=>
 Di x0 x1 n2a (wi64 (v0a+1)) (List.set v1a (v0a:Int).toNat (wu32 ((bor .u64 r3a (wu64 (r4a*2^min (32:Int).toNat IntKind.u64.bits))).fdiv (2^min ((x1.tmod 32):Int).toNat IntKind.u64.bits)))) else some (v1a)
def DP (x0:List Int) (x1:Int):Option (List Int):=
 (Fy x0).bind fun r7=>
 if r7≤x1 then some ([]:List Int) else (gd (0≤((wi64 ((x0.length:Int) - (wi64 (x1.tdiv 32)))):Int)∧((wi64 ((x0.length:Int) - (wi64 (x1.tdiv 32)))):Int)≤((wi64 ((x0.length:Int) - (wi64 (x1.tdiv 32)))):Int)∧((wi64 ((x0.length:Int) - (wi64 (x1.tdiv 32)))):Int)≤70368744177664)).bind fun _=>
 (Di x0 x1 18446744073709551616 0 (List.replicate ((wi64 ((x0.length:Int) - (wi64 (x1.tdiv 32)))):Int).toNat (0:Int))).bind fun m0a=>
 (Cy m0a).bind fun r1a=>
 some r1a
def DN (x0:List Int) (x1:Int):Nat→Int→Int→List Int→Option (Int × List Int)
 | 0,_,_,_=>none
 | n4a+1,v1a,v0a,v2a=>
 if 0≤v0a then (nth x0 v0a).bind fun u3a=>
 (gd ((wu64 x1)≠0)).bind fun _=>
 (nth v2a v0a).bind fun u5a=>
 (gd ((wu64 x1)≠0)).bind fun _=>
 DN x0 x1 n4a ((bor .u64 (wu64 (v1a*2^min (32:Int).toNat IntKind.u64.bits)) (wu64 u3a)).tmod (wu64 x1)) (wi64 (v0a - 1)) (List.set v2a (v0a:Int).toNat (wu32 (wu64 ((bor .u64 (wu64 (v1a*2^min (32:Int).toNat IntKind.u64.bits)) (wu64 u3a)).tdiv (wu64 x1))))) else some (v1a,v2a)
def Fc (x0:List Int) (x1:Int):Option (List Int × List Int):=
 (gd (0≤((x0.length:Int):Int)∧((x0.length:Int):Int)≤((x0.length:Int):Int)∧((x0.length:Int):Int)≤70368744177664)).bind fun _=>
 (DN x0 x1 18446744073709551616 0 (wi64 ((x0.length:Int) - 1)) (List.replicate ((x0.length:Int):Int).toNat (0:Int))).bind fun m0a=>
 (Cy m0a.2).bind fun r1a=>
 (IW m0a.1).bind fun r2a=>
 some (r1a,r2a)
def EJ (x0:List Int) (x1:List Int) (x2:Int):Nat→Int→Int→Int→List Int→Option (Int × List Int)
 | 0,_,_,_,_=>none
 | n6a+1,v2a,v3a,v0a,v1a=>
 if v0a<((x0.length:Nat):Int) then (Er x1 v0a).bind fun r4a=>
 (nth v1a v0a).bind fun u5a=>
 (nth v1a v0a).bind fun u7a=>
 EJ x0 x1 x2 n6a ((wu64 (v2a+(wu64 (x2*r4a)))).fdiv (2^min (32:Int).toNat IntKind.u64.bits)) ((wu64 ((wu64 ((wu64 u5a) - (wu64 (wu32 (wu64 (v2a+(wu64 (x2*r4a)))))))) - v3a)).fdiv (2^min (63:Int).toNat IntKind.u64.bits)) (wi64 (v0a+1)) (List.set v1a (v0a:Int).toNat (wu32 (wu64 ((wu64 ((wu64 u5a) - (wu64 (wu32 (wu64 (v2a+(wu64 (x2*r4a)))))))) - v3a)))) else some (v3a,v1a)
def Im (x0:List Int) (x1:List Int) (x2:Int):Option ((Bool) × List Int):=
 (EJ x0 x1 x2 18446744073709551616 0 0 0 x0).bind fun m0a=>
 some ((decide (0<m0a.1)),m0a.2)
def EN (x0:List Int) (x1:List Int):Nat→Int→Int→Option (Int)
 | 0,_,_=>none
 | n2a+1,v0a,v1a=>
 (if v1a<4294967296 then (nth x1 (wi64 ((x1.length:Int) - 2))).bind fun u3a=>
 (nth x0 (wi64 ((x1.length:Int) - 2))).bind fun u4a=>
 some (decide ((bor .u64 (wu64 (v1a*2^min (32:Int).toNat IntKind.u64.bits)) (wu64 u4a))<(wu64 (v0a*(wu64 u3a))))) else some (false)).bind fun m5a=>
 if m5a=true then (nth x1 (wi64 ((x1.length:Int) - 1))).bind fun u6a=>
 EN x0 x1 n2a (wu64 (v0a - 1)) (wu64 (v1a+(wu64 u6a))) else some (v0a)
def DB (x0:List Int) (x1:List Int):Nat→Int→Int→List Int→Option (List Int)
 | 0,_,_,_=>none
 | n5a+1,v2a,v0a,v1a=>
 if v0a<((x0.length:Nat):Int) then (nth v1a v0a).bind fun u3a=>
 (Er x1 v0a).bind fun r4a=>
 (nth v1a v0a).bind fun u6a=>
 DB x0 x1 n5a ((wu64 (v2a+(wu64 ((wu64 u3a)+r4a)))).fdiv (2^min (32:Int).toNat IntKind.u64.bits)) (wi64 (v0a+1)) (List.set v1a (v0a:Int).toNat (wu32 (wu64 (v2a+(wu64 ((wu64 u3a)+r4a)))))) else some (v1a)
def Gf (x0:List Int) (x1:List Int):Option ((Int) × List Int):=
 (nth x0 (x1.length:Int)).bind fun u0a=>
 (nth x0 (wi64 ((x1.length:Int) - 1))).bind fun u1a=>
 (nth x1 (wi64 ((x1.length:Int) - 1))).bind fun u32=>
 (gd ((wu64 u32)≠0)).bind fun _=>
 (nth x1 (wi64 ((x1.length:Int) - 1))).bind fun u5a=>
 (EN x0 x1 18446744073709551616 (min (wu64 ((bor .u64 (wu64 ((wu64 u0a)*2^min (32:Int).toNat IntKind.u64.bits)) (wu64 u1a)).tdiv (wu64 u32))) 4294967295) (wu64 ((bor .u64 (wu64 ((wu64 u0a)*2^min (32:Int).toNat IntKind.u64.bits)) (wu64 u1a)) - (wu64 ((min (wu64 ((bor .u64 (wu64 ((wu64 u0a)*2^min (32:Int).toNat IntKind.u64.bits)) (wu64 u1a)).tdiv (wu64 u32))) 4294967295)*(wu64 u5a)))))).bind fun m2a=>
 (Im x0 x1 m2a).bind fun r3a=>
 (if r3a.1=true then (DB x0 x1 18446744073709551616 0 0 r3a.2).bind fun m6a=>
 some ((wu64 (m2a - 1)),m6a) else some (m2a,r3a.2)).bind fun m4a=>
 some ((wu32 m4a.1),m4a.2)
def Dt (x0:List Int) (x1:List Int) (r1a:List Int):Nat→Int→List Int→List Int→Option (List Int × List Int)
 | 0,_,_,_=>none
 | n5a+1,v0a,v3a,v2a=>
 if 0≤v0a then (gd (0≤(v0a:Int)∧(v0a:Int)<(wi64 ((wi64 (v0a+(r1a.length:Int)))+1))∧(wi64 ((wi64 (v0a+(r1a.length:Int)))+1))≤(v2a.length:Int))).bind fun _=>
 (Gf ((List.drop ((v0a:Int).toNat) v2a).take ((((wi64 ((wi64 (v0a+(r1a.length:Int)))+1)):Int).toNat) - ((v0a:Int).toNat))) r1a).bind fun r4a=>
 (nth v3a v0a).bind fun u6a=>
 Dt x0 x1 r1a n5a (wi64 (v0a - 1)) (List.set v3a (v0a:Int).toNat r4a.1) (((v2a).take ((v0a:Int).toNat))++r4a.2++((v2a).drop (((wi64 ((wi64 (v0a+(r1a.length:Int)))+1)):Int).toNat))) else some (v3a,v2a)
def BV (x0:List Int) (x1:List Int):Option (List Int × List Int):=
 if (x1.length:Int)=1 then (nth x1 0).bind fun u5a=>
 (Fc x0 u5a).bind fun r2a=>
 some (r2a.1,r2a.2) else (Ex x0 x1).bind fun r6a=>
 if r6a<0 then some (([]:List Int),x0) else (nth x1 (wi64 ((x1.length:Int) - 1))).bind fun u7a=>
 (Bb u7a).bind fun r1a=>
 (Dq x1 r1a).bind fun r0a=>
 (gd (0≤((wi64 ((x0.length:Int)+1)):Int)∧((wi64 ((x0.length:Int)+1)):Int)≤((wi64 ((x0.length:Int)+1)):Int)∧((wi64 ((x0.length:Int)+1)):Int)≤70368744177664)).bind fun _=>
 (Dq x0 r1a).bind fun r3a=>
 (gd (0≤((wi64 ((((((wi64 ((x0.length:Int)+1)):Int).toNat):Nat):Int) - (r0a.length:Int))):Int)∧((wi64 ((((((wi64 ((x0.length:Int)+1)):Int).toNat):Nat):Int) - (r0a.length:Int))):Int)≤((wi64 ((((((wi64 ((x0.length:Int)+1)):Int).toNat):Nat):Int) - (r0a.length:Int))):Int)∧((wi64 ((((((wi64 ((x0.length:Int)+1)):Int).toNat):Nat):Int) - (r0a.length:Int))):Int)≤70368744177664)).bind fun _=>
 (Dt x0 x1 r0a 18446744073709551616 (wi64 ((((((wi64 ((((((wi64 ((x0.length:Int)+1)):Int).toNat):Nat):Int) - (r0a.length:Int))):Int).toNat):Nat):Int) - 1)) (List.replicate ((wi64 ((((((wi64 ((x0.length:Int)+1)):Int).toNat):Nat):Int) - (r0a.length:Int))):Int).toNat (0:Int)) ((r3a).take (List.length (List.replicate ((wi64 ((x0.length:Int)+1)):Int).toNat (0:Int)))++(List.replicate ((wi64 ((x0.length:Int)+1)):Int).toNat (0:Int)).drop r3a.length)).bind fun m4a=>
 (Cy m4a.1).bind fun r8a=>
 (Cy m4a.2).bind fun r9a=>
 (DP r9a r1a).bind fun r0b=>
 some (r8a,r0b)
theorem GT (x0:List Int) (x1:Int) (A1:Option Addr) (c2:Nat) (w:World) (hT:TB w) (n3:RLu w A1 c2 x0) (r:Int) (hr:Er x0 x1=some r) :
  Calls Tryz.prog 272 #[.slice A1 x0.length c2,.int .i64 x1] w (Ret Kd w r):=by
 unfold Er at hr
 go_enter Tryz.func272,Tryz.ntmps272
 refine wp_seq_k fun K4 h4=>Ae<|sV (Ac rfl) ?_
 refine Ad<|h4 _ _<|wp_seq_k fun K5 h5=>wp_seq_k fun K6 h6=>Ae<|sV (Aa rfl) ?_
 refine sV (Aa rfl) ?_
 refine sV (Ax AU rfl) ?_
 refine sb (CK rfl rfl) fun z7 hz7=>?_
 refine nrm ?_
 refine Ad<|h6 _ _ ?_
 rcases bft z7 with e0a | e0a
 ·have p3a:=zP hz7 e0a
  have f4a:=ifP p3a hr
  refine wp_cond_true (Ai (evb rfl e0a))<|wp_seq_k fun K1a h1a=>Ae<|sV (Aa rfl) ?_
  refine sV (Aa rfl) ?_
  obtain ⟨u5a,h6a,f7a⟩:=Ab f4a
  obtain ⟨bb34,oo35,hA8a,ia9a,ib0b,hc37⟩:=RL.nth n3 h6a
  refine sV (Ar AU An rfl rfl hA8a ia9a ib0b) ?_
  refine sV (Ag AN rfl hc37) ?_
  refine sV (AG (c:=wu64 u5a) AH AF rfl rfl) ?_
  refine sV (Ac rfl) ?_
  refine Ad<|h1a _ _<|wp_ret ?_
  obtain rfl:=sj f7a
  exact fin rfl (Res.tmp rfl Res.nil) (Ak (Ext.refl _) rfl)
 ·have p1b:=zN hz7 e0a
  have f2b:=ifN p1b hr
  refine wp_cond_false (Ai (evb rfl e0a))<|wp_skip<|h5 _ _<|wp_seq_k fun K2a h2a=>Ae<|sV (Ac rfl) ?_
  refine Ad<|h2a _ _<|wp_ret ?_
  obtain rfl:=sj f2b
  exact fin rfl (Res.tmp rfl Res.nil) (Ak (Ext.refl _) rfl)
theorem c_nat_of (x0:Int) (w:World) (hT:TB w) (r:List Int) (hr:IW x0=some r) :
  Calls Tryz.prog 282 #[.int .u64 x0] w (Ret JV w r):=by
 unfold IW at hr
 go_enter Tryz.func282,Tryz.ntmps282
 refine wp_seq_k fun K1 h1=>Ae<|sV (Ac rfl) ?_
 refine Ad<|h1 _ _<|wp_seq_k fun K2 h2=>Ae<|sV (Aa rfl) ?_
 refine sV (AG (c:=wu32 x0) AF AH rfl rfl) ?_
 refine sV (Aa rfl) ?_
 refine sV (Gu (c:=x0.fdiv (2^min (32:Int).toNat IntKind.u64.bits)) (by decide) rfl rfl rfl) ?_
 refine sV (AG (c:=wu32 (x0.fdiv (2^min (32:Int).toNat IntKind.u64.bits))) AF AH rfl rfl) ?_
 refine DI (vals:=[(0,.int .u32 (wu32 x0)),(1,.int .u32 (wu32 (x0.fdiv (2^min (32:Int).toNat IntKind.u64.bits))))]) (cs:=[.int .u32 (wu32 x0),.int .u32 (wu32 (x0.fdiv (2^min (32:Int).toNat IntKind.u64.bits)))]) AU An FK (by rfl) (by decide) (by kernel_rfl) fun b4 w1 E3 g5 q6=>?_
 refine nrm ?_
 have n7:RLu w1 (some ⟨b4,0,none⟩) 2 [(wu32 x0),(wu32 (x0.fdiv (2^min (32:Int).toNat IntKind.u64.bits)))]:=(OW.lit (n0:=0) (n:=2) (xs:=[(wu32 x0),(wu32 (x0.fdiv (2^min (32:Int).toNat IntKind.u64.bits)))]) q6 (Nat.zero_le _) rfl (by decide)).rl
 obtain ⟨r8,h9,f0a⟩:=Ab hr
 refine sc (Af Kl (by rfl)) (EM ([(wu32 x0),(wu32 (x0.fdiv (2^min (32:Int).toNat IntKind.u64.bits)))]:List Int) (some ⟨b4,0,none⟩) 2 w1 (tbx E3 hT) n7 r8 h9) ?_
 rintro _ w2 E1a ⟨A2a,c3a,rfl,n4a⟩
 refine nrm ?_
 have X5a:=xtr E3 E1a
 refine sV (Ac rfl) ?_
 refine Ad<|h2 _ _<|wp_ret ?_
 obtain rfl:=sj f0a
 exact fin rfl (Res.tmp rfl Res.nil) (Ak X5a ⟨A2a,c3a,rfl,n4a⟩)
theorem c_nat_limbs_size (x0:List Int) (A1:Option Addr) (c2:Nat) (w:World) (hT:TB w) (n3:RLu w A1 c2 x0) (r:Int) (hr:Fy x0=some r) :
  Calls Tryz.prog 271 #[.slice A1 x0.length c2] w (Ret FQ w r):=by
 unfold Fy at hr
 go_enter Tryz.func271,Tryz.ntmps271
 refine wp_seq_k fun K4 h4=>Ae<|sV (Ac rfl) ?_
 refine Ad<|h4 _ _<|wp_seq_k fun K5 h5=>wp_seq_k fun K6 h6=>Ae<|sV (Aa rfl) ?_
 refine sV (Ax AU rfl) ?_
 refine sb (BE rfl rfl) fun z7 hz7=>?_
 refine nrm ?_
 refine Ad<|h6 _ _ ?_
 rcases bft z7 with e0a | e0a
 ·have p4a:=zP hz7 e0a
  have f5a:=ifP p4a hr
  refine wp_cond_true (Ai (evb rfl e0a))<|wp_seq_k fun K1a h1a=>Ae<|sV (Ac rfl) ?_
  refine Ad<|h1a _ _<|wp_ret ?_
  obtain rfl:=sj f5a
  exact fin rfl (Res.tmp rfl Res.nil) (Ak (Ext.refl _) rfl)
 ·have p6a:=zN hz7 e0a
  have f7a:=ifN p6a hr
  refine wp_cond_false (Ai (evb rfl e0a))<|wp_skip<|h5 _ _<|wp_seq_k fun K2a h2a=>Ae<|sV (Aa rfl) ?_
  refine sV (Ax AU rfl) ?_
  refine sV (AV (c:=wi64 ((x0.length:Int) - 1)) rfl rfl rfl) ?_
  refine sV (HZ (c:=wi64 (32*(wi64 ((x0.length:Int) - 1)))) rfl rfl rfl) ?_
  refine sV (Aa rfl) ?_
  refine sV (Aa rfl) ?_
  refine sV (Ax AU rfl) ?_
  refine sV (AV (c:=wi64 ((x0.length:Int) - 1)) rfl rfl rfl) ?_
  obtain ⟨u8a,h9a,f0b⟩:=Ab f7a
  obtain ⟨bb23,oo24,hA1b,ia2b,ib3b,hc26⟩:=RL.nth n3 h9a
  refine sV (Ar AU An rfl rfl hA1b ia2b ib3b) ?_
  refine sV (Ag AN rfl hc26) ?_
  obtain ⟨r3a,h4b,f32⟩:=Ab f0b
  refine sc (Af en_264 (by rfl)) (c_math_bits_Len32 u8a w hT  r3a h4b) ?_
  rintro _ w1 E5b rfl
  refine nrm ?_
  refine sV (AO (c:=wi64 ((wi64 (32*(wi64 ((x0.length:Int) - 1))))+r3a)) rfl rfl rfl) ?_
  refine sV (Ac rfl) ?_
  refine Ad<|h2a _ _<|wp_ret ?_
  obtain rfl:=sj f32
  exact fin rfl (Res.tmp rfl Res.nil) (Ak E5b rfl)
theorem HA (x0:List Int) (x1:Int) (A1:Option Addr) (c2:Nat) (w:World) (hT:TB w) (n3:RLu w A1 c2 x0) (r:List Int) (hr:DP x0 x1=some r) :
  Calls Tryz.prog 249 #[.slice A1 x0.length c2,.int .i64 x1] w (Ret JV w r):=by
 unfold DP at hr
 go_enter Tryz.func249,Tryz.ntmps249
 refine wp_seq_k fun K4 h4=>Ae<|sV (Ac rfl) ?_
 refine Ad<|h4 _ _<|wp_seq_k fun K5 h5=>wp_seq_k fun K6 h6=>Ae<|sV (Aa rfl) ?_
 refine sV (Aa rfl) ?_
 obtain ⟨r7,h8,f9⟩:=Ab hr
 refine sc (Af en_271 (by rfl)) (c_nat_limbs_size x0 A1 c2 w hT n3 r7 h8) ?_
 rintro _ w1 E2b rfl
 refine nrm ?_
 refine sb (Fl rfl rfl) fun z6a hz6a=>?_
 refine nrm ?_
 refine Ad<|h6 _ _ ?_
 rcases bft z6a with e8a | e8a
 ·have p8d:=zP hz6a e8a
  have f9d:=ifP p8d f9
  refine wp_cond_true (Ai (evb rfl e8a))<|wp_seq_k fun K9b h9b=>Ae<|sV (Ac rfl) ?_
  refine Ad<|h9b _ _<|wp_ret ?_
  obtain rfl:=sj f9d
  exact fin rfl (Res.tmp rfl Res.nil) (Ak E2b ⟨none,0,rfl,(RL.nil _ _ _)⟩)
 ·have p0e:=zN hz6a e8a
  have f1e:=ifN p0e f9
  refine wp_cond_false (Ai (evb rfl e8a))<|wp_skip<|h5 _ _<|wp_seq_k fun K0c h0c=>Ae<|sV (Aa rfl) ?_
  refine sV (Ax AU rfl) ?_
  refine sV (Aa rfl) ?_
  refine sV (FP (c:=wi64 (x1.tdiv 32)) (by decide) rfl rfl rfl) ?_
  refine sV (AV (c:=wi64 ((x0.length:Int) - (wi64 (x1.tdiv 32)))) rfl rfl rfl) ?_
  obtain ⟨_,h2e,f3e⟩:=Ab f1e
  have gd26:=Ay h2e
  refine Gx AU CO rfl rfl gd26 fun A4a w2 E1c ow4e=>?_
  refine nrm ?_
  have X5e:=xtr E2b E1c
  refine sV (Ac rfl) ?_
  refine Ad<|h0c _ _<|wp_seq_k fun K2c h2c=>wp_seq_k fun K3c h3c=>Ae<|sV (Aa rfl) ?_
  refine sV (Ax AU rfl) ?_
  refine sV (Aa rfl) ?_
  refine Ad<|h3c _ _ ?_
  obtain ⟨m3b,h6e,f7e⟩:=Ab f3e
  refine BZ (fun l l' w'=>∃(t1a:Nat→Value),Ext w w'∧Ext w1 w'∧OW 179 w1.heap.size w' A4a (((wi64 ((x0.length:Int) - (wi64 (x1.tdiv 32)))):Int).toNat) (((wi64 ((x0.length:Int) - (wi64 (x1.tdiv 32)))):Int).toNat) m3b∧l'=[.slice A1 x0.length c2,.int .i64 x1,uu,uu,.slice none 0 0,.slice A4a (((wi64 ((x0.length:Int) - (wi64 (x1.tdiv 32)))):Int).toNat) (((wi64 ((x0.length:Int) - (wi64 (x1.tdiv 32)))):Int).toNat),t1a 0,t1a 1,.int .i64 x1,.slice A1 x0.length c2,.int .i64 r7,.bool z6a,.slice A1 x0.length c2,.int .i64 (x0.length:Int),.int .i64 x1,.int .i64 (wi64 (x1.tdiv 32)),.int .i64 (wi64 ((x0.length:Int) - (wi64 (x1.tdiv 32)))),.slice A4a (((wi64 ((x0.length:Int) - (wi64 (x1.tdiv 32)))):Int).toNat) (((wi64 ((x0.length:Int) - (wi64 (x1.tdiv 32)))):Int).toNat),.slice A4a (((wi64 ((x0.length:Int) - (wi64 (x1.tdiv 32)))):Int).toNat) (((wi64 ((x0.length:Int) - (wi64 (x1.tdiv 32)))):Int).toNat),.int .i64 (((((wi64 ((x0.length:Int) - (wi64 (x1.tdiv 32)))):Int).toNat):Nat):Int),t1a 2,t1a 3,t1a 4,t1a 5,t1a 6,t1a 7,t1a 8,t1a 9,t1a 10,t1a 11,t1a 12,t1a 13,t1a 14,t1a 15,t1a 16,t1a 17,t1a 18,t1a 19,t1a 20,t1a 21,t1a 22,t1a 23,t1a 24,t1a 25,t1a 26,t1a 27,t1a 28,uu,uu]) ?_ ?_
  ·apply wp_block
   refine AR (fun l n4c l' w'=>∃(v2a:Int) (v9a:List Int) (t0a:Nat→Value),Ext w w'∧Ext w1 w'∧OW 179 w1.heap.size w' A4a (((wi64 ((x0.length:Int) - (wi64 (x1.tdiv 32)))):Int).toNat) (((wi64 ((x0.length:Int) - (wi64 (x1.tdiv 32)))):Int).toNat) v9a∧Di x0 x1 n4c v2a v9a=some m3b∧l'=[.slice A1 x0.length c2,.int .i64 x1,uu,uu,.slice none 0 0,.slice A4a (((wi64 ((x0.length:Int) - (wi64 (x1.tdiv 32)))):Int).toNat) (((wi64 ((x0.length:Int) - (wi64 (x1.tdiv 32)))):Int).toNat),t0a 0,t0a 1,.int .i64 x1,.slice A1 x0.length c2,.int .i64 r7,.bool z6a,.slice A1 x0.length c2,.int .i64 (x0.length:Int),.int .i64 x1,.int .i64 (wi64 (x1.tdiv 32)),.int .i64 (wi64 ((x0.length:Int) - (wi64 (x1.tdiv 32)))),.slice A4a (((wi64 ((x0.length:Int) - (wi64 (x1.tdiv 32)))):Int).toNat) (((wi64 ((x0.length:Int) - (wi64 (x1.tdiv 32)))):Int).toNat),.slice A4a (((wi64 ((x0.length:Int) - (wi64 (x1.tdiv 32)))):Int).toNat) (((wi64 ((x0.length:Int) - (wi64 (x1.tdiv 32)))):Int).toNat),.int .i64 (((((wi64 ((x0.length:Int) - (wi64 (x1.tdiv 32)))):Int).toNat):Nat):Int),.int .i64 v2a,t0a 2,t0a 3,t0a 4,t0a 5,t0a 6,t0a 7,t0a 8,t0a 9,t0a 10,t0a 11,t0a 12,t0a 13,t0a 14,t0a 15,t0a 16,t0a 17,t0a 18,t0a 19,t0a 20,t0a 21,t0a 22,t0a 23,t0a 24,t0a 25,t0a 26,t0a 27,uu,uu]) 18446744073709551616 ?_ ?_ ?_
   ·exact ⟨0,(List.replicate ((wi64 ((x0.length:Int) - (wi64 (x1.tdiv 32)))):Int).toNat (0:Int)),(tk [uu,uu,uu,uu,uu,uu,uu,uu,uu,uu,uu,uu,uu,uu,uu,uu,uu,uu,uu,uu,uu,uu,uu,uu,uu,uu,uu,uu]),X5e,E1c,ow4e,h6e,rfl⟩
   ·rintro l' w' ⟨v2a,v9a,t0a,_,_,_,hz,_⟩
    exact nomatch hz
   ·rintro n4c ih8e _ w3 ⟨v2a,v9a,t0a,X1b,X5c,ow6c,hr4b,rfl⟩ _ rfl
    unfold Di at hr4b
    refine Ba<|wp_seq_k fun K7c h7c=>Ae<|sb (CK rfl rfl) fun z7a hz7a=>?_
    refine nrm ?_
    refine Ad<|h7c _ _<|wp_seq_k fun K8c h8c=>?_
    rcases bft z7a with e0b | e0b
    ·have p9e:=zP hz7a e0b
     have f0f:=ifP p9e hr4b
     refine wp_cond_true (Ai (evb rfl e0b))<|wp_skip<|h8c _ _<|wp_seq_k fun K9c h9c=>?_
     apply wp_block
     refine wp_seq_k fun K0d h0d=>Ae<|sV (Aa rfl) ?_
     refine sV (Ac rfl) ?_
     refine Ad<|h0d _ _<|wp_seq_k fun K1d h1d=>Ae<|sV (Aa rfl) ?_
     refine sV (Aa rfl) ?_
     refine sV (Aa rfl) ?_
     refine sV (FP (c:=wi64 (x1.tdiv 32)) (by decide) rfl rfl rfl) ?_
     refine sV (AO (c:=wi64 (v2a+(wi64 (x1.tdiv 32)))) rfl rfl rfl) ?_
     obtain ⟨r5a,h1f,f2f⟩:=Ab f0f
     refine sc (Af Lr (by rfl)) (GT x0 (wi64 (v2a+(wi64 (x1.tdiv 32)))) A1 c2 w3 (tbx X1b hT) (n3.ext X1b) r5a h1f) ?_
     rintro _ w4 E5b rfl
     refine nrm ?_
     have X6b:=xtr X1b E5b
     have X3f:=xtr X5c E5b
     refine sV (Aa rfl) ?_
     refine sV (Aa rfl) ?_
     refine sV (Aa rfl) ?_
     refine sV (FP (c:=wi64 (x1.tdiv 32)) (by decide) rfl rfl rfl) ?_
     refine sV (AO (c:=wi64 (v2a+(wi64 (x1.tdiv 32)))) rfl rfl rfl) ?_
     refine sV (AO (c:=wi64 ((wi64 (v2a+(wi64 (x1.tdiv 32))))+1)) rfl rfl rfl) ?_
     obtain ⟨r3a,h4f,f5f⟩:=Ab f2f
     refine sc (Af Lr (by rfl)) (GT x0 (wi64 ((wi64 (v2a+(wi64 (x1.tdiv 32))))+1)) A1 c2 w4 (tbx X6b hT) (n3.ext X6b) r3a h4f) ?_
     rintro _ w5 E7b rfl
     refine nrm ?_
     have X6f:=xtr X6b E7b
     have X7f:=xtr X3f E7b
     refine sV (HM (c:=wu64 (r3a*2^min (32:Int).toNat IntKind.u64.bits)) (by decide) rfl rfl rfl) ?_
     refine sV (Lg rfl rfl) ?_
     refine sV (Ac rfl) ?_
     refine Ad<|h1d _ _<|Ae<|sV (Aa rfl) ?_
     refine sV (Aa rfl) ?_
     refine sV (Aa rfl) ?_
     refine sV (Aa rfl) ?_
     refine sV (HH (c:=x1.tmod 32) (by decide) rfl rfl rfl) ?_
     obtain ⟨_,h8f,f9f⟩:=Ab f5f
     have gd330:=Ay h8f
     refine sV (Gu (c:=(bor .u64 r5a (wu64 (r3a*2^min (32:Int).toNat IntKind.u64.bits))).fdiv (2^min ((x1.tmod 32):Int).toNat IntKind.u64.bits)) gd330 rfl rfl rfl) ?_
     refine sV (AG (c:=wu32 ((bor .u64 r5a (wu64 (r3a*2^min (32:Int).toNat IntKind.u64.bits))).fdiv (2^min ((x1.tmod 32):Int).toNat IntKind.u64.bits))) AF AH rfl rfl) ?_
     have ow8b:=(ow6c.ext E5b).ext E7b
     obtain ⟨u5h,h0g,f1g⟩:=Ab f9f
     obtain ⟨bb335,hA2d,hz6h,ia3d,ib4d,hc340⟩:=OW.nthc ow8b h0g
     refine sV (Ar AU An rfl rfl hA2d ia3d ib4d) ?_
     refine JQ An rfl rfl ow8b hA2d ia3d (by rw [OW.len ow8b];exact ib4d) fun w6 B341 U7h ow2g=>?_
     have X3g:=xO X6f B341 E2b.size
     have X4g:=xO X7f B341 (Nat.le_refl _)
     refine Ad<|h9c _ _<|Ae<|sV (AO (c:=wi64 (v2a+1)) rfl rfl rfl) ?_
     refine sV (Aa rfl) ?_
     refine Ad ?_
     exact ih8e _ _ ⟨(wi64 (v2a+1)),(List.set v9a (v2a:Int).toNat (wu32 ((bor .u64 r5a (wu64 (r3a*2^min (32:Int).toNat IntKind.u64.bits))).fdiv (2^min ((x1.tmod 32):Int).toNat IntKind.u64.bits)))),(tk [.int .i64 v2a,.int .u64 (bor .u64 r5a (wu64 (r3a*2^min (32:Int).toNat IntKind.u64.bits))),.bool z7a,.int .i64 v2a,.slice A1 x0.length c2,.int .i64 v2a,.int .i64 x1,.int .i64 (wi64 (x1.tdiv 32)),.int .i64 (wi64 (v2a+(wi64 (x1.tdiv 32)))),.int .u64 r5a,.slice A1 x0.length c2,.int .i64 v2a,.int .i64 x1,.int .i64 (wi64 (x1.tdiv 32)),.int .i64 (wi64 (v2a+(wi64 (x1.tdiv 32)))),.int .i64 (wi64 ((wi64 (v2a+(wi64 (x1.tdiv 32))))+1)),.int .u64 r3a,.int .u64 (wu64 (r3a*2^min (32:Int).toNat IntKind.u64.bits)),.int .u64 (bor .u64 r5a (wu64 (r3a*2^min (32:Int).toNat IntKind.u64.bits))),.slice A4a (((wi64 ((x0.length:Int) - (wi64 (x1.tdiv 32)))):Int).toNat) (((wi64 ((x0.length:Int) - (wi64 (x1.tdiv 32)))):Int).toNat),.int .i64 v2a,.int .u64 (bor .u64 r5a (wu64 (r3a*2^min (32:Int).toNat IntKind.u64.bits))),.int .i64 x1,.int .i64 (x1.tmod 32),.int .u64 ((bor .u64 r5a (wu64 (r3a*2^min (32:Int).toNat IntKind.u64.bits))).fdiv (2^min ((x1.tmod 32):Int).toNat IntKind.u64.bits)),.int .u32 (wu32 ((bor .u64 r5a (wu64 (r3a*2^min (32:Int).toNat IntKind.u64.bits))).fdiv (2^min ((x1.tmod 32):Int).toNat IntKind.u64.bits))),.pointer (some ⟨bb335,0+(v2a:Int).toNat,none⟩),.int .i64 (wi64 (v2a+1))]),X3g,X4g,ow2g,f1g,rfl⟩
    ·have p5g:=zN hz7a e0b
     have f6g:=ifN p5g hr4b
     refine wp_cond_false (Ai (evb rfl e0b))<|wp_exit ?_
     simp only [Exit.then,Exit.inBlock,↓reduceIte,Nat.reduceEqDiff]
     obtain rfl:=sj f6g
     exact ⟨_,rfl,(tk [t0a 0,t0a 1,.int .i64 v2a,.bool z7a,t0a 3,t0a 4,t0a 5,t0a 6,t0a 7,t0a 8,t0a 9,t0a 10,t0a 11,t0a 12,t0a 13,t0a 14,t0a 15,t0a 16,t0a 17,t0a 18,t0a 19,t0a 20,t0a 21,t0a 22,t0a 23,t0a 24,t0a 25,t0a 26,t0a 27]),X1b,X5c,ow6c,rfl⟩
  ·rintro _ w3 ⟨t1a,X5d,X8h,ow6d,rfl⟩ _ rfl
   refine h2c _ _<|wp_seq_k fun K7d h7d=>Ae<|sV (Aa rfl) ?_
   obtain ⟨r7g,h8g,f9g⟩:=Ab f7e
   refine sc (Af Kl (by simp only [OW.len ow6d];rfl)) (EM m3b A4a (((wi64 ((x0.length:Int) - (wi64 (x1.tdiv 32)))):Int).toNat) w3 (tbx X5d hT) (OW.rl ow6d) r7g h8g) ?_
   rintro _ w4 E0h ⟨A1h,c2h,rfl,n3h⟩
   refine nrm ?_
   have X4h:=xtr X5d E0h
   refine sV (Ac rfl) ?_
   refine Ad<|h7d _ _<|wp_ret ?_
   obtain rfl:=sj f9g
   exact fin rfl (Res.tmp rfl Res.nil) (Ak X4h ⟨A1h,c2h,rfl,n3h⟩)
theorem c_nat_limbs_short (x0:List Int) (x1:Int) (A1:Option Addr) (c2:Nat) (w:World) (hT:TB w) (n3:RLu w A1 c2 x0) (r:List Int × List Int) (hr:Fc x0 x1=some r) :
  Calls Tryz.prog 267 #[.slice A1 x0.length c2,.int .u32 x1] w (Ret Kc w r):=by
 unfold Fc at hr
 go_enter Tryz.func267,Tryz.ntmps267
 refine wp_seq_k fun K4 h4=>Ae<|sV (Ac rfl) ?_
 refine sV (Ac rfl) ?_
 refine Ad<|h4 _ _<|wp_seq_k fun K5 h5=>Ae<|sV (Aa rfl) ?_
 refine sV (Ax AU rfl) ?_
 obtain ⟨_,h6,f7⟩:=Ab hr
 have gd8:=Ay h6
 refine Gx AU CO rfl rfl gd8 fun A9 w1 E9c ow0d=>?_
 refine nrm ?_
 refine sV (Ac rfl) ?_
 refine Ad<|h5 _ _<|wp_seq_k fun K2b h2b=>Ae<|sV (Ac rfl) ?_
 refine Ad<|h2b _ _<|wp_seq_k fun K3b h3b=>wp_seq_k fun K4b h4b=>Ae<|sV (Aa rfl) ?_
 refine sV (Ax AU rfl) ?_
 refine sV (AV (c:=wi64 ((x0.length:Int) - 1)) rfl rfl rfl) ?_
 refine sV (Ac rfl) ?_
 refine Ad<|h4b _ _ ?_
 obtain ⟨m6a,h1d,f2d⟩:=Ab f7
 refine BZ (fun l l' w'=>∃(t1a:Nat→Value),Ext w w'∧OW 179 w.heap.size w' A9 (((x0.length:Int):Int).toNat) (((x0.length:Int):Int).toNat) m6a.2∧l'=[.slice A1 x0.length c2,.int .u32 x1,uu,uu,.slice none 0 0,.slice none 0 0,.slice A9 (((x0.length:Int):Int).toNat) (((x0.length:Int):Int).toNat),.int .u64 m6a.1,t1a 0,.slice A1 x0.length c2,.int .i64 (x0.length:Int),.slice A9 (((x0.length:Int):Int).toNat) (((x0.length:Int):Int).toNat),.slice A1 x0.length c2,.int .i64 (x0.length:Int),.int .i64 (wi64 ((x0.length:Int) - 1)),t1a 1,t1a 2,t1a 3,t1a 4,t1a 5,t1a 6,t1a 7,t1a 8,t1a 9,t1a 10,t1a 11,t1a 12,t1a 13,t1a 14,t1a 15,t1a 16,t1a 17,t1a 18,t1a 19,t1a 20,t1a 21,t1a 22,t1a 23,t1a 24,uu,uu,uu,uu]) ?_ ?_
 ·apply wp_block
  refine AR (fun l n5b l' w'=>∃(v2a:Int) (v3a:Int) (v7a:List Int) (t0a:Nat→Value),Ext w w'∧OW 179 w.heap.size w' A9 (((x0.length:Int):Int).toNat) (((x0.length:Int):Int).toNat) v7a∧DN x0 x1 n5b v2a v3a v7a=some m6a∧l'=[.slice A1 x0.length c2,.int .u32 x1,uu,uu,.slice none 0 0,.slice none 0 0,.slice A9 (((x0.length:Int):Int).toNat) (((x0.length:Int):Int).toNat),.int .u64 v2a,.int .i64 v3a,.slice A1 x0.length c2,.int .i64 (x0.length:Int),.slice A9 (((x0.length:Int):Int).toNat) (((x0.length:Int):Int).toNat),.slice A1 x0.length c2,.int .i64 (x0.length:Int),.int .i64 (wi64 ((x0.length:Int) - 1)),t0a 0,t0a 1,t0a 2,t0a 3,t0a 4,t0a 5,t0a 6,t0a 7,t0a 8,t0a 9,t0a 10,t0a 11,t0a 12,t0a 13,t0a 14,t0a 15,t0a 16,t0a 17,t0a 18,t0a 19,t0a 20,t0a 21,t0a 22,t0a 23,uu,uu,uu,uu]) 18446744073709551616 ?_ ?_ ?_
  ·exact ⟨0,(wi64 ((x0.length:Int) - 1)),(List.replicate ((x0.length:Int):Int).toNat (0:Int)),(tk [uu,uu,uu,uu,uu,uu,uu,uu,uu,uu,uu,uu,uu,uu,uu,uu,uu,uu,uu,uu,uu,uu,uu,uu]),E9c,ow0d,h1d,rfl⟩
  ·rintro l' w' ⟨v2a,v3a,v7a,t0a,_,_,hz,_⟩
   exact nomatch hz
  ·rintro n5b ih3d _ w2 ⟨v2a,v3a,v7a,t0a,X0b,ow9a,hr1b,rfl⟩ _ rfl
   unfold DN at hr1b
   refine Ba<|wp_seq_k fun K6b h6b=>wp_seq_k fun K7b h7b=>Ae<|sV (Aa rfl) ?_
   refine sb (Fl rfl rfl) fun z5a hz5a=>?_
   refine nrm ?_
   refine Ad<|h7b _ _ ?_
   rcases bft z5a with e8a | e8a
   ·have p4d:=zP hz5a e8a
    have f5d:=ifP p4d hr1b
    refine wp_cond_true (Ai (evb rfl e8a))<|wp_skip<|h6b _ _<|wp_seq_k fun K8b h8b=>?_
    apply wp_block
    refine wp_seq_k fun K9b h9b=>Ae<|sV (Aa rfl) ?_
    refine sV (HM (c:=wu64 (v2a*2^min (32:Int).toNat IntKind.u64.bits)) (by decide) rfl rfl rfl) ?_
    refine sV (Aa rfl) ?_
    refine sV (Aa rfl) ?_
    obtain ⟨u4a,h6d,f7d⟩:=Ab f5d
    obtain ⟨bb292,oo293,hA8d,ia9d,ib0e,hc295⟩:=RL.nth (n3.ext X0b) h6d
    refine sV (Ar AU An rfl rfl hA8d ia9d ib0e) ?_
    refine sV (Ag AN rfl hc295) ?_
    refine sV (AG (c:=wu64 u4a) AH AF rfl rfl) ?_
    refine sV (Lg rfl rfl) ?_
    refine sV (Ac rfl) ?_
    refine Ad<|h9b _ _<|wp_seq_k fun K0c h0c=>Ae<|sV (Aa rfl) ?_
    refine sV (Aa rfl) ?_
    refine sV (Aa rfl) ?_
    refine sV (Aa rfl) ?_
    refine sV (AG (c:=wu64 x1) AH AF rfl rfl) ?_
    obtain ⟨_,h1e,f2e⟩:=Ab f7d
    have gd302:=Ay h1e
    refine sV (FP (c:=wu64 ((bor .u64 (wu64 (v2a*2^min (32:Int).toNat IntKind.u64.bits)) (wu64 u4a)).tdiv (wu64 x1))) (decide_eq_true gd302) rfl rfl rfl) ?_
    refine sV (AG (c:=wu32 (wu64 ((bor .u64 (wu64 (v2a*2^min (32:Int).toNat IntKind.u64.bits)) (wu64 u4a)).tdiv (wu64 x1)))) AF AH rfl rfl) ?_
    obtain ⟨u5g,h3e,f4e⟩:=Ab f2e
    obtain ⟨bb306,hA1c,hz6g,ia2c,ib3c,hc311⟩:=OW.nthc ow9a h3e
    refine sV (Ar AU An rfl rfl hA1c ia2c ib3c) ?_
    refine JQ An rfl rfl ow9a hA1c ia2c (by rw [OW.len ow9a];exact ib3c) fun w3 B312 U7g ow5e=>?_
    have X6e:=xO X0b B312 (Nat.le_refl _)
    refine Ad<|h0c _ _<|Ae<|sV (Aa rfl) ?_
    refine sV (Aa rfl) ?_
    refine sV (AG (c:=wu64 x1) AH AF rfl rfl) ?_
    obtain ⟨_,h7e,f8e⟩:=Ab f4e
    have gd318:=Ay h7e
    refine sV (HH (c:=(bor .u64 (wu64 (v2a*2^min (32:Int).toNat IntKind.u64.bits)) (wu64 u4a)).tmod (wu64 x1)) (decide_eq_true gd318) rfl rfl rfl) ?_
    refine sV (Ac rfl) ?_
    refine Ad<|h8b _ _<|Ae<|sV (Aa rfl) ?_
    refine sV (AV (c:=wi64 (v3a - 1)) rfl rfl rfl) ?_
    refine sV (Ac rfl) ?_
    refine Ad ?_
    exact ih3d _ _ ⟨((bor .u64 (wu64 (v2a*2^min (32:Int).toNat IntKind.u64.bits)) (wu64 u4a)).tmod (wu64 x1)),(wi64 (v3a - 1)),(List.set v7a (v3a:Int).toNat (wu32 (wu64 ((bor .u64 (wu64 (v2a*2^min (32:Int).toNat IntKind.u64.bits)) (wu64 u4a)).tdiv (wu64 x1))))),(tk [.int .i64 v3a,.bool z5a,.int .i64 v3a,.int .i64 (wi64 (v3a - 1)),.int .u64 v2a,.int .u64 (wu64 (v2a*2^min (32:Int).toNat IntKind.u64.bits)),.slice A1 x0.length c2,.int .i64 v3a,.pointer (some ⟨bb292,oo293+(v3a:Int).toNat,none⟩),.int .u32 u4a,.int .u64 (wu64 u4a),.int .u64 (bor .u64 (wu64 (v2a*2^min (32:Int).toNat IntKind.u64.bits)) (wu64 u4a)),.slice A9 (((x0.length:Int):Int).toNat) (((x0.length:Int):Int).toNat),.int .i64 v3a,.int .u64 (bor .u64 (wu64 (v2a*2^min (32:Int).toNat IntKind.u64.bits)) (wu64 u4a)),.int .u32 x1,.int .u64 (wu64 x1),.int .u64 (wu64 ((bor .u64 (wu64 (v2a*2^min (32:Int).toNat IntKind.u64.bits)) (wu64 u4a)).tdiv (wu64 x1))),.int .u32 (wu32 (wu64 ((bor .u64 (wu64 (v2a*2^min (32:Int).toNat IntKind.u64.bits)) (wu64 u4a)).tdiv (wu64 x1)))),.pointer (some ⟨bb306,0+(v3a:Int).toNat,none⟩),.int .u64 (bor .u64 (wu64 (v2a*2^min (32:Int).toNat IntKind.u64.bits)) (wu64 u4a)),.int .u32 x1,.int .u64 (wu64 x1),.int .u64 ((bor .u64 (wu64 (v2a*2^min (32:Int).toNat IntKind.u64.bits)) (wu64 u4a)).tmod (wu64 x1))]),X6e,ow5e,f8e,rfl⟩
   ·have p9e:=zN hz5a e8a
    have f0f:=ifN p9e hr1b
    refine wp_cond_false (Ai (evb rfl e8a))<|wp_exit ?_
    simp only [Exit.then,Exit.inBlock,↓reduceIte,Nat.reduceEqDiff]
    obtain rfl:=sj f0f
    exact ⟨_,rfl,(tk [.int .i64 v3a,.int .i64 v3a,.bool z5a,t0a 2,t0a 3,t0a 4,t0a 5,t0a 6,t0a 7,t0a 8,t0a 9,t0a 10,t0a 11,t0a 12,t0a 13,t0a 14,t0a 15,t0a 16,t0a 17,t0a 18,t0a 19,t0a 20,t0a 21,t0a 22,t0a 23]),X0b,ow9a,rfl⟩
 ·rintro _ w2 ⟨t1a,X4c,ow5c,rfl⟩ _ rfl
  refine h3b _ _<|wp_seq_k fun K6c h6c=>Ae<|sV (Aa rfl) ?_
  obtain ⟨r1f,h2f,f3f⟩:=Ab f2d
  refine sc (Af Kl (by simp only [OW.len ow5c];rfl)) (EM m6a.2 A9 (((x0.length:Int):Int).toNat) w2 (tbx X4c hT) (OW.rl ow5c) r1f h2f) ?_
  rintro _ w3 E4f ⟨A5f,c6f,rfl,n7f⟩
  refine nrm ?_
  have X7c:=xtr X4c E4f
  refine sV (Aa rfl) ?_
  obtain ⟨r8f,h9f,f0g⟩:=Ab f3f
  refine sc (Af en_282 (by rfl)) (c_nat_of m6a.1 w3 (tbx X7c hT)  r8f h9f) ?_
  rintro _ w4 E8c ⟨A1g,c2g,rfl,n3g⟩
  refine nrm ?_
  have X4g:=xtr X7c E8c
  refine sV (Ac rfl) ?_
  refine sV (Ac rfl) ?_
  refine Ad<|h6c _ _<|wp_ret ?_
  obtain rfl:=sj f0g
  exact fin rfl (Res.tmp rfl (Res.tmp rfl Res.nil)) (Ak X4g ⟨A5f,c6f,A1g,c2g,rfl,(n7f.ext E8c),n3g⟩)
theorem c_nat_takes (x0:List Int) (x1:List Int) (x2:Int) (A1:Option Addr) (c2:Nat) (A4:Option Addr) (c5:Nat) (bp0:Nat) (pre ys:List Int) (w:World) (hT:TB w) (q0:WN 179 bp0 pre ys w A1 x0.length c2 x0) (hb0:bp0≠0) (n6:RLu w A4 c5 x1) (ap0:Apart A4 x1 bp0) (r:(Bool) × List Int) (hr:Im x0 x1 x2=some r) :
  Calls Tryz.prog 283 #[.slice A1 x0.length c2,.slice A4 x1.length c5,.int .u64 x2] w (RetW 179 bp0 pre ys x0.length Fe w r):=by
 unfold Im at hr
 go_enter Tryz.func283,Tryz.ntmps283
 refine wp_seq_k fun K7 h7=>Ae<|sV (Ac rfl) ?_
 refine Ad<|h7 _ _<|wp_seq_k fun K8 h8=>Ae<|sV (Ac rfl) ?_
 refine sV (Ac rfl) ?_
 refine Ad<|h8 _ _<|wp_seq_k fun K9 h9=>wp_seq_k fun K6b h6b=>Ae<|sV (Aa rfl) ?_
 refine sV (Ax AU rfl) ?_
 refine sV (Aa rfl) ?_
 refine Ad<|h6b _ _ ?_
 obtain ⟨m2b,h1d,f2d⟩:=Ab hr
 refine BZ (fun l l' w'=>∃(t1a:Nat→Value),UpdS [bp0] w w'∧WN 179 bp0 pre ys w' A1 x0.length c2 m2b.2∧l'=[.slice A1 x0.length c2,.slice A4 x1.length c5,.int .u64 x2,uu,uu,uu,.bool false,t1a 0,.int .u64 m2b.1,t1a 1,t1a 2,.slice A1 x0.length c2,.int .i64 ((x0.length:Nat):Int),t1a 3,t1a 4,t1a 5,t1a 6,t1a 7,t1a 8,t1a 9,t1a 10,t1a 11,t1a 12,t1a 13,t1a 14,t1a 15,t1a 16,t1a 17,t1a 18,t1a 19,t1a 20,t1a 21,t1a 22,t1a 23,t1a 24,t1a 25,t1a 26,t1a 27,t1a 28,t1a 29,t1a 30,t1a 31,t1a 32,t1a 33,uu,uu]) ?_ ?_
 ·apply wp_block
  refine AR (fun l n7b l' w'=>∃(v2a:Int) (v5a:Int) (v4a:Int) (v8a:List Int) (t0a:Nat→Value),UpdS [bp0] w w'∧WN 179 bp0 pre ys w' A1 x0.length c2 v8a∧EJ x0 x1 x2 n7b v2a v5a v4a v8a=some m2b∧l'=[.slice A1 x0.length c2,.slice A4 x1.length c5,.int .u64 x2,uu,uu,uu,.bool false,.int .u64 v2a,.int .u64 v5a,t0a 0,t0a 1,.slice A1 x0.length c2,.int .i64 ((x0.length:Nat):Int),.int .i64 v4a,t0a 2,t0a 3,t0a 4,t0a 5,t0a 6,t0a 7,t0a 8,t0a 9,t0a 10,t0a 11,t0a 12,t0a 13,t0a 14,t0a 15,t0a 16,t0a 17,t0a 18,t0a 19,t0a 20,t0a 21,t0a 22,t0a 23,t0a 24,t0a 25,t0a 26,t0a 27,t0a 28,t0a 29,t0a 30,t0a 31,uu,uu]) 18446744073709551616 ?_ ?_ ?_
  ·exact ⟨0,0,0,x0,(tk [uu,uu,uu,uu,uu,uu,uu,uu,uu,uu,uu,uu,uu,uu,uu,uu,uu,uu,uu,uu,uu,uu,uu,uu,uu,uu,uu,uu,uu,uu,uu,uu]),(UpdS.refl [bp0] w),q0,h1d,rfl⟩
  ·rintro l' w' ⟨v2a,v5a,v4a,v8a,t0a,_,_,hz,_⟩
   exact nomatch hz
  ·rintro n7b ih3d _ w1 ⟨v2a,v5a,v4a,v8a,t0a,X3b,ow9a,hr4b,rfl⟩ _ rfl
   unfold EJ at hr4b
   refine Ba<|wp_seq_k fun K8b h8b=>Ae<|sb (CK rfl rfl) fun z7a hz7a=>?_
   refine nrm ?_
   refine Ad<|h8b _ _<|wp_seq_k fun K9b h9b=>?_
   rcases bft z7a with e0b | e0b
   ·have p4d:=zP hz7a e0b
    have f5d:=ifP p4d hr4b
    refine wp_cond_true (Ai (evb rfl e0b))<|wp_skip<|h9b _ _<|wp_seq_k fun K0c h0c=>?_
    apply wp_block
    refine wp_seq_k fun K1c h1c=>Ae<|sV (Aa rfl) ?_
    refine sV (Ac rfl) ?_
    refine Ad<|h1c _ _<|wp_seq_k fun K2c h2c=>Ae<|sV (Aa rfl) ?_
    refine sV (Aa rfl) ?_
    refine sV (Aa rfl) ?_
    refine sV (Aa rfl) ?_
    obtain ⟨r3a,h6d,f7d⟩:=Ab f5d
    refine sc (Af Lr (by rfl)) (GT x1 v4a A4 c5 w1 (TB.updW X3b hb0 hT) (RL.updW n6 X3b ap0) r3a h6d) ?_
    rintro _ w2 E1b rfl
    refine nrm ?_
    have X8d:=UpdS.ext X3b E1b
    refine sV (HZ (c:=wu64 (x2*r3a)) rfl rfl rfl) ?_
    refine sV (AO (c:=wu64 (v2a+(wu64 (x2*r3a)))) rfl rfl rfl) ?_
    refine sV (Ac rfl) ?_
    refine Ad<|h2c _ _<|wp_seq_k fun K3c h3c=>Ae<|sV (Aa rfl) ?_
    refine sV (Aa rfl) ?_
    obtain ⟨u6a,h9d,f0e⟩:=Ab f7d
    obtain ⟨bb301,hA1e,hz2f,ia2e,ib3e,hc306⟩:=WN.nthc (ow9a.ext E1b) h9d
    refine sV (Ar AU An rfl rfl hA1e ia2e ib3e) ?_
    refine sV (Ag AN rfl hc306) ?_
    refine sV (AG (c:=wu64 u6a) AH AF rfl rfl) ?_
    refine sV (Aa rfl) ?_
    refine sV (AG (c:=wu32 (wu64 (v2a+(wu64 (x2*r3a))))) AF AH rfl rfl) ?_
    refine sV (AG (c:=wu64 (wu32 (wu64 (v2a+(wu64 (x2*r3a)))))) AH AF rfl rfl) ?_
    refine sV (AV (c:=wu64 ((wu64 u6a) - (wu64 (wu32 (wu64 (v2a+(wu64 (x2*r3a)))))))) rfl rfl rfl) ?_
    refine sV (Aa rfl) ?_
    refine sV (AV (c:=wu64 ((wu64 ((wu64 u6a) - (wu64 (wu32 (wu64 (v2a+(wu64 (x2*r3a)))))))) - v5a)) rfl rfl rfl) ?_
    refine sV (Ac rfl) ?_
    refine Ad<|h3c _ _<|wp_seq_k fun K4c h4c=>Ae<|sV (Aa rfl) ?_
    refine sV (Aa rfl) ?_
    refine sV (Aa rfl) ?_
    refine sV (AG (c:=wu32 (wu64 ((wu64 ((wu64 u6a) - (wu64 (wu32 (wu64 (v2a+(wu64 (x2*r3a)))))))) - v5a))) AF AH rfl rfl) ?_
    obtain ⟨u3f,h4e,f5e⟩:=Ab f0e
    obtain ⟨bb311,hA5c,hz4f,ia6c,ib7c,hc316⟩:=WN.nthc (ow9a.ext E1b) h4e
    refine sV (Ar AU An rfl rfl hA5c ia6c ib7c) ?_
    refine Nd An rfl rfl (ow9a.ext E1b) hA5c ia6c (by rw [WN.len (ow9a.ext E1b)];exact ib7c) fun w3 U6e ow7e=>?_
    have X8e:=UpdS.tr X8d U6e
    refine Ad<|h4c _ _<|wp_seq_k fun K8c h8c=>Ae<|sV (Aa rfl) ?_
    refine sV (Gu (c:=(wu64 ((wu64 ((wu64 u6a) - (wu64 (wu32 (wu64 (v2a+(wu64 (x2*r3a)))))))) - v5a)).fdiv (2^min (63:Int).toNat IntKind.u64.bits)) (by decide) rfl rfl rfl) ?_
    refine sV (Ac rfl) ?_
    refine Ad<|h8c _ _<|Ae<|sV (Aa rfl) ?_
    refine sV (Gu (c:=(wu64 (v2a+(wu64 (x2*r3a)))).fdiv (2^min (32:Int).toNat IntKind.u64.bits)) (by decide) rfl rfl rfl) ?_
    refine sV (Ac rfl) ?_
    refine Ad<|h0c _ _<|Ae<|sV (AO (c:=wi64 (v4a+1)) rfl rfl rfl) ?_
    refine sV (Aa rfl) ?_
    refine Ad ?_
    exact ih3d _ _ ⟨((wu64 (v2a+(wu64 (x2*r3a)))).fdiv (2^min (32:Int).toNat IntKind.u64.bits)),((wu64 ((wu64 ((wu64 u6a) - (wu64 (wu32 (wu64 (v2a+(wu64 (x2*r3a)))))))) - v5a)).fdiv (2^min (63:Int).toNat IntKind.u64.bits)),(wi64 (v4a+1)),(List.set v8a (v4a:Int).toNat (wu32 (wu64 ((wu64 ((wu64 u6a) - (wu64 (wu32 (wu64 (v2a+(wu64 (x2*r3a)))))))) - v5a)))),(tk [.int .i64 v4a,.int .u64 (wu64 ((wu64 ((wu64 u6a) - (wu64 (wu32 (wu64 (v2a+(wu64 (x2*r3a)))))))) - v5a)),.bool z7a,.int .i64 v4a,.int .u64 v2a,.int .u64 x2,.slice A4 x1.length c5,.int .i64 v4a,.int .u64 r3a,.int .u64 (wu64 (x2*r3a)),.int .u64 (wu64 (v2a+(wu64 (x2*r3a)))),.slice A1 x0.length c2,.int .i64 v4a,.pointer (some ⟨bb301,List.length pre+(v4a:Int).toNat,none⟩),.int .u32 u6a,.int .u64 (wu64 u6a),.int .u64 (wu64 (v2a+(wu64 (x2*r3a)))),.int .u32 (wu32 (wu64 (v2a+(wu64 (x2*r3a))))),.int .u64 (wu64 (wu32 (wu64 (v2a+(wu64 (x2*r3a)))))),.int .u64 (wu64 ((wu64 u6a) - (wu64 (wu32 (wu64 (v2a+(wu64 (x2*r3a)))))))),.int .u64 v5a,.int .u64 (wu64 ((wu64 ((wu64 u6a) - (wu64 (wu32 (wu64 (v2a+(wu64 (x2*r3a)))))))) - v5a)),.slice A1 x0.length c2,.int .i64 v4a,.int .u64 (wu64 ((wu64 ((wu64 u6a) - (wu64 (wu32 (wu64 (v2a+(wu64 (x2*r3a)))))))) - v5a)),.int .u32 (wu32 (wu64 ((wu64 ((wu64 u6a) - (wu64 (wu32 (wu64 (v2a+(wu64 (x2*r3a)))))))) - v5a))),.pointer (some ⟨bb311,List.length pre+(v4a:Int).toNat,none⟩),.int .u64 (wu64 ((wu64 ((wu64 u6a) - (wu64 (wu32 (wu64 (v2a+(wu64 (x2*r3a)))))))) - v5a)),.int .u64 ((wu64 ((wu64 ((wu64 u6a) - (wu64 (wu32 (wu64 (v2a+(wu64 (x2*r3a)))))))) - v5a)).fdiv (2^min (63:Int).toNat IntKind.u64.bits)),.int .u64 (wu64 (v2a+(wu64 (x2*r3a)))),.int .u64 ((wu64 (v2a+(wu64 (x2*r3a)))).fdiv (2^min (32:Int).toNat IntKind.u64.bits)),.int .i64 (wi64 (v4a+1))]),X8e,ow7e,f5e,rfl⟩
   ·have p9e:=zN hz7a e0b
    have f0f:=ifN p9e hr4b
    refine wp_cond_false (Ai (evb rfl e0b))<|wp_exit ?_
    simp only [Exit.then,Exit.inBlock,↓reduceIte,Nat.reduceEqDiff]
    obtain rfl:=sj f0f
    exact ⟨_,rfl,(tk [.int .u64 v2a,t0a 0,t0a 1,.int .i64 v4a,.bool z7a,t0a 3,t0a 4,t0a 5,t0a 6,t0a 7,t0a 8,t0a 9,t0a 10,t0a 11,t0a 12,t0a 13,t0a 14,t0a 15,t0a 16,t0a 17,t0a 18,t0a 19,t0a 20,t0a 21,t0a 22,t0a 23,t0a 24,t0a 25,t0a 26,t0a 27,t0a 28,t0a 29,t0a 30,t0a 31]),X3b,ow9a,rfl⟩
 ·rintro _ w1 ⟨t1a,X1f,ow9c,rfl⟩ _ rfl
  refine h9 _ _<|wp_seq_k fun K0d h0d=>Ae<|sV (Aa rfl) ?_
  refine sb (Eu rfl rfl) fun z5b hz5b=>?_
  refine nrm ?_
  refine sV (Ac rfl) ?_
  refine Ad<|h0d _ _<|wp_ret ?_
  obtain rfl:z5b=decide (0<m2b.1):=bz hz5b
  obtain rfl:=sj f2d
  exact fin rfl (Res.tmp rfl Res.nil) ⟨X1f,WN.len ow9c,WN.bx ow9c,_,rfl,rfl⟩
set_option maxRecDepth 20000 in
theorem c_nat_estimate (x0:List Int) (x1:List Int) (A1:Option Addr) (c2:Nat) (A4:Option Addr) (c5:Nat) (bp0:Nat) (pre ys:List Int) (w:World) (hT:TB w) (q0:WN 179 bp0 pre ys w A1 x0.length c2 x0) (hb0:bp0≠0) (n6:RLu w A4 c5 x1) (ap0:Apart A4 x1 bp0) (r:(Int) × List Int) (hr:Gf x0 x1=some r) :
  Calls Tryz.prog 268 #[.slice A1 x0.length c2,.slice A4 x1.length c5] w (RetW 179 bp0 pre ys x0.length Nb w r):=by
 unfold Gf at hr
 refine KU Tryz.func268 rfl [.slice A1 x0.length c2,.slice A4 x1.length c5,uu,uu,uu,uu,uu,uu,uu,uu,uu,uu,uu,uu,uu,uu,uu,uu,uu,uu,uu,uu,uu,uu,uu,uu,uu,uu,uu,uu,uu,uu,uu,uu,uu,uu,uu,uu,uu,uu,uu,uu,uu,uu,uu,uu,uu,uu,uu,uu,uu,uu,uu,uu,uu,uu,uu,uu,uu,uu,uu,uu,uu,uu,uu,uu,uu,uu,uu,uu,uu,uu,uu,uu,uu,uu,uu,uu,uu,uu,uu,uu,uu,uu,uu,uu,uu,uu,uu,uu,uu,uu,uu,uu,uu,uu,uu,uu,uu,uu,uu,uu,uu,uu,uu,uu,uu,uu,uu] (by kernel_rfl) ?_
 refine wp_seq_k fun K7 h7=>Ae<|sV (Ac rfl) ?_
 refine Ad<|h7 _ _<|wp_seq_k fun K8 h8=>Ae<|sV (Aa rfl) ?_
 refine sV (Ax AU rfl) ?_
 refine sV (Ac rfl) ?_
 refine Ad<|h8 _ _<|wp_seq_k fun K9 h9=>EE [] 14 mo rfl fun w1 E6b S0e=>have X7h:=UpdS.ext (UpdS.refl [bp0] w) E6b;dA 0 rfl (fun _=>Aa rfl) ?_
 refine dA 1 rfl (fun _=>Aa rfl) ?_
 obtain ⟨u3a,h8h,f9h⟩:=Ab hr
 obtain ⟨bb16,hA0i,hz1q,ia1i,ib2i,hc21⟩:=WN.nthc (q0.ext E6b) h8h
 refine dA 2 rfl (fun _=>Ar AU An rfl rfl hA0i ia1i ib2i) ?_
 refine dV 3 rfl (fun _ hw=>Ag AN rfl (Cv hc21 hw)) S0e ?_
 refine dA 4 rfl (fun _=>AG (c:=wu64 u3a) AH AF rfl rfl) ?_
 refine dA 5 rfl (fun _=>HM (c:=wu64 ((wu64 u3a)*2^min (32:Int).toNat IntKind.u64.bits)) (by decide) rfl rfl rfl) ?_
 refine dA 6 rfl (fun _=>Aa rfl) ?_
 refine dA 7 rfl (fun _=>Aa rfl) ?_
 refine dA 8 rfl (fun _=>AV (c:=wi64 ((x1.length:Int) - 1)) rfl rfl rfl) ?_
 obtain ⟨u5a,h3i,f4i⟩:=Ab f9h
 obtain ⟨bb25,hA5i,hz2q,ia6i,ib7i,hc30⟩:=WN.nthc (q0.ext E6b) h3i
 refine dA 9 rfl (fun _=>Ar AU An rfl rfl hA5i ia6i ib7i) ?_
 refine dV 10 rfl (fun _ hw=>Ag AN rfl (Cv hc30 hw)) S0e ?_
 refine dA 11 rfl (fun _=>AG (c:=wu64 u5a) AH AF rfl rfl) ?_
 refine dA 12 rfl (fun _=>Lg rfl rfl) ?_
 refine dA 13 rfl (fun _=>Ac rfl) ?_
 refine Dm (by kernel_rfl) ?_
 refine h9 _ _<|wp_seq_k fun K1e h1e=>Ae<|sV (Aa rfl) ?_
 refine sV (Aa rfl) ?_
 refine sV (Aa rfl) ?_
 refine sV (AV (c:=wi64 ((x1.length:Int) - 1)) rfl rfl rfl) ?_
 obtain ⟨u32,h8i,f9i⟩:=Ab f4i
 obtain ⟨bb35,oo36,hA0j,ia1j,ib2j,hc38⟩:=RL.nth (n6.ext E6b) h8i
 refine sV (Ar AU An rfl rfl hA0j ia1j ib2j) ?_
 refine sV (Ag AN rfl hc38) ?_
 refine sV (AG (c:=wu64 u32) AH AF rfl rfl) ?_
 obtain ⟨_,h3j,f4j⟩:=Ab f9i
 have gd44:=Ay h3j
 refine sV (FP (c:=wu64 ((bor .u64 (wu64 ((wu64 u3a)*2^min (32:Int).toNat IntKind.u64.bits)) (wu64 u5a)).tdiv (wu64 u32))) (decide_eq_true gd44) rfl rfl rfl) ?_
 refine sV (MS rfl rfl) ?_
 refine sV (Ac rfl) ?_
 refine Ad<|h1e _ _<|wp_seq_k fun K2e h2e=>wp_seq_k fun K3e h3e=>Ae<|sV (Aa rfl) ?_
 refine sV (Aa rfl) ?_
 refine sV (Aa rfl) ?_
 refine sV (Aa rfl) ?_
 refine sV (AV (c:=wi64 ((x1.length:Int) - 1)) rfl rfl rfl) ?_
 obtain ⟨u1b,h5j,f6j⟩:=Ab f4j
 obtain ⟨bb50,oo51,hA7j,ia8j,ib9j,hc53⟩:=RL.nth (n6.ext E6b) h5j
 refine sV (Ar AU An rfl rfl hA7j ia8j ib9j) ?_
 refine sV (Ag AN rfl hc53) ?_
 refine sV (AG (c:=wu64 u1b) AH AF rfl rfl) ?_
 refine sV (HZ (c:=wu64 ((min (wu64 ((bor .u64 (wu64 ((wu64 u3a)*2^min (32:Int).toNat IntKind.u64.bits)) (wu64 u5a)).tdiv (wu64 u32))) 4294967295)*(wu64 u1b))) rfl rfl rfl) ?_
 refine sV (AV (c:=wu64 ((bor .u64 (wu64 ((wu64 u3a)*2^min (32:Int).toNat IntKind.u64.bits)) (wu64 u5a)) - (wu64 ((min (wu64 ((bor .u64 (wu64 ((wu64 u3a)*2^min (32:Int).toNat IntKind.u64.bits)) (wu64 u5a)).tdiv (wu64 u32))) 4294967295)*(wu64 u1b))))) rfl rfl rfl) ?_
 refine sV (Ac rfl) ?_
 refine Ad<|h3e _ _ ?_
 obtain ⟨m8b,h0k,f1k⟩:=Ab f6j
 refine BZ (fun l l' w'=>∃(t0a:Nat→Value),Ext w1 w'∧l'=[.slice A1 x0.length c2,.slice A4 x1.length c5,uu,uu,.int .u32 0,.int .i64 (x1.length:Int),.int .u64 (bor .u64 (wu64 ((wu64 u3a)*2^min (32:Int).toNat IntKind.u64.bits)) (wu64 u5a)),.int .u64 m8b,t0a 0,uu,uu,.slice A4 x1.length c5,.int .i64 (x1.length:Int),.slice A1 x0.length c2,.int .i64 (x1.length:Int),.pointer (some ⟨bb16,List.length pre+((x1.length:Int):Int).toNat,none⟩),.int .u32 u3a,.int .u64 (wu64 u3a),.int .u64 (wu64 ((wu64 u3a)*2^min (32:Int).toNat IntKind.u64.bits)),.slice A1 x0.length c2,.int .i64 (x1.length:Int),.int .i64 (wi64 ((x1.length:Int) - 1)),.pointer (some ⟨bb25,List.length pre+((wi64 ((x1.length:Int) - 1)):Int).toNat,none⟩),.int .u32 u5a,.int .u64 (wu64 u5a),.int .u64 (bor .u64 (wu64 ((wu64 u3a)*2^min (32:Int).toNat IntKind.u64.bits)) (wu64 u5a)),.int .u64 (bor .u64 (wu64 ((wu64 u3a)*2^min (32:Int).toNat IntKind.u64.bits)) (wu64 u5a)),.slice A4 x1.length c5,.int .i64 (x1.length:Int),.int .i64 (wi64 ((x1.length:Int) - 1)),.pointer (some ⟨bb35,oo36+((wi64 ((x1.length:Int) - 1)):Int).toNat,none⟩),.int .u32 u32,.int .u64 (wu64 u32),.int .u64 (wu64 ((bor .u64 (wu64 ((wu64 u3a)*2^min (32:Int).toNat IntKind.u64.bits)) (wu64 u5a)).tdiv (wu64 u32))),.int .u64 (min (wu64 ((bor .u64 (wu64 ((wu64 u3a)*2^min (32:Int).toNat IntKind.u64.bits)) (wu64 u5a)).tdiv (wu64 u32))) 4294967295),.int .u64 (bor .u64 (wu64 ((wu64 u3a)*2^min (32:Int).toNat IntKind.u64.bits)) (wu64 u5a)),.int .u64 (min (wu64 ((bor .u64 (wu64 ((wu64 u3a)*2^min (32:Int).toNat IntKind.u64.bits)) (wu64 u5a)).tdiv (wu64 u32))) 4294967295),.slice A4 x1.length c5,.int .i64 (x1.length:Int),.int .i64 (wi64 ((x1.length:Int) - 1)),.pointer (some ⟨bb50,oo51+((wi64 ((x1.length:Int) - 1)):Int).toNat,none⟩),.int .u32 u1b,.int .u64 (wu64 u1b),.int .u64 (wu64 ((min (wu64 ((bor .u64 (wu64 ((wu64 u3a)*2^min (32:Int).toNat IntKind.u64.bits)) (wu64 u5a)).tdiv (wu64 u32))) 4294967295)*(wu64 u1b))),.int .u64 (wu64 ((bor .u64 (wu64 ((wu64 u3a)*2^min (32:Int).toNat IntKind.u64.bits)) (wu64 u5a)) - (wu64 ((min (wu64 ((bor .u64 (wu64 ((wu64 u3a)*2^min (32:Int).toNat IntKind.u64.bits)) (wu64 u5a)).tdiv (wu64 u32))) 4294967295)*(wu64 u1b))))),t0a 1,t0a 2,t0a 3,t0a 4,t0a 5,t0a 6,t0a 7,t0a 8,t0a 9,t0a 10,t0a 11,t0a 12,t0a 13,t0a 14,t0a 15,t0a 16,t0a 17,t0a 18,t0a 19,t0a 20,t0a 21,t0a 22,t0a 23,t0a 24,t0a 25,t0a 26,t0a 27,t0a 28,t0a 29,t0a 30,t0a 31,t0a 32,uu,uu,uu,uu,uu,uu,uu,uu,uu,uu,uu,uu,uu,uu,uu,uu,uu,uu,uu,uu,uu,uu,uu,uu,uu,uu,uu,uu,uu,uu,uu,uu]) ?_ ?_
 ·apply wp_block
  refine AR (fun l n4e l' w'=>∃(v5b:Int) (v9a:Int) (t6a:Nat→Value),Ext w1 w'∧EN x0 x1 n4e v5b v9a=some m8b∧l'=[.slice A1 x0.length c2,.slice A4 x1.length c5,uu,uu,.int .u32 0,.int .i64 (x1.length:Int),.int .u64 (bor .u64 (wu64 ((wu64 u3a)*2^min (32:Int).toNat IntKind.u64.bits)) (wu64 u5a)),.int .u64 v5b,.int .u64 v9a,uu,uu,.slice A4 x1.length c5,.int .i64 (x1.length:Int),.slice A1 x0.length c2,.int .i64 (x1.length:Int),.pointer (some ⟨bb16,List.length pre+((x1.length:Int):Int).toNat,none⟩),.int .u32 u3a,.int .u64 (wu64 u3a),.int .u64 (wu64 ((wu64 u3a)*2^min (32:Int).toNat IntKind.u64.bits)),.slice A1 x0.length c2,.int .i64 (x1.length:Int),.int .i64 (wi64 ((x1.length:Int) - 1)),.pointer (some ⟨bb25,List.length pre+((wi64 ((x1.length:Int) - 1)):Int).toNat,none⟩),.int .u32 u5a,.int .u64 (wu64 u5a),.int .u64 (bor .u64 (wu64 ((wu64 u3a)*2^min (32:Int).toNat IntKind.u64.bits)) (wu64 u5a)),.int .u64 (bor .u64 (wu64 ((wu64 u3a)*2^min (32:Int).toNat IntKind.u64.bits)) (wu64 u5a)),.slice A4 x1.length c5,.int .i64 (x1.length:Int),.int .i64 (wi64 ((x1.length:Int) - 1)),.pointer (some ⟨bb35,oo36+((wi64 ((x1.length:Int) - 1)):Int).toNat,none⟩),.int .u32 u32,.int .u64 (wu64 u32),.int .u64 (wu64 ((bor .u64 (wu64 ((wu64 u3a)*2^min (32:Int).toNat IntKind.u64.bits)) (wu64 u5a)).tdiv (wu64 u32))),.int .u64 (min (wu64 ((bor .u64 (wu64 ((wu64 u3a)*2^min (32:Int).toNat IntKind.u64.bits)) (wu64 u5a)).tdiv (wu64 u32))) 4294967295),.int .u64 (bor .u64 (wu64 ((wu64 u3a)*2^min (32:Int).toNat IntKind.u64.bits)) (wu64 u5a)),.int .u64 (min (wu64 ((bor .u64 (wu64 ((wu64 u3a)*2^min (32:Int).toNat IntKind.u64.bits)) (wu64 u5a)).tdiv (wu64 u32))) 4294967295),.slice A4 x1.length c5,.int .i64 (x1.length:Int),.int .i64 (wi64 ((x1.length:Int) - 1)),.pointer (some ⟨bb50,oo51+((wi64 ((x1.length:Int) - 1)):Int).toNat,none⟩),.int .u32 u1b,.int .u64 (wu64 u1b),.int .u64 (wu64 ((min (wu64 ((bor .u64 (wu64 ((wu64 u3a)*2^min (32:Int).toNat IntKind.u64.bits)) (wu64 u5a)).tdiv (wu64 u32))) 4294967295)*(wu64 u1b))),.int .u64 (wu64 ((bor .u64 (wu64 ((wu64 u3a)*2^min (32:Int).toNat IntKind.u64.bits)) (wu64 u5a)) - (wu64 ((min (wu64 ((bor .u64 (wu64 ((wu64 u3a)*2^min (32:Int).toNat IntKind.u64.bits)) (wu64 u5a)).tdiv (wu64 u32))) 4294967295)*(wu64 u1b))))),t6a 0,t6a 1,t6a 2,t6a 3,t6a 4,t6a 5,t6a 6,t6a 7,t6a 8,t6a 9,t6a 10,t6a 11,t6a 12,t6a 13,t6a 14,t6a 15,t6a 16,t6a 17,t6a 18,t6a 19,t6a 20,t6a 21,t6a 22,t6a 23,t6a 24,t6a 25,t6a 26,t6a 27,t6a 28,t6a 29,t6a 30,t6a 31,uu,uu,uu,uu,uu,uu,uu,uu,uu,uu,uu,uu,uu,uu,uu,uu,uu,uu,uu,uu,uu,uu,uu,uu,uu,uu,uu,uu,uu,uu,uu,uu]) 18446744073709551616 ?_ ?_ ?_
  ·exact ⟨(min (wu64 ((bor .u64 (wu64 ((wu64 u3a)*2^min (32:Int).toNat IntKind.u64.bits)) (wu64 u5a)).tdiv (wu64 u32))) 4294967295),(wu64 ((bor .u64 (wu64 ((wu64 u3a)*2^min (32:Int).toNat IntKind.u64.bits)) (wu64 u5a)) - (wu64 ((min (wu64 ((bor .u64 (wu64 ((wu64 u3a)*2^min (32:Int).toNat IntKind.u64.bits)) (wu64 u5a)).tdiv (wu64 u32))) 4294967295)*(wu64 u1b))))),(tk [uu,uu,uu,uu,uu,uu,uu,uu,uu,uu,uu,uu,uu,uu,uu,uu,uu,uu,uu,uu,uu,uu,uu,uu,uu,uu,uu,uu,uu,uu,uu,uu]),(Ext.refl _),h0k,rfl⟩
  ·rintro l' w' ⟨v5b,v9a,t6a,_,hz,_⟩
   exact nomatch hz
  ·rintro n4e ih2k _ w2 ⟨v5b,v9a,t6a,U3c,hr5e,rfl⟩ _ rfl
   unfold EN at hr5e
   refine Ba<|wp_seq_k fun K6e h6e=>wp_seq_k fun K7e h7e=>EE [] 22 mo rfl fun w3 E4c S8e=>dA 0 rfl (fun _=>Aa rfl) ?_
   refine dab 1 rfl (by kernel_rfl) (fun _ _ _ h=>h) (by rfl) (fun _=>CK rfl rfl) fun z7b hz7b=>?_
   refine dnrm ?_
   refine dA 2 rfl (fun _=>Aa rfl) ?_
   obtain ⟨m9c,h9e,f0f⟩:=Ab hr5e
   refine IC #[true,true,true,true,true,true,true,true,true,true,true,true,true,true,true,true,true,true,true,true,true,true] 0 (fun l l' w'=>∃(t1a:Nat→Value),w3=w'∧l'=(((((((((((((((((((l.set 48 (t1a 0)).set 49 (t1a 1)).set 50 (t1a 2)).set 51 (t1a 3)).set 52 (t1a 4)).set 53 (t1a 5)).set 54 (t1a 6)).set 55 (t1a 7)).set 56 (t1a 8)).set 57 (t1a 9)).set 58 (t1a 10)).set 59 (t1a 11)).set 60 (t1a 12)).set 61 (t1a 13)).set 62 (t1a 14)).set 63 (t1a 15)).set 64 (t1a 16)).set 65 (t1a 17)).set 66 (.bool m9c))) ?_ ?_
   ·intro HJ540
    rcases bft z7b with e7a | e7a
    ·have p3k:=zP hz7b e7a
     have f4k:=ifP p3k h9e
     refine dA 3 rfl (fun _=>Aa rfl) ?_ (hw:=wgT rfl e7a)
     refine dA 4 rfl (fun _=>Aa rfl) ?_ (hw:=wgT rfl e7a)
     refine dA 5 rfl (fun _=>Aa rfl) ?_ (hw:=wgT rfl e7a)
     refine dA 6 rfl (fun _=>AV (c:=wi64 ((x1.length:Int) - 2)) rfl rfl rfl) ?_ (hw:=wgT rfl e7a)
     have n5k:=((n6.ext E6b).ext U3c).ext E4c
     obtain ⟨u9b,h6k,f7k⟩:=Ab f4k
     obtain ⟨bb550,oo551,hA8k,ia9k,ib0l,hc553⟩:=RL.nth n5k h6k
     refine dA 7 rfl (fun _=>Ar AU An rfl rfl hA8k ia9k ib0l) ?_ (hw:=wgT rfl e7a)
     refine dV 8 rfl (fun _ hw=>Ag AN rfl (Cv hc553 hw)) S8e ?_ (hw:=wgT rfl e7a)
     refine dA 9 rfl (fun _=>AG (c:=wu64 u9b) AH AF rfl rfl) ?_ (hw:=wgT rfl e7a)
     refine dA 10 rfl (fun _=>HZ (c:=wu64 (v5b*(wu64 u9b))) rfl rfl rfl) ?_ (hw:=wgT rfl e7a)
     refine dA 11 rfl (fun _=>Aa rfl) ?_ (hw:=wgT rfl e7a)
     refine dA 12 rfl (fun _=>HM (c:=wu64 (v9a*2^min (32:Int).toNat IntKind.u64.bits)) (by decide) rfl rfl rfl) ?_ (hw:=wgT rfl e7a)
     refine dA 13 rfl (fun _=>Aa rfl) ?_ (hw:=wgT rfl e7a)
     refine dA 14 rfl (fun _=>Aa rfl) ?_ (hw:=wgT rfl e7a)
     refine dA 15 rfl (fun _=>AV (c:=wi64 ((x1.length:Int) - 2)) rfl rfl rfl) ?_ (hw:=wgT rfl e7a)
     have ow1l:=((q0.ext E6b).ext U3c).ext E4c
     obtain ⟨u0c,h2l,f3l⟩:=Ab f7k
     obtain ⟨bb560,hA4l,hz3q,ia5l,ib6l,hc565⟩:=WN.nthc ow1l h2l
     refine dA 16 rfl (fun _=>Ar AU An rfl rfl hA4l ia5l ib6l) ?_ (hw:=wgT rfl e7a)
     refine dV 17 rfl (fun _ hw=>Ag AN rfl (Cv hc565 hw)) S8e ?_ (hw:=wgT rfl e7a)
     refine dA 18 rfl (fun _=>AG (c:=wu64 u0c) AH AF rfl rfl) ?_ (hw:=wgT rfl e7a)
     refine dA 19 rfl (fun _=>Lg rfl rfl) ?_ (hw:=wgT rfl e7a)
     refine dab 20 rfl (by kernel_rfl) (fun _ _ _ h=>h) (wgT rfl e7a) (fun _=>Eu rfl rfl) fun z1d hz1d=>?_
     refine dnrm ?_
     refine dA 21 rfl (fun _=>Aw (evb rfl e7a) rfl) ?_
     obtain rfl:z1d=decide ((bor .u64 (wu64 (v9a*2^min (32:Int).toNat IntKind.u64.bits)) (wu64 u0c))<(wu64 (v5b*(wu64 u9b)))):=bz hz1d
     obtain rfl:=sj f3l
     exact EP (by kernel_rfl) (HJ540 _ _ ⟨(tk [.int .u64 v5b,.slice A4 x1.length c5,.int .i64 (x1.length:Int),.int .i64 (wi64 ((x1.length:Int) - 2)),.pointer (some ⟨bb550,oo551+((wi64 ((x1.length:Int) - 2)):Int).toNat,none⟩),.int .u32 u9b,.int .u64 (wu64 u9b),.int .u64 (wu64 (v5b*(wu64 u9b))),.int .u64 v9a,.int .u64 (wu64 (v9a*2^min (32:Int).toNat IntKind.u64.bits)),.slice A1 x0.length c2,.int .i64 (x1.length:Int),.int .i64 (wi64 ((x1.length:Int) - 2)),.pointer (some ⟨bb560,List.length pre+((wi64 ((x1.length:Int) - 2)):Int).toNat,none⟩),.int .u32 u0c,.int .u64 (wu64 u0c),.int .u64 (bor .u64 (wu64 (v9a*2^min (32:Int).toNat IntKind.u64.bits)) (wu64 u0c)),.bool (decide ((bor .u64 (wu64 (v9a*2^min (32:Int).toNat IntKind.u64.bits)) (wu64 u0c))<(wu64 (v5b*(wu64 u9b)))))]),(by trivial),(by simp only [S0,S1]<;>rfl)⟩)
    ·have p7l:=zN hz7b e7a
     have f8l:=ifN p7l h9e
     refine dP 3 rfl ?_ (hw:=wgF rfl e7a)
     refine dP 4 rfl ?_ (hw:=wgF rfl e7a)
     refine dP 5 rfl ?_ (hw:=wgF rfl e7a)
     refine dP 6 rfl ?_ (hw:=wgF rfl e7a)
     refine dP 7 rfl ?_ (hw:=wgF rfl e7a)
     refine dP 8 rfl ?_ (hw:=wgF rfl e7a)
     refine dP 9 rfl ?_ (hw:=wgF rfl e7a)
     refine dP 10 rfl ?_ (hw:=wgF rfl e7a)
     refine dP 11 rfl ?_ (hw:=wgF rfl e7a)
     refine dP 12 rfl ?_ (hw:=wgF rfl e7a)
     refine dP 13 rfl ?_ (hw:=wgF rfl e7a)
     refine dP 14 rfl ?_ (hw:=wgF rfl e7a)
     refine dP 15 rfl ?_ (hw:=wgF rfl e7a)
     refine dP 16 rfl ?_ (hw:=wgF rfl e7a)
     refine dP 17 rfl ?_ (hw:=wgF rfl e7a)
     refine dP 18 rfl ?_ (hw:=wgF rfl e7a)
     refine dP 19 rfl ?_ (hw:=wgF rfl e7a)
     refine dP 20 rfl ?_ (hw:=wgF rfl e7a)
     refine dA 21 rfl (fun _=>AB (evb rfl e7a) rfl) ?_
     obtain rfl:=sj f8l
     exact EP (by kernel_rfl) (HJ540 _ _ ⟨(tk [uu,uu,uu,uu,uu,uu,uu,uu,uu,uu,uu,uu,uu,uu,uu,uu,uu,uu]),(by trivial),(by simp only [S0,S1]<;>rfl)⟩)
   ·rintro l' _ ⟨t1a,rfl,hq'⟩ l'' hl
    rw [hq'] at hl
    clear hq'
    simp only [S0,S1] at hl
    subst hl
    refine Dm (by kernel_rfl) ?_
    refine h7e _ _ ?_
    rcases bft m9c with e5c | e5c
    ·have p9l:=e5c
     have f0m:=ifP p9l f0f
     refine wp_cond_true (Ai (evb rfl e5c))<|wp_skip<|h6e _ _<|wp_seq_k fun K1f h1f=>?_
     apply wp_block
     refine Ae<|sV (Aa rfl) ?_
     refine sV (AV (c:=wu64 (v5b - 1)) rfl rfl rfl) ?_
     refine sV (Ac rfl) ?_
     refine Ad<|h1f _ _<|Ae<|sV (Aa rfl) ?_
     refine sV (Aa rfl) ?_
     refine sV (Aa rfl) ?_
     refine sV (AV (c:=wi64 ((x1.length:Int) - 1)) rfl rfl rfl) ?_
     have n1m:=((n6.ext E6b).ext U3c).ext E4c
     obtain ⟨u1c,h2m,f3m⟩:=Ab f0m
     obtain ⟨bb582,oo583,hA4m,ia5m,ib6m,hc585⟩:=RL.nth n1m h2m
     refine sV (Ar AU An rfl rfl hA4m ia5m ib6m) ?_
     refine sV (Ag AN rfl hc585) ?_
     refine sV (AG (c:=wu64 u1c) AH AF rfl rfl) ?_
     refine sV (AO (c:=wu64 (v9a+(wu64 u1c))) rfl rfl rfl) ?_
     refine sV (Ac rfl) ?_
     refine Ad ?_
     exact ih2k _ _ ⟨(wu64 (v5b - 1)),(wu64 (v9a+(wu64 u1c))),(tk [.int .u64 v9a,.bool z7b,.bool z7b,t1a 0,t1a 1,t1a 2,t1a 3,t1a 4,t1a 5,t1a 6,t1a 7,t1a 8,t1a 9,t1a 10,t1a 11,t1a 12,t1a 13,t1a 14,t1a 15,t1a 16,t1a 17,.bool m9c,.int .u64 v9a,.slice A4 x1.length c5,.int .i64 (x1.length:Int),.int .i64 (wi64 ((x1.length:Int) - 1)),.pointer (some ⟨bb582,oo583+((wi64 ((x1.length:Int) - 1)):Int).toNat,none⟩),.int .u32 u1c,.int .u64 (wu64 u1c),.int .u64 (wu64 (v9a+(wu64 u1c))),.int .u64 v5b,.int .u64 (wu64 (v5b - 1))]),(U3c.trans E4c),f3m,rfl⟩
    ·have p7m:=bF e5c
     have f8m:=ifN p7m f0f
     refine wp_cond_false (Ai (evb rfl e5c))<|wp_exit ?_
     simp only [Exit.then,Exit.inBlock,↓reduceIte,Nat.reduceEqDiff]
     obtain rfl:=sj f8m
     exact ⟨_,rfl,(tk [.int .u64 v9a,.int .u64 v9a,.bool z7b,.bool z7b,t1a 0,t1a 1,t1a 2,t1a 3,t1a 4,t1a 5,t1a 6,t1a 7,t1a 8,t1a 9,t1a 10,t1a 11,t1a 12,t1a 13,t1a 14,t1a 15,t1a 16,t1a 17,.bool m9c,t6a 22,t6a 23,t6a 24,t6a 25,t6a 26,t6a 27,t6a 28,t6a 29,t6a 30,t6a 31]),(U3c.trans E4c),rfl⟩
 ·rintro _ w2 ⟨t0a,U2d,rfl⟩ _ rfl
  have X2f:=UpdS.ext X7h U2d
  refine h2e _ _<|wp_seq_k fun K3f h3f=>wp_seq_k fun K4f h4f=>Ae<|sV (Aa rfl) ?_
  refine sV (Aa rfl) ?_
  refine sV (Aa rfl) ?_
  have ow5f:=(q0.ext E6b).ext U2d
  obtain ⟨r0d,h9m,f0n⟩:=Ab f1k
  refine scK (Af en_283 (by rfl)) (c_nat_takes x0 x1 m8b A1 c2 A4 c5 bp0 pre ys w2 (TB.updW X2f hb0 hT) ow5f hb0 ((n6.ext E6b).ext U2d) ap0 r0d h9m) ?_
  rintro _ w3 ⟨U1n,hl597,q2n,_,rfl,rfl⟩
  refine ⟨_,rfl,?_⟩
  refine nrm ?_
  have ow6f:=WN.upd ow5f hl597 q2n
  have X7f:=UpdS.tr X2f U1n
  refine Ad<|h4f _ _ ?_
  obtain ⟨m3d,h8f,f3n⟩:=Ab f0n
  refine BZ (fun l l' w'=>∃(t8a:Nat→Value),UpdS [bp0] w w'∧WN 179 bp0 pre ys w' A1 x0.length c2 m3d.2∧l'=[.slice A1 x0.length c2,.slice A4 x1.length c5,uu,uu,.int .u32 0,.int .i64 (x1.length:Int),.int .u64 (bor .u64 (wu64 ((wu64 u3a)*2^min (32:Int).toNat IntKind.u64.bits)) (wu64 u5a)),.int .u64 m3d.1,t0a 0,t8a 0,t8a 1,.slice A4 x1.length c5,.int .i64 (x1.length:Int),.slice A1 x0.length c2,.int .i64 (x1.length:Int),.pointer (some ⟨bb16,List.length pre+((x1.length:Int):Int).toNat,none⟩),.int .u32 u3a,.int .u64 (wu64 u3a),.int .u64 (wu64 ((wu64 u3a)*2^min (32:Int).toNat IntKind.u64.bits)),.slice A1 x0.length c2,.int .i64 (x1.length:Int),.int .i64 (wi64 ((x1.length:Int) - 1)),.pointer (some ⟨bb25,List.length pre+((wi64 ((x1.length:Int) - 1)):Int).toNat,none⟩),.int .u32 u5a,.int .u64 (wu64 u5a),.int .u64 (bor .u64 (wu64 ((wu64 u3a)*2^min (32:Int).toNat IntKind.u64.bits)) (wu64 u5a)),.int .u64 (bor .u64 (wu64 ((wu64 u3a)*2^min (32:Int).toNat IntKind.u64.bits)) (wu64 u5a)),.slice A4 x1.length c5,.int .i64 (x1.length:Int),.int .i64 (wi64 ((x1.length:Int) - 1)),.pointer (some ⟨bb35,oo36+((wi64 ((x1.length:Int) - 1)):Int).toNat,none⟩),.int .u32 u32,.int .u64 (wu64 u32),.int .u64 (wu64 ((bor .u64 (wu64 ((wu64 u3a)*2^min (32:Int).toNat IntKind.u64.bits)) (wu64 u5a)).tdiv (wu64 u32))),.int .u64 (min (wu64 ((bor .u64 (wu64 ((wu64 u3a)*2^min (32:Int).toNat IntKind.u64.bits)) (wu64 u5a)).tdiv (wu64 u32))) 4294967295),.int .u64 (bor .u64 (wu64 ((wu64 u3a)*2^min (32:Int).toNat IntKind.u64.bits)) (wu64 u5a)),.int .u64 (min (wu64 ((bor .u64 (wu64 ((wu64 u3a)*2^min (32:Int).toNat IntKind.u64.bits)) (wu64 u5a)).tdiv (wu64 u32))) 4294967295),.slice A4 x1.length c5,.int .i64 (x1.length:Int),.int .i64 (wi64 ((x1.length:Int) - 1)),.pointer (some ⟨bb50,oo51+((wi64 ((x1.length:Int) - 1)):Int).toNat,none⟩),.int .u32 u1b,.int .u64 (wu64 u1b),.int .u64 (wu64 ((min (wu64 ((bor .u64 (wu64 ((wu64 u3a)*2^min (32:Int).toNat IntKind.u64.bits)) (wu64 u5a)).tdiv (wu64 u32))) 4294967295)*(wu64 u1b))),.int .u64 (wu64 ((bor .u64 (wu64 ((wu64 u3a)*2^min (32:Int).toNat IntKind.u64.bits)) (wu64 u5a)) - (wu64 ((min (wu64 ((bor .u64 (wu64 ((wu64 u3a)*2^min (32:Int).toNat IntKind.u64.bits)) (wu64 u5a)).tdiv (wu64 u32))) 4294967295)*(wu64 u1b))))),t0a 1,t0a 2,t0a 3,t0a 4,t0a 5,t0a 6,t0a 7,t0a 8,t0a 9,t0a 10,t0a 11,t0a 12,t0a 13,t0a 14,t0a 15,t0a 16,t0a 17,t0a 18,t0a 19,t0a 20,t0a 21,t0a 22,t0a 23,t0a 24,t0a 25,t0a 26,t0a 27,t0a 28,t0a 29,t0a 30,t0a 31,t0a 32,.slice A1 x0.length c2,.slice A4 x1.length c5,.int .u64 m8b,.bool r0d.1,t8a 2,t8a 3,t8a 4,t8a 5,t8a 6,t8a 7,t8a 8,t8a 9,t8a 10,t8a 11,t8a 12,t8a 13,t8a 14,t8a 15,t8a 16,t8a 17,t8a 18,t8a 19,t8a 20,t8a 21,t8a 22,t8a 23,t8a 24,t8a 25,t8a 26,t8a 27,uu,uu]) ?_ ?_
  ·rcases bft r0d.1 with e6c | e6c
   ·have p4n:=e6c
    have f5n:=ifP p4n h8f
    refine wp_cond_true (Ai (evb rfl e6c))<|wp_seq_k fun K9f h9f=>Ae<|sV (Aa rfl) ?_
    refine sV (AV (c:=wu64 (m8b - 1)) rfl rfl rfl) ?_
    refine sV (Ac rfl) ?_
    refine Ad<|h9f _ _<|wp_seq_k fun K0g h0g=>Ae<|sV (Ac rfl) ?_
    refine Ad<|h0g _ _<|wp_seq_k fun K1g h1g=>Ae<|sV (Aa rfl) ?_
    refine sV (Ax AU rfl) ?_
    refine sV (Aa rfl) ?_
    refine Ad<|h1g _ _ ?_
    obtain ⟨m2g,h6n,f7n⟩:=Ab f5n
    refine BZ (fun l l' w'=>∃(t2a:Nat→Value),UpdS [bp0] w w'∧WN 179 bp0 pre ys w' A1 x0.length c2 m2g∧l'=((((((((((((((((((((((((l.set 9 (t2a 0)).set 10 (t2a 1)).set 85 (t2a 2)).set 86 (t2a 3)).set 87 (t2a 4)).set 88 (t2a 5)).set 89 (t2a 6)).set 90 (t2a 7)).set 91 (t2a 8)).set 92 (t2a 9)).set 93 (t2a 10)).set 94 (t2a 11)).set 95 (t2a 12)).set 96 (t2a 13)).set 97 (t2a 14)).set 98 (t2a 15)).set 99 (t2a 16)).set 100 (t2a 17)).set 101 (t2a 18)).set 102 (t2a 19)).set 103 (t2a 20)).set 104 (t2a 21)).set 105 (t2a 22)).set 106 (t2a 23))) ?_ ?_
    ·apply wp_block
     refine AR (fun l n3g l' w'=>∃(v2b:Int) (v0b:Int) (v7c:List Int) (t4a:Nat→Value),UpdS [bp0] w w'∧WN 179 bp0 pre ys w' A1 x0.length c2 v7c∧DB x0 x1 n3g v2b v0b v7c=some m2g∧l'=((((((((((((((((((((((((l.set 9 (.int .u64 v2b)).set 10 (t4a 0)).set 85 (.int .i64 v0b)).set 86 (t4a 1)).set 87 (t4a 2)).set 88 (t4a 3)).set 89 (t4a 4)).set 90 (t4a 5)).set 91 (t4a 6)).set 92 (t4a 7)).set 93 (t4a 8)).set 94 (t4a 9)).set 95 (t4a 10)).set 96 (t4a 11)).set 97 (t4a 12)).set 98 (t4a 13)).set 99 (t4a 14)).set 100 (t4a 15)).set 101 (t4a 16)).set 102 (t4a 17)).set 103 (t4a 18)).set 104 (t4a 19)).set 105 (t4a 20)).set 106 (t4a 21))) 18446744073709551616 ?_ ?_ ?_
     ·exact ⟨0,0,r0d.2,(tk [uu,uu,uu,uu,uu,uu,uu,uu,uu,uu,uu,uu,uu,uu,uu,uu,uu,uu,uu,uu,uu,uu]),X7f,ow6f,h6n,(by simp only [S0,S1]<;>rfl)⟩
     ·rintro l' w' ⟨v2b,v0b,v7c,t4a,_,_,hz,_⟩
      exact nomatch hz
     ·rintro n3g ih8n l' w4 ⟨v2b,v0b,v7c,t4a,X4g,ow4d,hr5d,hq'⟩ l'' hl
      rw [hq'] at hl
      clear hq'
      simp only [S0,S1] at hl
      subst hl
      unfold DB at hr5d
      refine Ba<|wp_seq_k fun K5g h5g=>Ae<|sb (CK rfl rfl) fun z2c hz2c=>?_
      refine nrm ?_
      refine Ad<|h5g _ _<|wp_seq_k fun K6g h6g=>?_
      rcases bft z2c with e8c | e8c
      ·have p9n:=zP hz2c e8c
       have f0o:=ifP p9n hr5d
       refine wp_cond_true (Ai (evb rfl e8c))<|wp_skip<|h6g _ _<|wp_seq_k fun K7g h7g=>?_
       apply wp_block
       refine wp_seq_k fun K8g h8g=>Ae<|sV (Aa rfl) ?_
       refine sV (Ac rfl) ?_
       refine Ad<|h8g _ _<|wp_seq_k fun K9g h9g=>EE [] 12 mo rfl fun w5 E6d S0h=>have X7d:=UpdS.ext X4g E6d;dA 0 rfl (fun _=>Aa rfl) ?_
       refine dA 1 rfl (fun _=>Aa rfl) ?_
       refine dA 2 rfl (fun _=>Aa rfl) ?_
       obtain ⟨u3b,h1o,f2o⟩:=Ab f0o
       obtain ⟨bb1251,hA3o,hz4q,ia4o,ib5o,hc1256⟩:=WN.nthc (ow4d.ext E6d) h1o
       refine dA 3 rfl (fun _=>Ar AU An rfl rfl hA3o ia4o ib5o) ?_
       refine dV 4 rfl (fun _ hw=>Ag AN rfl (Cv hc1256 hw)) S0h ?_
       refine dA 5 rfl (fun _=>AG (c:=wu64 u3b) AH AF rfl rfl) ?_
       refine dA 6 rfl (fun _=>Aa rfl) ?_
       refine dA 7 rfl (fun _=>Aa rfl) ?_
       obtain ⟨r4b,h6o,f7o⟩:=Ab f2o
       refine dc 8 rfl (by kernel_rfl) (by rfl) (Af Lr (by rfl)) (GT x1 v0b A4 c5 w5 (TB.updW X7d hb0 hT) (RL.updW n6 X7d ap0) r4b h6o) ?_
       rintro _ w6 E8d rfl
       refine dnrm ?_
       have X8o:=UpdS.ext X7d E8d
       have S5q:=S0h.trans E8d
       refine dA 9 rfl (fun _=>AO (c:=wu64 ((wu64 u3b)+r4b)) rfl rfl rfl) ?_
       refine dA 10 rfl (fun _=>AO (c:=wu64 (v2b+(wu64 ((wu64 u3b)+r4b)))) rfl rfl rfl) ?_
       refine dA 11 rfl (fun _=>Ac rfl) ?_
       refine Dm (by kernel_rfl) ?_
       refine h9g _ _<|wp_seq_k fun K1h h1h=>Ae<|sV (Aa rfl) ?_
       refine sV (Aa rfl) ?_
       refine sV (Aa rfl) ?_
       refine sV (AG (c:=wu32 (wu64 (v2b+(wu64 ((wu64 u3b)+r4b))))) AF AH rfl rfl) ?_
       have ow9d:=(ow4d.ext E6d).ext E8d
       obtain ⟨u6q,h9o,f0p⟩:=Ab f7o
       obtain ⟨bb1268,hA2h,hz7q,ia3h,ib4h,hc1273⟩:=WN.nthc ow9d h9o
       refine sV (Ar AU An rfl rfl hA2h ia3h ib4h) ?_
       refine Nd An rfl rfl ow9d hA2h ia3h (by rw [WN.len ow9d];exact ib4h) fun w7 U1p ow2p=>?_
       have X3p:=UpdS.tr X8o U1p
       refine Ad<|h1h _ _<|Ae<|sV (Aa rfl) ?_
       refine sV (Gu (c:=(wu64 (v2b+(wu64 ((wu64 u3b)+r4b)))).fdiv (2^min (32:Int).toNat IntKind.u64.bits)) (by decide) rfl rfl rfl) ?_
       refine sV (Ac rfl) ?_
       refine Ad<|h7g _ _<|Ae<|sV (AO (c:=wi64 (v0b+1)) rfl rfl rfl) ?_
       refine sV (Aa rfl) ?_
       refine Ad ?_
       exact ih8n _ _ ⟨((wu64 (v2b+(wu64 ((wu64 u3b)+r4b)))).fdiv (2^min (32:Int).toNat IntKind.u64.bits)),(wi64 (v0b+1)),(List.set v7c (v0b:Int).toNat (wu32 (wu64 (v2b+(wu64 ((wu64 u3b)+r4b)))))),(tk [.int .i64 v0b,.bool z2c,.int .i64 v0b,.int .u64 v2b,.slice A1 x0.length c2,.int .i64 v0b,.pointer (some ⟨bb1251,List.length pre+(v0b:Int).toNat,none⟩),.int .u32 u3b,.int .u64 (wu64 u3b),.slice A4 x1.length c5,.int .i64 v0b,.int .u64 r4b,.int .u64 (wu64 ((wu64 u3b)+r4b)),.int .u64 (wu64 (v2b+(wu64 ((wu64 u3b)+r4b)))),.slice A1 x0.length c2,.int .i64 v0b,.int .u64 (wu64 (v2b+(wu64 ((wu64 u3b)+r4b)))),.int .u32 (wu32 (wu64 (v2b+(wu64 ((wu64 u3b)+r4b))))),.pointer (some ⟨bb1268,List.length pre+(v0b:Int).toNat,none⟩),.int .u64 (wu64 (v2b+(wu64 ((wu64 u3b)+r4b)))),.int .u64 ((wu64 (v2b+(wu64 ((wu64 u3b)+r4b)))).fdiv (2^min (32:Int).toNat IntKind.u64.bits)),.int .i64 (wi64 (v0b+1))]),X3p,ow2p,f0p,(by simp only [S0,S1]<;>rfl)⟩
      ·have p4p:=zN hz2c e8c
       have f5p:=ifN p4p hr5d
       refine wp_cond_false (Ai (evb rfl e8c))<|wp_exit ?_
       simp only [Exit.then,Exit.inBlock,↓reduceIte,Nat.reduceEqDiff]
       obtain rfl:=sj f5p
       exact ⟨_,rfl,(tk [.int .u64 v2b,t4a 0,.int .i64 v0b,.bool z2c,t4a 2,t4a 3,t4a 4,t4a 5,t4a 6,t4a 7,t4a 8,t4a 9,t4a 10,t4a 11,t4a 12,t4a 13,t4a 14,t4a 15,t4a 16,t4a 17,t4a 18,t4a 19,t4a 20,t4a 21]),X4g,ow4d,(by simp only [S0,S1]<;>rfl)⟩
    ·rintro l' w4 ⟨t2a,X6p,ow7p,hq'⟩ l'' hl
     rw [hq'] at hl
     clear hq'
     simp only [S0,S1] at hl
     subst hl
     obtain rfl:=sj f7n
     exact ⟨_,rfl,(tk [t2a 0,t2a 1,.int .u64 m8b,.int .u64 (wu64 (m8b - 1)),.slice A1 x0.length c2,.int .i64 ((x0.length:Nat):Int),t2a 2,t2a 3,t2a 4,t2a 5,t2a 6,t2a 7,t2a 8,t2a 9,t2a 10,t2a 11,t2a 12,t2a 13,t2a 14,t2a 15,t2a 16,t2a 17,t2a 18,t2a 19,t2a 20,t2a 21,t2a 22,t2a 23]),X6p,ow7p,rfl⟩
   ·have p8p:=bF e6c
    have f9p:=ifN p8p h8f
    refine wp_cond_false (Ai (evb rfl e6c))<|wp_skip ?_
    obtain rfl:=sj f9p
    exact ⟨_,rfl,(tk [uu,uu,uu,uu,uu,uu,uu,uu,uu,uu,uu,uu,uu,uu,uu,uu,uu,uu,uu,uu,uu,uu,uu,uu,uu,uu,uu,uu]),X7f,ow6f,rfl⟩
  ·rintro _ w4 ⟨t8a,X0q,ow5h,rfl⟩ _ rfl
   refine h3f _ _<|wp_seq_k fun K6h h6h=>Ae<|sV (Aa rfl) ?_
   refine sV (AG (c:=wu32 m3d.1) AF AH rfl rfl) ?_
   refine sV (Ac rfl) ?_
   refine Ad<|h6h _ _<|wp_ret ?_
   obtain rfl:=sj f3n
   exact fin rfl (Res.tmp rfl Res.nil) ⟨X0q,WN.len ow5h,WN.bx ow5h,_,rfl,rfl⟩
theorem Hj (x0:List Int) (x1:List Int) (A1:Option Addr) (c2:Nat) (A4:Option Addr) (c5:Nat) (w:World) (hT:TB w) (n3:RLu w A1 c2 x0) (n6:RLu w A4 c5 x1) (r:List Int × List Int) (hr:BV x0 x1=some r) :
  Calls Tryz.prog 244 #[.slice A1 x0.length c2,.slice A4 x1.length c5] w (Ret Kc w r):=by
 unfold BV at hr
 go_enter Tryz.func244,Tryz.ntmps244
 refine wp_seq_k fun K7 h7=>Ae<|sV (Ac rfl) ?_
 refine sV (Ac rfl) ?_
 refine Ad<|h7 _ _<|wp_seq_k fun K8 h8=>?_
 apply wp_block
 refine wp_seq_k fun K9 h9=>Ae<|sV (Aa rfl) ?_
 refine sV (Ax AU rfl) ?_
 refine sb (BE rfl rfl) fun z5a hz5a=>?_
 refine nrm ?_
 refine sV (Ac rfl) ?_
 refine Ad<|h9 _ _ ?_
 rcases bft z5a with e8a | e8a
 ·have p1h:=zP hz5a e8a
  have f2h:=ifP p1h hr
  refine wp_cond_true (Ai (evb rfl e8a))<|wp_seq_k fun K2d h2d=>Ae<|sV (Aa rfl) ?_
  refine sV (Aa rfl) ?_
  obtain ⟨u3h,h4h,f5h⟩:=Ab f2h
  obtain ⟨bb504,oo505,hA6h,ia7h,ib8h,hc507⟩:=RL.nth n6 h4h
  refine sV (Ar AU An rfl rfl hA6h ia7h ib8h) ?_
  refine sV (Ag AN rfl hc507) ?_
  obtain ⟨r9h,h0i,f1i⟩:=Ab f5h
  refine sc (Af en_267 (by rfl)) (c_nat_limbs_short x0 u3h A1 c2 w hT n3 r9h h0i) ?_
  rintro _ w1 E2i ⟨A3i,c4i,A5i,c6i,rfl,n7i,n8i⟩
  refine nrm ?_
  refine sV (AK rfl rfl) ?_
  refine sV (AK rfl rfl) ?_
  refine sV (Ac rfl) ?_
  refine sV (Ac rfl) ?_
  refine Ad<|h2d _ _<|wp_ret ?_
  obtain rfl:=sj f1i
  exact fin rfl (Res.tmp rfl (Res.tmp rfl Res.nil)) (Ak E2i ⟨A3i,c4i,A5i,c6i,rfl,n7i,n8i⟩)
 ·have p9i:=zN hz5a e8a
  have f0j:=ifN p9i hr
  refine wp_cond_false (Ai (evb rfl e8a))<|wp_seq_k fun K3d h3d=>Ae<|sV (Aa rfl) ?_
  refine sV (Aa rfl) ?_
  obtain ⟨r1j,h2j,f4d⟩:=Ab f0j
  refine sc (Af NE (by rfl)) (HB x0 x1 A1 c2 A4 c5 w hT n3 n6 r1j h2j) ?_
  rintro _ w1 E9a rfl
  refine nrm ?_
  refine sb (CK rfl rfl) fun z4b hz4b=>?_
  refine nrm ?_
  refine sV (Ac rfl) ?_
  refine Ad<|h3d _ _ ?_
  rcases bft z4b with e0b | e0b
  ·have p3j:=zP hz4b e0b
   have f4j:=ifP p3j f4d
   refine wp_cond_true (Ai (evb rfl e0b))<|wp_seq_k fun K5d h5d=>Ae<|sV (Aa rfl) ?_
   refine sV (Ac rfl) ?_
   refine sV (Ac rfl) ?_
   refine Ad<|h5d _ _<|wp_ret ?_
   obtain rfl:=sj f4j
   exact fin rfl (Res.tmp rfl (Res.tmp rfl Res.nil)) (Ak E9a ⟨none,0,A1,c2,rfl,(RL.nil _ _ _),(n3.ext E9a)⟩)
  ·have p5j:=zN hz4b e0b
   have f6j:=ifN p5j f4d
   refine wp_cond_false (Ai (evb rfl e0b))<|wp_skip<|h8 _ _<|wp_seq_k fun K6d h6d=>Ae<|sV (Aa rfl) ?_
   refine sV (Aa rfl) ?_
   refine sV (Ax AU rfl) ?_
   refine sV (AV (c:=wi64 ((x1.length:Int) - 1)) rfl rfl rfl) ?_
   obtain ⟨u7j,h8j,f9j⟩:=Ab f6j
   obtain ⟨bb60,oo61,hA0k,ia1k,ib2k,hc63⟩:=RL.nth (n6.ext E9a) h8j
   refine sV (Ar AU An rfl rfl hA0k ia1k ib2k) ?_
   refine sV (Ag AN rfl hc63) ?_
   obtain ⟨r5b,h3k,f4k⟩:=Ab f9j
   refine sc (Af Mk (by rfl)) (ER u7j w1 (tbx E9a hT)  r5b h3k) ?_
   rintro _ w2 E5k rfl
   refine nrm ?_
   have X0c:=xtr E9a E5k
   refine sV (Ac rfl) ?_
   refine Ad<|h6d _ _<|wp_seq_k fun K7d h7d=>Ae<|sV (Aa rfl) ?_
   refine sV (Aa rfl) ?_
   obtain ⟨r2a,h6k,f7k⟩:=Ab f4k
   refine sc (Af Mr (by rfl)) (GG x1 r5b A4 c5 w2 (tbx X0c hT) (n6.ext X0c) r2a h6k) ?_
   rintro _ w3 E8k ⟨A8d,c9d,rfl,n0e⟩
   refine nrm ?_
   have X6b:=xtr X0c E8k
   refine sV (Ac rfl) ?_
   refine Ad<|h7d _ _<|wp_seq_k fun K1e h1e=>Ae<|sV (Aa rfl) ?_
   refine sV (Ax AU rfl) ?_
   refine sV (Ac rfl) ?_
   refine Ad<|h1e _ _<|wp_seq_k fun K2e h2e=>Ae<|sV (Aa rfl) ?_
   refine sV (Ax AU rfl) ?_
   refine sV (AO (c:=wi64 ((x0.length:Int)+1)) rfl rfl rfl) ?_
   obtain ⟨_,h9k,f0l⟩:=Ab f7k
   have gd85:=Ay h9k
   refine Gx AU CO rfl rfl gd85 fun A7b w4 E3e ow1l=>?_
   refine nrm ?_
   have X1c:=xtr X6b E3e
   refine sV (Ac rfl) ?_
   refine Ad<|h2e _ _<|wp_seq_k fun K4e h4e=>Ae<|sV (Aa rfl) ?_
   refine sV (Aa rfl) ?_
   refine sV (Aa rfl) ?_
   obtain ⟨r2c,h2l,f3l⟩:=Ab f0l
   refine sc (Af Mr (by rfl)) (GG x0 r5b A1 c2 w4 (tbx X1c hT) (n3.ext X1c) r2c h2l) ?_
   rintro _ w5 E3c ⟨A2q,c3q,rfl,n4l⟩
   refine nrm ?_
   have X5l:=xtr X1c E3c
   have X6l:=xtr E3e E3c
   refine NA AU An rfl rfl (ow1l.ext E3c) n4l fun w6 B101 ow5e=>?_
   refine nrm ?_
   have X6e:=xO X5l B101 X6b.size
   have X7e:=xO X6l B101 (Nat.le_refl _)
   refine Ad<|h4e _ _<|wp_seq_k fun K8e h8e=>Ae<|sV (Aa rfl) ?_
   refine sV (Ax AU rfl) ?_
   refine sV (Aa rfl) ?_
   refine sV (AV (c:=wi64 ((((((wi64 ((x0.length:Int)+1)):Int).toNat):Nat):Int) - (r2a.length:Int))) rfl rfl rfl) ?_
   obtain ⟨_,h7l,f8l⟩:=Ab f3l
   have gd112:=Ay h7l
   have hl113:=OW.lt ow5e
   refine Gx AU CO rfl rfl gd112 fun A8b w7 E4c ow9l=>?_
   refine nrm ?_
   have X0m:=xtr X6e E4c
   have X1m:=xtr X7e E4c
   refine sV (Ac rfl) ?_
   refine Ad<|h8e _ _<|wp_seq_k fun K9e h9e=>wp_seq_k fun K0f h0f=>Ae<|sV (Aa rfl) ?_
   refine sV (Ax AU rfl) ?_
   refine sV (AV (c:=wi64 ((((((wi64 ((((((wi64 ((x0.length:Int)+1)):Int).toNat):Nat):Int) - (r2a.length:Int))):Int).toNat):Nat):Int) - 1)) rfl rfl rfl) ?_
   refine sV (Ac rfl) ?_
   refine Ad<|h0f _ _ ?_
   obtain ⟨m1b,h2m,f3m⟩:=Ab f8l
   refine BZ (fun l l' w'=>∃(t3a:Nat→Value),Ext w w'∧Ext w3 w'∧OW 179 w6.heap.size w' A8b (((wi64 ((((((wi64 ((x0.length:Int)+1)):Int).toNat):Nat):Int) - (r2a.length:Int))):Int).toNat) (((wi64 ((((((wi64 ((x0.length:Int)+1)):Int).toNat):Nat):Int) - (r2a.length:Int))):Int).toNat) m1b.1∧OW 179 w3.heap.size w' A7b (((wi64 ((x0.length:Int)+1)):Int).toNat) (((wi64 ((x0.length:Int)+1)):Int).toNat) m1b.2∧l'=(((((((((((((((((l.set 11 (t3a 0)).set 58 (t3a 1)).set 59 (t3a 2)).set 60 (t3a 3)).set 61 (t3a 4)).set 62 (t3a 5)).set 63 (t3a 6)).set 64 (t3a 7)).set 65 (t3a 8)).set 66 (t3a 9)).set 67 (t3a 10)).set 68 (t3a 11)).set 69 (t3a 12)).set 70 (t3a 13)).set 71 (t3a 14)).set 72 (t3a 15)).set 73 (t3a 16))) ?_ ?_
   ·apply wp_block
    refine AR (fun l n1f l' w'=>∃(v0a:Int) (v2b:List Int) (v4a:List Int) (t1a:Nat→Value),Ext w w'∧Ext w3 w'∧OW 179 w6.heap.size w' A8b (((wi64 ((((((wi64 ((x0.length:Int)+1)):Int).toNat):Nat):Int) - (r2a.length:Int))):Int).toNat) (((wi64 ((((((wi64 ((x0.length:Int)+1)):Int).toNat):Nat):Int) - (r2a.length:Int))):Int).toNat) v2b∧OW 179 w3.heap.size w' A7b (((wi64 ((x0.length:Int)+1)):Int).toNat) (((wi64 ((x0.length:Int)+1)):Int).toNat) v4a∧Dt x0 x1 r2a n1f v0a v2b v4a=some m1b∧l'=(((((((((((((((((l.set 11 (.int .i64 v0a)).set 58 (t1a 0)).set 59 (t1a 1)).set 60 (t1a 2)).set 61 (t1a 3)).set 62 (t1a 4)).set 63 (t1a 5)).set 64 (t1a 6)).set 65 (t1a 7)).set 66 (t1a 8)).set 67 (t1a 9)).set 68 (t1a 10)).set 69 (t1a 11)).set 70 (t1a 12)).set 71 (t1a 13)).set 72 (t1a 14)).set 73 (t1a 15))) 18446744073709551616 ?_ ?_ ?_
    ·exact ⟨(wi64 ((((((wi64 ((((((wi64 ((x0.length:Int)+1)):Int).toNat):Nat):Int) - (r2a.length:Int))):Int).toNat):Nat):Int) - 1)),(List.replicate ((wi64 ((((((wi64 ((x0.length:Int)+1)):Int).toNat):Nat):Int) - (r2a.length:Int))):Int).toNat (0:Int)),((r2c).take (List.length (List.replicate ((wi64 ((x0.length:Int)+1)):Int).toNat (0:Int)))++(List.replicate ((wi64 ((x0.length:Int)+1)):Int).toNat (0:Int)).drop r2c.length),(tk [uu,uu,uu,uu,uu,uu,uu,uu,uu,uu,uu,uu,uu,uu,uu,uu]),X0m,X1m,ow9l,(ow5e.ext E4c),h2m,(by simp only [S0,S1]<;>rfl)⟩
    ·rintro l' w' ⟨v0a,v2b,v4a,t1a,_,_,_,_,hz,_⟩
     exact nomatch hz
    ·rintro n1f ih4m l' w8 ⟨v0a,v2b,v4a,t1a,X5c,X6c,ow2f,ow6a,hr7c,hq'⟩ l'' hl
     rw [hq'] at hl
     clear hq'
     simp only [S0,S1] at hl
     subst hl
     unfold Dt at hr7c
     refine Ba<|wp_seq_k fun K3f h3f=>wp_seq_k fun K4f h4f=>Ae<|sV (Aa rfl) ?_
     refine sb (Fl rfl rfl) fun z7a hz7a=>?_
     refine nrm ?_
     refine Ad<|h4f _ _ ?_
     rcases bft z7a with e3b | e3b
     ·have p5m:=zP hz7a e3b
      have f6m:=ifP p5m hr7c
      refine wp_cond_true (Ai (evb rfl e3b))<|wp_skip<|h3f _ _<|wp_seq_k fun K5f h5f=>?_
      apply wp_block
      refine Ae<|sV (Aa rfl) ?_
      refine sV (Aa rfl) ?_
      refine sV (Aa rfl) ?_
      refine sV (Aa rfl) ?_
      refine sV (Aa rfl) ?_
      refine sV (Aa rfl) ?_
      refine sV (AO (c:=wi64 (v0a+(r2a.length:Int))) rfl rfl rfl) ?_
      refine sV (AO (c:=wi64 ((wi64 (v0a+(r2a.length:Int)))+1)) rfl rfl rfl) ?_
      obtain ⟨_,h7m,f8m⟩:=Ab f6m
      have gd436:=Ay h7m
      obtain ⟨b8c,ys438,hA6f,hz9m,g9c,q7f,bk443⟩:=OW.win (lo:=(v0a:Int).toNat) (hi:=((wi64 ((wi64 (v0a+(r2a.length:Int)))+1)):Int).toNat) ow6a (by omega) (by rw [←OW.len ow6a];omega)
      refine swin (lo:=(v0a:Int).toNat) (hi:=((wi64 ((wi64 (v0a+(r2a.length:Int)))+1)):Int).toNat) AU An rfl ⟨.i64,by rw [Int.toNat_of_nonneg (a:=v0a) (by omega)];rfl⟩ ⟨.i64,by rw [Int.toNat_of_nonneg (a:=(wi64 ((wi64 (v0a+(r2a.length:Int)))+1))) (by omega)];rfl⟩ (by omega) (by rw [←OW.len ow6a];omega) ow6a hA6f ?_
      refine nrm ?_
      refine sV (Aa rfl) ?_
      obtain ⟨r9b,h0n,f1n⟩:=Ab f8m
      refine scK (Af en_268 (by rfl)) (c_nat_estimate ((List.drop ((v0a:Int).toNat) v4a).take ((((wi64 ((wi64 (v0a+(r2a.length:Int)))+1)):Int).toNat) - ((v0a:Int).toNat))) r2a (some ⟨b8c,List.length ((v4a).take ((v0a:Int).toNat)),none⟩) ((((wi64 ((x0.length:Int)+1)):Int).toNat) - ((v0a:Int).toNat)) A8d c9d b8c ((v4a).take ((v0a:Int).toNat)) ys438 w8 (tbx X5c hT) ⟨rfl,rfl,q7f,by have:=OW.cap ow6a;simp only [List.length_take,List.length_drop];omega,by have:=(OW.rl ow6a).2.1;omega⟩  (TB.nz (tbx X6b hT) g9c) (n0e.ext X6c) (apartB n0e g9c) r9b h0n) ?_
      rintro _ w9 ⟨U8f,hl449,q2n,_,rfl,rfl⟩
      refine ⟨_,rfl,?_⟩
      refine nrm ?_
      have B451:=UpdS.below U8f g9c q7f.lt
      have ow3n:=bk443 _ _ (by rw [hl449];simp only [List.length_take,List.length_drop];omega) q2n
      have X4n:=xO X5c B451 X6b.size
      have X5n:=xO X6c B451 (Nat.le_refl _)
      have ow0d:=OW.updO ow2f U8f (hl113 _ hA6f hz9m)
      obtain ⟨u4q,h6n,f7n⟩:=Ab f1n
      obtain ⟨bb459,hA9f,hz5q,ia0g,ib1g,hc464⟩:=OW.nthc ow0d h6n
      refine sV (Ar AU An rfl rfl hA9f ia0g ib1g) ?_
      refine JQ An rfl rfl ow0d hA9f ia0g (by rw [OW.len ow0d];exact ib1g) fun w5a B465 U6q ow8n=>?_
      have X9n:=xO X4n B465 X6e.size
      have X0o:=xO X5n B465 X7e.size
      have ow1o:=OW.bel2 ow3n B465 hl113
      refine Ad<|h5f _ _<|Ae<|sV (Aa rfl) ?_
      refine sV (AV (c:=wi64 (v0a - 1)) rfl rfl rfl) ?_
      refine sV (Ac rfl) ?_
      refine Ad ?_
      exact ih4m _ _ ⟨(wi64 (v0a - 1)),(List.set v2b (v0a:Int).toNat r9b.1),(((v4a).take ((v0a:Int).toNat))++r9b.2++((v4a).drop (((wi64 ((wi64 (v0a+(r2a.length:Int)))+1)):Int).toNat))),(tk [.int .i64 v0a,.bool z7a,.int .i64 v0a,.int .i64 (wi64 (v0a - 1)),.slice A8b (((wi64 ((((((wi64 ((x0.length:Int)+1)):Int).toNat):Nat):Int) - (r2a.length:Int))):Int).toNat) (((wi64 ((((((wi64 ((x0.length:Int)+1)):Int).toNat):Nat):Int) - (r2a.length:Int))):Int).toNat),.int .i64 v0a,.slice A7b (((wi64 ((x0.length:Int)+1)):Int).toNat) (((wi64 ((x0.length:Int)+1)):Int).toNat),.int .i64 v0a,.int .i64 v0a,.int .i64 (r2a.length:Int),.int .i64 (wi64 (v0a+(r2a.length:Int))),.int .i64 (wi64 ((wi64 (v0a+(r2a.length:Int)))+1)),.slice (some ⟨b8c,List.length ((v4a).take ((v0a:Int).toNat)),none⟩) (List.length ((List.drop ((v0a:Int).toNat) v4a).take ((((wi64 ((wi64 (v0a+(r2a.length:Int)))+1)):Int).toNat) - ((v0a:Int).toNat)))) ((((wi64 ((x0.length:Int)+1)):Int).toNat) - ((v0a:Int).toNat)),.slice A8d r2a.length c9d,.int .u32 r9b.1,.pointer (some ⟨bb459,0+(v0a:Int).toNat,none⟩)]),X9n,X0o,ow8n,ow1o,f7n,(by simp only [S0,S1]<;>rfl)⟩
     ·have p2o:=zN hz7a e3b
      have f3o:=ifN p2o hr7c
      refine wp_cond_false (Ai (evb rfl e3b))<|wp_exit ?_
      simp only [Exit.then,Exit.inBlock,↓reduceIte,Nat.reduceEqDiff]
      obtain rfl:=sj f3o
      exact ⟨_,rfl,(tk [.int .i64 v0a,.int .i64 v0a,.bool z7a,t1a 2,t1a 3,t1a 4,t1a 5,t1a 6,t1a 7,t1a 8,t1a 9,t1a 10,t1a 11,t1a 12,t1a 13,t1a 14,t1a 15]),X5c,X6c,ow2f,ow6a,(by simp only [S0,S1]<;>rfl)⟩
   ·rintro l' w8 ⟨t3a,X2g,X7q,ow3g,ow4g,hq'⟩ l'' hl
    rw [hq'] at hl
    clear hq'
    simp only [S0,S1] at hl
    subst hl
    refine h9e _ _<|wp_seq_k fun K5g h5g=>Ae<|sV (Aa rfl) ?_
    obtain ⟨r4o,h5o,f6o⟩:=Ab f3m
    refine sc (Af Kl (by simp only [OW.len ow3g];rfl)) (EM m1b.1 A8b (((wi64 ((((((wi64 ((x0.length:Int)+1)):Int).toNat):Nat):Int) - (r2a.length:Int))):Int).toNat) w8 (tbx X2g hT) (OW.rl ow3g) r4o h5o) ?_
    rintro _ w9 E1d ⟨A7o,c8o,rfl,n9o⟩
    refine nrm ?_
    have X6g:=xtr X2g E1d
    refine sV (Aa rfl) ?_
    obtain ⟨r7g,h0p,f1p⟩:=Ab f6o
    refine sc (Af Kl (by simp only [OW.len (ow4g.ext E1d)];rfl)) (EM m1b.2 A7b (((wi64 ((x0.length:Int)+1)):Int).toNat) w9 (tbx X6g hT) (OW.rl (ow4g.ext E1d)) r7g h0p) ?_
    rintro _ w5a E8g ⟨A2p,c3p,rfl,n4p⟩
    refine nrm ?_
    have X9g:=xtr X6g E8g
    refine sV (Aa rfl) ?_
    obtain ⟨r5p,h6p,f7p⟩:=Ab f1p
    refine sc (Af Nt (by rfl)) (HA r7g r5b A2p c3p w5a (tbx X9g hT) n4p r5p h6p) ?_
    rintro _ w8q E0h ⟨A8p,c9p,rfl,n0q⟩
    refine nrm ?_
    have X1q:=xtr X9g E0h
    refine sV (Ac rfl) ?_
    refine sV (Ac rfl) ?_
    refine Ad<|h5g _ _<|wp_ret ?_
    obtain rfl:=sj f7p
    exact fin rfl (Res.tmp rfl (Res.tmp rfl Res.nil)) (Ak X1q ⟨A7o,c8o,A8p,c9p,rfl,((n9o.ext E8g).ext E0h),n0q⟩)
end Go.Proofs.Lf

