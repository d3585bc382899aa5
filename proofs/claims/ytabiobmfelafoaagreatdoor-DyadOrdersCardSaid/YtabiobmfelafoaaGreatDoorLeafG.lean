import Derived.Test.YtabiobmfelafoaaGreatDoorBack
import Derived.Test.YtabiobmfelafoaaGreatDoorLeaf2
namespace Go.Proofs.Lf
set_option linter.unusedVariables false
set_option linter.unusedSimpArgs false
set_option maxHeartbeats 4000000
open Go.RowKit Go.Sb Go.Proofs Go.Proofs.Sbn
theorem WN.upd {t b n c:Nat} {pre ys xs zs:List Int} {A:Option Addr} {w w':World} (h:WN t b pre ys w A n c xs) (hl:zs.length=xs.length) (q:Bx w' b t (us (pre++zs++ys))):WN t b pre ys w' A n c zs:=⟨hl.trans h.1,h.2.1,q,h.2.2.2⟩
theorem en_264:Ent Tryz.prog 264:=ent Tryz.func264 (by kernel_rfl) rfl
theorem en_271:Ent Tryz.prog 271:=ent Tryz.func271 (by kernel_rfl) rfl
theorem La:Ent Tryz.prog 272:=ent Tryz.func272 (by kernel_rfl) rfl
theorem en_282:Ent Tryz.prog 282:=ent Tryz.func282 (by kernel_rfl) rfl
theorem en_283:Ent Tryz.prog 283:=ent Tryz.func283 (by kernel_rfl) rfl
theorem OV:Ent Tryz.prog 251:=ent Tryz.func251 (by kernel_rfl) rfl
theorem NG:Ent Tryz.prog 226:=ent Tryz.func226 (by kernel_rfl) rfl
theorem en_268:Ent Tryz.prog 268:=ent Tryz.func268 (by kernel_rfl) rfl
theorem ON:Ent Tryz.prog 249:=ent Tryz.func249 (by kernel_rfl) rfl
theorem en_267:Ent Tryz.prog 267:=ent Tryz.func267 (by kernel_rfl) rfl
def LZ (w:World) (r:List Int × List Int) (v:Value):Prop:=∃(A1:Option Addr) (c1:Nat) (A2:Option Addr) (c2:Nat),v = .tuple #[.slice A1 r.1.length c1,.slice A2 r.2.length c2]∧RLu w A1 c1 r.1∧RLu w A2 c2 r.2
def CZ (x0:List Int) (x1:Int):Option (Int):=
 if x1<(x0.length:Int) then (nth x0 x1).bind fun u0a=>
 some (wu64 u0a) else some 0
def Lp (x0:Int):Option (List Int):=
 (Cl ([(wu32 x0),(wu32 (x0.fdiv (2^min (32:Int).toNat IntKind.u64.bits)))]:List Int)).bind fun r8=>
 some r8
def GK (x0:List Int):Option (Int):=
 if (x0.length:Int)=0 then some 0 else (nth x0 (wi64 ((x0.length:Int) - 1))).bind fun u0a=>
 (Hu u0a).bind fun r1a=>
 some (wi64 ((wi64 (32*(wi64 ((x0.length:Int) - 1))))+r1a))
def DM (x0:List Int) (x1:Int):Nat→Int→List Int→Option (List Int)
 | 0,_,_=>none
 | n2a+1,v0a,v1a=>
 if v0a<(((((wi64 ((x0.length:Int) - (wi64 (x1.tdiv 32)))):Int).toNat):Nat):Int) then (CZ x0 (wi64 (v0a+(wi64 (x1.tdiv 32))))).bind fun r3a=>
 (CZ x0 (wi64 ((wi64 (v0a+(wi64 (x1.tdiv 32))))+1))).bind fun r4a=>
 (gd (0≤(x1.tmod 32))).bind fun _=>
 (nth v1a v0a).bind fun u5a=>
 DM x0 x1 n2a (wi64 (v0a+1)) (List.set v1a (v0a:Int).toNat (wu32 ((bor .u64 r3a (wu64 (r4a*2^min (32:Int).toNat IntKind.u64.bits))).fdiv (2^min ((x1.tmod 32):Int).toNat IntKind.u64.bits)))) else some (v1a)
def DD (x0:List Int) (x1:Int):Option (List Int):=
 (GK x0).bind fun r7=>
 if r7≤x1 then some ([]:List Int) else (gd (0≤((wi64 ((x0.length:Int) - (wi64 (x1.tdiv 32)))):Int)∧((wi64 ((x0.length:Int) - (wi64 (x1.tdiv 32)))):Int)≤((wi64 ((x0.length:Int) - (wi64 (x1.tdiv 32)))):Int)∧((wi64 ((x0.length:Int) - (wi64 (x1.tdiv 32)))):Int)≤70368744177664)).bind fun _=>
 (DM x0 x1 18446744073709551616 0 (List.replicate ((wi64 ((x0.length:Int) - (wi64 (x1.tdiv 32)))):Int).toNat (0:Int))).bind fun m0a=>
 (Cl m0a).bind fun r1a=>
 some r1a
def EE (x0:List Int) (x1:Int):Nat→Int→Int→List Int→Option (Int × List Int)
 | 0,_,_,_=>none
 | n4a+1,v1a,v0a,v2a=>
 if 0≤v0a then (nth x0 v0a).bind fun u3a=>
 (gd ((wu64 x1)≠0)).bind fun _=>
 (nth v2a v0a).bind fun u5a=>
 (gd ((wu64 x1)≠0)).bind fun _=>
 EE x0 x1 n4a ((bor .u64 (wu64 (v1a*2^min (32:Int).toNat IntKind.u64.bits)) (wu64 u3a)).tmod (wu64 x1)) (wi64 (v0a - 1)) (List.set v2a (v0a:Int).toNat (wu32 (wu64 ((bor .u64 (wu64 (v1a*2^min (32:Int).toNat IntKind.u64.bits)) (wu64 u3a)).tdiv (wu64 x1))))) else some (v1a,v2a)
def Gm (x0:List Int) (x1:Int):Option (List Int × List Int):=
 (gd (0≤((x0.length:Int):Int)∧((x0.length:Int):Int)≤((x0.length:Int):Int)∧((x0.length:Int):Int)≤70368744177664)).bind fun _=>
 (EE x0 x1 18446744073709551616 0 (wi64 ((x0.length:Int) - 1)) (List.replicate ((x0.length:Int):Int).toNat (0:Int))).bind fun m0a=>
 (Cl m0a.2).bind fun r1a=>
 (Lp m0a.1).bind fun r2a=>
 some (r1a,r2a)
def FG (x0:List Int) (x1:List Int) (x2:Int):Nat→Int→Int→Int→List Int→Option (Int × List Int)
 | 0,_,_,_,_=>none
 | n6a+1,v2a,v3a,v0a,v1a=>
 if v0a<((x0.length:Nat):Int) then (CZ x1 v0a).bind fun r4a=>
 (nth v1a v0a).bind fun u5a=>
 (nth v1a v0a).bind fun u7a=>
 FG x0 x1 x2 n6a ((wu64 (v2a+(wu64 (x2*r4a)))).fdiv (2^min (32:Int).toNat IntKind.u64.bits)) ((wu64 ((wu64 ((wu64 u5a) - (wu64 (wu32 (wu64 (v2a+(wu64 (x2*r4a)))))))) - v3a)).fdiv (2^min (63:Int).toNat IntKind.u64.bits)) (wi64 (v0a+1)) (List.set v1a (v0a:Int).toNat (wu32 (wu64 ((wu64 ((wu64 u5a) - (wu64 (wu32 (wu64 (v2a+(wu64 (x2*r4a)))))))) - v3a)))) else some (v3a,v1a)
def JT (x0:List Int) (x1:List Int) (x2:Int):Option ((Bool) × List Int):=
 (FG x0 x1 x2 18446744073709551616 0 0 0 x0).bind fun m0a=>
 some ((decide (0<m0a.1)),m0a.2)
def FL (x0:List Int) (x1:List Int):Nat→Int→Int→Option (Int)
 | 0,_,_=>none
 | n2a+1,v0a,v1a=>
 (if v1a<4294967296 then (nth x1 (wi64 ((x1.length:Int) - 2))).bind fun u3a=>
 (nth x0 (wi64 ((x1.length:Int) - 2))).bind fun u4a=>
 some (decide ((bor .u64 (wu64 (v1a*2^min (32:Int).toNat IntKind.u64.bits)) (wu64 u4a))<(wu64 (v0a*(wu64 u3a))))) else some (false)).bind fun m5a=>
 if m5a=true then (nth x1 (wi64 ((x1.length:Int) - 1))).bind fun u6a=>
 FL x0 x1 n2a (wu64 (v0a - 1)) (wu64 (v1a+(wu64 u6a))) else some (v0a)
def Ep (x0:List Int) (x1:List Int):Nat→Int→Int→List Int→Option (List Int)
 | 0,_,_,_=>none
 | n5a+1,v2a,v0a,v1a=>
 if v0a<((x0.length:Nat):Int) then (nth v1a v0a).bind fun u3a=>
 (CZ x1 v0a).bind fun r4a=>
 (nth v1a v0a).bind fun u6a=>
 Ep x0 x1 n5a ((wu64 (v2a+(wu64 ((wu64 u3a)+r4a)))).fdiv (2^min (32:Int).toNat IntKind.u64.bits)) (wi64 (v0a+1)) (List.set v1a (v0a:Int).toNat (wu32 (wu64 (v2a+(wu64 ((wu64 u3a)+r4a)))))) else some (v1a)
def HF (x0:List Int) (x1:List Int):Option ((Int) × List Int):=
 (nth x0 (x1.length:Int)).bind fun u0a=>
 (nth x0 (wi64 ((x1.length:Int) - 1))).bind fun u1a=>
 (nth x1 (wi64 ((x1.length:Int) - 1))).bind fun u32=>
 (gd ((wu64 u32)≠0)).bind fun _=>
 (nth x1 (wi64 ((x1.length:Int) - 1))).bind fun u5a=>
 (FL x0 x1 18446744073709551616 (min (wu64 ((bor .u64 (wu64 ((wu64 u0a)*2^min (32:Int).toNat IntKind.u64.bits)) (wu64 u1a)).tdiv (wu64 u32))) 4294967295) (wu64 ((bor .u64 (wu64 ((wu64 u0a)*2^min (32:Int).toNat IntKind.u64.bits)) (wu64 u1a)) - (wu64 ((min (wu64 ((bor .u64 (wu64 ((wu64 u0a)*2^min (32:Int).toNat IntKind.u64.bits)) (wu64 u1a)).tdiv (wu64 u32))) 4294967295)*(wu64 u5a)))))).bind fun m2a=>
 (JT x0 x1 m2a).bind fun r3a=>
 (if r3a.1=true then (Ep x0 x1 18446744073709551616 0 0 r3a.2).bind fun m6a=>
 some ((wu64 (m2a - 1)),m6a) else some (m2a,r3a.2)).bind fun m4a=>
 some ((wu32 m4a.1),m4a.2)
def Ee (x0:List Int) (x1:List Int) (r1a:List Int):Nat→Int→List Int→List Int→Option (List Int × List Int)
 | 0,_,_,_=>none
 | n5a+1,v0a,v3a,v2a=>
 if 0≤v0a then (gd (0≤(v0a:Int)∧(v0a:Int)<(wi64 ((wi64 (v0a+(r1a.length:Int)))+1))∧(wi64 ((wi64 (v0a+(r1a.length:Int)))+1))≤(v2a.length:Int))).bind fun _=>
 (HF ((List.drop ((v0a:Int).toNat) v2a).take ((((wi64 ((wi64 (v0a+(r1a.length:Int)))+1)):Int).toNat) - ((v0a:Int).toNat))) r1a).bind fun r4a=>
 (nth v3a v0a).bind fun u6a=>
 Ee x0 x1 r1a n5a (wi64 (v0a - 1)) (List.set v3a (v0a:Int).toNat r4a.1) (((v2a).take ((v0a:Int).toNat))++r4a.2++((v2a).drop (((wi64 ((wi64 (v0a+(r1a.length:Int)))+1)):Int).toNat))) else some (v3a,v2a)
def Cm (x0:List Int) (x1:List Int):Option (List Int × List Int):=
 if (x1.length:Int)=1 then (nth x1 0).bind fun u5a=>
 (Gm x0 u5a).bind fun r2a=>
 some (r2a.1,r2a.2) else (DX x0 x1).bind fun r6a=>
 if r6a<0 then some (([]:List Int),x0) else (nth x1 (wi64 ((x1.length:Int) - 1))).bind fun u7a=>
 (Bg u7a).bind fun r1a=>
 (CX x1 r1a).bind fun r0a=>
 (gd (0≤((wi64 ((x0.length:Int)+1)):Int)∧((wi64 ((x0.length:Int)+1)):Int)≤((wi64 ((x0.length:Int)+1)):Int)∧((wi64 ((x0.length:Int)+1)):Int)≤70368744177664)).bind fun _=>
 (CX x0 r1a).bind fun r3a=>
 (gd (0≤((wi64 ((((((wi64 ((x0.length:Int)+1)):Int).toNat):Nat):Int) - (r0a.length:Int))):Int)∧((wi64 ((((((wi64 ((x0.length:Int)+1)):Int).toNat):Nat):Int) - (r0a.length:Int))):Int)≤((wi64 ((((((wi64 ((x0.length:Int)+1)):Int).toNat):Nat):Int) - (r0a.length:Int))):Int)∧((wi64 ((((((wi64 ((x0.length:Int)+1)):Int).toNat):Nat):Int) - (r0a.length:Int))):Int)≤70368744177664)).bind fun _=>
 (Ee x0 x1 r0a 18446744073709551616 (wi64 ((((((wi64 ((((((wi64 ((x0.length:Int)+1)):Int).toNat):Nat):Int) - (r0a.length:Int))):Int).toNat):Nat):Int) - 1)) (List.replicate ((wi64 ((((((wi64 ((x0.length:Int)+1)):Int).toNat):Nat):Int) - (r0a.length:Int))):Int).toNat (0:Int)) ((r3a).take (List.length (List.replicate ((wi64 ((x0.length:Int)+1)):Int).toNat (0:Int)))++(List.replicate ((wi64 ((x0.length:Int)+1)):Int).toNat (0:Int)).drop r3a.length)).bind fun m4a=>
 (Cl m4a.1).bind fun r8a=>
 (Cl m4a.2).bind fun r9a=>
 (DD r9a r1a).bind fun r0b=>
 some (r8a,r0b)
def DN (x0:List Int) (x1:List Int):Nat→Int→Int→List Int→Option (List Int)
 | 0,_,_,_=>none
 | n5a+1,v2a,v0a,v1a=>
 if v0a<(((((wi64 ((max (x0.length:Int) (x1.length:Int))+1)):Int).toNat):Nat):Int) then (CZ x0 v0a).bind fun r3a=>
 (CZ x1 v0a).bind fun r4a=>
 (nth v1a v0a).bind fun u6a=>
 DN x0 x1 n5a ((wu64 (v2a+(wu64 (r3a+r4a)))).fdiv (2^min (32:Int).toNat IntKind.u64.bits)) (wi64 (v0a+1)) (List.set v1a (v0a:Int).toNat (wu32 (wu64 (v2a+(wu64 (r3a+r4a)))))) else some (v1a)
def DY (x0:List Int) (x1:List Int):Option (List Int):=
 (gd (0≤((wi64 ((max (x0.length:Int) (x1.length:Int))+1)):Int)∧((wi64 ((max (x0.length:Int) (x1.length:Int))+1)):Int)≤((wi64 ((max (x0.length:Int) (x1.length:Int))+1)):Int)∧((wi64 ((max (x0.length:Int) (x1.length:Int))+1)):Int)≤70368744177664)).bind fun _=>
 (DN x0 x1 18446744073709551616 0 0 (List.replicate ((wi64 ((max (x0.length:Int) (x1.length:Int))+1)):Int).toNat (0:Int))).bind fun m0a=>
 (Cl m0a).bind fun r1a=>
 some r1a
def DP (x0:List Int) (x1:List Int):Nat→Int→Int→List Int→Option (List Int)
 | 0,_,_,_=>none
 | n5a+1,v2a,v0a,v1a=>
 if v0a<(((((x0.length:Int):Int).toNat):Nat):Int) then (CZ x0 v0a).bind fun r3a=>
 (CZ x1 v0a).bind fun r4a=>
 (nth v1a v0a).bind fun u6a=>
 DP x0 x1 n5a ((wu64 ((wu64 (r3a - r4a)) - v2a)).fdiv (2^min (63:Int).toNat IntKind.u64.bits)) (wi64 (v0a+1)) (List.set v1a (v0a:Int).toNat (wu32 (wu64 ((wu64 (r3a - r4a)) - v2a)))) else some (v1a)
def DW (x0:List Int) (x1:List Int):Option (List Int):=
 (gd (0≤((x0.length:Int):Int)∧((x0.length:Int):Int)≤((x0.length:Int):Int)∧((x0.length:Int):Int)≤70368744177664)).bind fun _=>
 (DP x0 x1 18446744073709551616 0 0 (List.replicate ((x0.length:Int):Int).toNat (0:Int))).bind fun m0a=>
 (Cl m0a).bind fun r1a=>
 some r1a
theorem Fm (x0:List Int) (x1:Int) (A1:Option Addr) (c2:Nat) (w:World) (hT:TB w) (n3:RLu w A1 c2 x0) (r:Int) (hr:CZ x0 x1=some r) :
  Calls Tryz.prog 272 #[.slice A1 x0.length c2,.int .i64 x1] w (Ret Ma w r):=by
 unfold CZ at hr
 go_enter Tryz.func272,Tryz.ntmps272
 refine wp_seq_k fun _ h4=>Ae<|sV (Ac rfl) ?_
 refine wh h4<|wp_seq_k fun _ h5=>wp_seq_k fun _ h6=>Ae<|sV3 (Aa rfl) (Aa rfl) (Ax AU rfl) ?_
 refine sb (Cj rfl rfl) fun z7 hz7=>?_
 refine nrm ?_
 refine wh h6 ?_
 rcases zi hz7 hr with ⟨e0a,_,f1a⟩ | ⟨e0a,_,f2a⟩
 ·refine wp_cond_true (Ai (evb rfl e0a))<|wp_seq_k fun _ h3a=>Ae<|sV2 (Aa rfl) (Aa rfl) ?_
  obtain ⟨u4a,h5a,f6a⟩:=Ab f1a
  obtain ⟨bb34,oo35,hA7a,ia8a,ib9a,hc37⟩:=RL.nth n3 h5a
  refine sV3 (As AU An rfl rfl hA7a ia8a ib9a) (Af AQ rfl hc37) (AE (c:=wu64 u4a) AF AD rfl rfl) ?_
  refine sV (Ac rfl) ?_
  refine wh h3a<|wp_ret ?_
  obtain rfl:=sj f6a
  exact fin rfl (Res.tmp rfl Res.nil) (Aj (Ext.refl _) rfl)
 ·refine wp_cond_false (Ai (evb rfl e0a))<|wp_skip<|h5 _ _<|wp_seq_k fun _ h0b=>Ae<|sV (Ac rfl) ?_
  refine wh h0b<|wp_ret ?_
  obtain rfl:=sj f2a
  exact fin rfl (Res.tmp rfl Res.nil) (Aj (Ext.refl _) rfl)
theorem c_nat_of (x0:Int) (w:World) (hT:TB w) (r:List Int) (hr:Lp x0=some r) :
  Calls Tryz.prog 282 #[.int .u64 x0] w (Ret Ko w r):=by
 unfold Lp at hr
 go_enter Tryz.func282,Tryz.ntmps282
 refine wp_seq_k fun _ h1=>Ae<|sV (Ac rfl) ?_
 refine wh h1<|wp_seq_k fun _ h2=>Ae<|sV3 (Aa rfl) (AE (c:=wu32 x0) AD AF rfl rfl) (Aa rfl) ?_
 refine sV (GS (c:=x0.fdiv (2^min (32:Int).toNat IntKind.u64.bits)) (by decide) rfl rfl rfl) ?_
 refine sV (AE (c:=wu32 (x0.fdiv (2^min (32:Int).toNat IntKind.u64.bits))) AD AF rfl rfl) ?_
 refine Cv (vals:=[(0,.int .u32 (wu32 x0)),(1,.int .u32 (wu32 (x0.fdiv (2^min (32:Int).toNat IntKind.u64.bits))))]) (cs:=[.int .u32 (wu32 x0),.int .u32 (wu32 (x0.fdiv (2^min (32:Int).toNat IntKind.u64.bits)))]) AU An Ge (by rfl) (by decide) (by kernel_rfl) fun b4 w1 E3 g5 q6=>?_
 refine nrm ?_
 have n7:RLu w1 (some ⟨b4,0,none⟩) 2 [(wu32 x0),(wu32 (x0.fdiv (2^min (32:Int).toNat IntKind.u64.bits)))]:=(OW.lit (n0:=0) (n:=2) (xs:=[(wu32 x0),(wu32 (x0.fdiv (2^min (32:Int).toNat IntKind.u64.bits)))]) q6 (Nat.zero_le _) rfl (by decide)).rl
 obtain ⟨r8,h9,f0a⟩:=Ab hr
 refine sc (Ad Lj (by rfl)) (El ([(wu32 x0),(wu32 (x0.fdiv (2^min (32:Int).toNat IntKind.u64.bits)))]:List Int) (some ⟨b4,0,none⟩) 2 w1 (tbx E3 hT) n7 r8 h9) ?_
 rintro _ w2 E1a ⟨A2a,c3a,rfl,n4a⟩
 refine nrm ?_
 have X5a:=xtr E3 E1a
 refine sV (Ac rfl) ?_
 refine wh h2<|wp_ret ?_
 obtain rfl:=sj f0a
 exact fin rfl (Res.tmp rfl Res.nil) (Aj X5a ⟨A2a,c3a,rfl,n4a⟩)
theorem c_nat_limbs_size (x0:List Int) (A1:Option Addr) (c2:Nat) (w:World) (hT:TB w) (n3:RLu w A1 c2 x0) (r:Int) (hr:GK x0=some r) :
  Calls Tryz.prog 271 #[.slice A1 x0.length c2] w (Ret Fy w r):=by
 unfold GK at hr
 go_enter Tryz.func271,Tryz.ntmps271
 refine wp_seq_k fun _ h4=>Ae<|sV (Ac rfl) ?_
 refine wh h4<|wp_seq_k fun _ h5=>wp_seq_k fun _ h6=>Ae<|sV2 (Aa rfl) (Ax AU rfl) ?_
 refine sb (Bl rfl rfl) fun z7 hz7=>?_
 refine nrm ?_
 refine wh h6 ?_
 rcases zi hz7 hr with ⟨e0a,_,f2a⟩ | ⟨e0a,_,f3a⟩
 ·refine wp_cond_true (Ai (evb rfl e0a))<|wp_seq_k fun _ h4a=>Ae<|sV (Ac rfl) ?_
  refine wh h4a<|wp_ret ?_
  obtain rfl:=sj f2a
  exact fin rfl (Res.tmp rfl Res.nil) (Aj (Ext.refl _) rfl)
 ·refine wp_cond_false (Ai (evb rfl e0a))<|wp_skip<|h5 _ _<|wp_seq_k fun _ h5a=>Ae<|sV3 (Aa rfl) (Ax AU rfl) (Ba (c:=wi64 ((x0.length:Int) - 1)) rfl rfl rfl) ?_
  refine sV3 (Jq (c:=wi64 (32*(wi64 ((x0.length:Int) - 1)))) rfl rfl rfl) (Aa rfl) (Aa rfl) ?_
  refine sV2 (Ax AU rfl) (Ba (c:=wi64 ((x0.length:Int) - 1)) rfl rfl rfl) ?_
  obtain ⟨u6a,h7a,f8a⟩:=Ab f3a
  obtain ⟨bb23,oo24,hA9a,ia0b,ib1b,hc26⟩:=RL.nth n3 h7a
  refine sV2 (As AU An rfl rfl hA9a ia0b ib1b) (Af AQ rfl hc26) ?_
  obtain ⟨r1a,h2b,f32⟩:=Ab f8a
  refine sc (Ad en_264 (by rfl)) (c_math_bits_Len32 u6a w hT  r1a h2b) ?_
  rintro _ w1 E3b rfl
  refine nrm ?_
  refine sV2 (AM (c:=wi64 ((wi64 (32*(wi64 ((x0.length:Int) - 1))))+r1a)) rfl rfl rfl) (Ac rfl) ?_
  refine wh h5a<|wp_ret ?_
  obtain rfl:=sj f32
  exact fin rfl (Res.tmp rfl Res.nil) (Aj E3b rfl)
theorem HW (x0:List Int) (x1:Int) (A1:Option Addr) (c2:Nat) (w:World) (hT:TB w) (n3:RLu w A1 c2 x0) (r:List Int) (hr:DD x0 x1=some r) :
  Calls Tryz.prog 249 #[.slice A1 x0.length c2,.int .i64 x1] w (Ret Ko w r):=by
 unfold DD at hr
 go_enter Tryz.func249,Tryz.ntmps249
 refine wp_seq_k fun _ h4=>Ae<|sV (Ac rfl) ?_
 refine wh h4<|wp_seq_k fun _ h5=>wp_seq_k fun _ h6=>Ae<|sV2 (Aa rfl) (Aa rfl) ?_
 obtain ⟨r7,h8,f9⟩:=Ab hr
 refine sc (Ad en_271 (by rfl)) (c_nat_limbs_size x0 A1 c2 w hT n3 r7 h8) ?_
 rintro _ w1 E7a rfl
 refine nrm ?_
 refine sb (Fu rfl rfl) fun z6b hz6b=>?_
 refine nrm ?_
 refine wh h6 ?_
 rcases zi hz6b f9 with ⟨e8a,_,f8c⟩ | ⟨e8a,_,f9c⟩
 ·refine wp_cond_true (Ai (evb rfl e8a))<|wp_seq_k fun _ h0d=>Ae<|sV (Ac rfl) ?_
  refine wh h0d<|wp_ret ?_
  obtain rfl:=sj f8c
  exact fin rfl (Res.tmp rfl Res.nil) (Aj E7a ⟨none,0,rfl,(RL.nil _ _ _)⟩)
 ·refine wp_cond_false (Ai (evb rfl e8a))<|wp_skip<|h5 _ _<|wp_seq_k fun _ h1d=>Ae<|sV3 (Aa rfl) (Ax AU rfl) (Aa rfl) ?_
  refine sV (Hj (c:=wi64 (x1.tdiv 32)) (by decide) rfl rfl rfl) ?_
  refine sV (Ba (c:=wi64 ((x0.length:Int) - (wi64 (x1.tdiv 32)))) rfl rfl rfl) ?_
  obtain ⟨_,h2d,f3d⟩:=Ab f9c
  have gd26:=Az h2d
  refine GV AU CJ rfl rfl gd26 fun A1a w2 E7b ow4d=>?_
  refine nrm ?_
  have X5d:=xtr E7a E7b
  refine sV (Ac rfl) ?_
  refine wh h1d<|wp_seq_k fun _ h6d=>wp_seq_k fun _ h7d=>Ae<|sV3 (Aa rfl) (Ax AU rfl) (Aa rfl) ?_
  refine wh h7d ?_
  obtain ⟨m9a,h8d,f9d⟩:=Ab f3d
  refine BX (fun l l' w'=>Ext w w'∧Ext w1 w'∧OW 179 w1.heap.size w' A1a (((wi64 ((x0.length:Int) - (wi64 (x1.tdiv 32)))):Int).toNat) (((wi64 ((x0.length:Int) - (wi64 (x1.tdiv 32)))):Int).toNat) m9a∧Fr l' (fun t0b=>gp t0b 0 5 (.slice A1a (((wi64 ((x0.length:Int) - (wi64 (x1.tdiv 32)))):Int).toNat) (((wi64 ((x0.length:Int) - (wi64 (x1.tdiv 32)))):Int).toNat)::gp t0b 6 43 []))) ?_ ?_
  ·apply wp_block
   refine AP (fun l n8b l' w'=>∃(v0a:Int) (v2a:List Int),Ext w w'∧Ext w1 w'∧OW 179 w1.heap.size w' A1a (((wi64 ((x0.length:Int) - (wi64 (x1.tdiv 32)))):Int).toNat) (((wi64 ((x0.length:Int) - (wi64 (x1.tdiv 32)))):Int).toNat) v2a∧DM x0 x1 n8b v0a v2a=some m9a∧Fr l' (fun t4a=>.slice A1 x0.length c2::.int .i64 x1::gp t4a 2 3 (.slice A1a (((wi64 ((x0.length:Int) - (wi64 (x1.tdiv 32)))):Int).toNat) (((wi64 ((x0.length:Int) - (wi64 (x1.tdiv 32)))):Int).toNat)::gp t4a 6 13 (.int .i64 (((((wi64 ((x0.length:Int) - (wi64 (x1.tdiv 32)))):Int).toNat):Nat):Int)::.int .i64 v0a::gp t4a 21 28 [])))) 18446744073709551616 ?_ ?_ ?_
   ·exact ⟨0,(List.replicate ((wi64 ((x0.length:Int) - (wi64 (x1.tdiv 32)))):Int).toNat (0:Int)),X5d,E7b,ow4d,h8d,(Fr.mk (by kernel_rfl))⟩
   ·rintro l' w' ⟨v0a,v2a,_,_,_,hz,_⟩
    exact nomatch hz
   ·rintro n8b ih0e _ w3 ⟨v0a,v2a,X5a,X9b,ow0c,hr1c,⟨t4a,rfl⟩⟩ l'' hl
    simp only [gp,Nat.reduceAdd] at hl
    subst hl
    unfold DM at hr1c
    refine AV<|wp_seq_k fun _ h1e=>Ae<|sb (Cj rfl rfl) fun z2c hz2c=>?_
    refine nrm ?_
    refine wh h1e<|wp_seq_k fun _ h2e=>?_
    rcases zi hz2c hr1c with ⟨e1b,_,f3e⟩ | ⟨e1b,_,f4e⟩
    ·refine wp_cond_true (Ai (evb rfl e1b))<|wp_skip<|h2e _ _<|wp_seq_k fun _ h5e=>?_
     apply wp_block
     refine wp_seq_k fun _ h6e=>Ae<|sV2 (Aa rfl) (Ac rfl) ?_
     refine wh h6e<|wp_seq_k fun _ h7e=>Ae<|sV3 (Aa rfl) (Aa rfl) (Aa rfl) ?_
     refine sV (Hj (c:=wi64 (x1.tdiv 32)) (by decide) rfl rfl rfl) ?_
     refine sV (AM (c:=wi64 (v0a+(wi64 (x1.tdiv 32)))) rfl rfl rfl) ?_
     obtain ⟨r6a,h8e,f9e⟩:=Ab f3e
     refine sc (Ad La (by rfl)) (Fm x0 (wi64 (v0a+(wi64 (x1.tdiv 32)))) A1 c2 w3 (tbx X5a hT) (n3.ext X5a) r6a h8e) ?_
     rintro _ w4 E2b rfl
     refine nrm ?_
     have X3b:=xtr X5a E2b
     have X0f:=xtr X9b E2b
     refine sV3 (Aa rfl) (Aa rfl) (Aa rfl) ?_
     refine sV (Hj (c:=wi64 (x1.tdiv 32)) (by decide) rfl rfl rfl) ?_
     refine sV2 (AM (c:=wi64 (v0a+(wi64 (x1.tdiv 32)))) rfl rfl rfl) (AM (c:=wi64 ((wi64 (v0a+(wi64 (x1.tdiv 32))))+1)) rfl rfl rfl) ?_
     obtain ⟨r3a,h1f,f2f⟩:=Ab f9e
     refine sc (Ad La (by rfl)) (Fm x0 (wi64 ((wi64 (v0a+(wi64 (x1.tdiv 32))))+1)) A1 c2 w4 (tbx X3b hT) (n3.ext X3b) r3a h1f) ?_
     rintro _ w5 E4b rfl
     refine nrm ?_
     have X3f:=xtr X3b E4b
     have X4f:=xtr X0f E4b
     refine sV (JF (c:=wu64 (r3a*2^min (32:Int).toNat IntKind.u64.bits)) (by decide) rfl rfl rfl) ?_
     refine sV2 (Nt rfl rfl) (Ac rfl) ?_
     refine wh h7e<|Ae<|sV3 (Aa rfl) (Aa rfl) (Aa rfl) ?_
     refine sV2 (Aa rfl) (Jr (c:=x1.tmod 32) (by decide) rfl rfl rfl) ?_
     obtain ⟨_,h5f,f6f⟩:=Ab f2f
     have gd349:=Az h5f
     refine sV2 (GS (c:=(bor .u64 r6a (wu64 (r3a*2^min (32:Int).toNat IntKind.u64.bits))).fdiv (2^min ((x1.tmod 32):Int).toNat IntKind.u64.bits)) gd349 rfl rfl rfl) (AE (c:=wu32 ((bor .u64 r6a (wu64 (r3a*2^min (32:Int).toNat IntKind.u64.bits))).fdiv (2^min ((x1.tmod 32):Int).toNat IntKind.u64.bits))) AD AF rfl rfl) ?_
     have ow5b:=(ow0c.ext E2b).ext E4b
     obtain ⟨u1h,h7f,f8f⟩:=Ab f6f
     obtain ⟨bb354,hA3c,hz2h,ia4c,ib5c,hc359⟩:=OW.nthc ow5b h7f
     refine sV (As AU An rfl rfl hA3c ia4c ib5c) ?_
     refine KP An rfl rfl ow5b hA3c ia4c (by rw [OW.len ow5b];exact ib5c) fun w6 B360 U3h ow9f=>?_
     have X0g:=xO X3f B360 E7a.size
     have X1g:=xO X4f B360 (Nat.le_refl _)
     refine wh h5e<|Ae<|sV2 (AM (c:=wi64 (v0a+1)) rfl rfl rfl) (Aa rfl) ?_
     refine AG ?_
     exact ih0e _ _ ⟨(wi64 (v0a+1)),(List.set v2a (v0a:Int).toNat (wu32 ((bor .u64 r6a (wu64 (r3a*2^min (32:Int).toNat IntKind.u64.bits))).fdiv (2^min ((x1.tmod 32):Int).toNat IntKind.u64.bits)))),X0g,X1g,ow9f,f8f,(Fr.mk (by kernel_rfl))⟩
    ·refine wp_cond_false (Ai (evb rfl e1b))<|wp_exit ?_
     simp only [Exit.then,Exit.inBlock,↓reduceIte,Nat.reduceEqDiff]
     obtain rfl:=sj f4e
     exact ⟨_,rfl,X5a,X9b,ow0c,(Fr.mk (by kernel_rfl))⟩
  ·rintro _ w3 ⟨X6c,X4h,ow7c,⟨t0b,rfl⟩⟩ l'' hl
   simp only [gp,Nat.reduceAdd] at hl
   subst hl
   refine h6d _ _<|wp_seq_k fun _ h2g=>Ae<|sV (Aa rfl) ?_
   obtain ⟨r3g,h4g,f5g⟩:=Ab f9d
   refine sc (Ad Lj (by simp only [OW.len ow7c];rfl)) (El m9a A1a (((wi64 ((x0.length:Int) - (wi64 (x1.tdiv 32)))):Int).toNat) w3 (tbx X6c hT) (OW.rl ow7c) r3g h4g) ?_
   rintro _ w4 E6g ⟨A7g,c8g,rfl,n9g⟩
   refine nrm ?_
   have X0h:=xtr X6c E6g
   refine sV (Ac rfl) ?_
   refine wh h2g<|wp_ret ?_
   obtain rfl:=sj f5g
   exact fin rfl (Res.tmp rfl Res.nil) (Aj X0h ⟨A7g,c8g,rfl,n9g⟩)
theorem c_nat_limbs_short (x0:List Int) (x1:Int) (A1:Option Addr) (c2:Nat) (w:World) (hT:TB w) (n3:RLu w A1 c2 x0) (r:List Int × List Int) (hr:Gm x0 x1=some r) :
  Calls Tryz.prog 267 #[.slice A1 x0.length c2,.int .u32 x1] w (Ret LZ w r):=by
 unfold Gm at hr
 go_enter Tryz.func267,Tryz.ntmps267
 refine wp_seq_k fun _ h4=>Ae<|sV2 (Ac rfl) (Ac rfl) ?_
 refine wh h4<|wp_seq_k fun _ h5=>Ae<|sV2 (Aa rfl) (Ax AU rfl) ?_
 obtain ⟨_,h6,f7⟩:=Ab hr
 have gd8:=Az h6
 refine GV AU CJ rfl rfl gd8 fun A9 w1 E0c ow1c=>?_
 refine nrm ?_
 refine sV (Ac rfl) ?_
 refine wh h5<|wp_seq_k fun _ h2c=>Ae<|sV (Ac rfl) ?_
 refine wh h2c<|wp_seq_k fun _ h3c=>wp_seq_k fun _ h4c=>Ae<|sV3 (Aa rfl) (Ax AU rfl) (Ba (c:=wi64 ((x0.length:Int) - 1)) rfl rfl rfl) ?_
 refine sV (Ac rfl) ?_
 refine wh h4c ?_
 obtain ⟨m3a,h5c,f6c⟩:=Ab f7
 refine BX (fun l l' w'=>Ext w w'∧OW 179 w.heap.size w' A9 (((x0.length:Int):Int).toNat) (((x0.length:Int):Int).toNat) m3a.2∧Fr l' (fun t6a=>gp t6a 0 6 (.slice A9 (((x0.length:Int):Int).toNat) (((x0.length:Int):Int).toNat)::.int .u64 m3a.1::gp t6a 8 35 []))) ?_ ?_
 ·apply wp_block
  refine AP (fun l n0b l' w'=>∃(v0a:Int) (v1a:Int) (v4a:List Int),Ext w w'∧OW 179 w.heap.size w' A9 (((x0.length:Int):Int).toNat) (((x0.length:Int):Int).toNat) v4a∧EE x0 x1 n0b v0a v1a v4a=some m3a∧Fr l' (fun t7a=>.slice A1 x0.length c2::.int .u32 x1::gp t7a 2 4 (.slice A9 (((x0.length:Int):Int).toNat) (((x0.length:Int):Int).toNat)::.int .u64 v0a::.int .i64 v1a::gp t7a 9 34 []))) 18446744073709551616 ?_ ?_ ?_
  ·exact ⟨0,(wi64 ((x0.length:Int) - 1)),(List.replicate ((x0.length:Int):Int).toNat (0:Int)),E0c,ow1c,h5c,(Fr.mk (by kernel_rfl))⟩
  ·rintro l' w' ⟨v0a,v1a,v4a,_,_,hz,_⟩
   exact nomatch hz
  ·rintro n0b ih7c _ w2 ⟨v0a,v1a,v4a,X8a,ow5a,hr1b,⟨t7a,rfl⟩⟩ l'' hl
   simp only [gp,Nat.reduceAdd] at hl
   subst hl
   unfold EE at hr1b
   refine AV<|wp_seq_k fun _ h8c=>wp_seq_k fun _ h9c=>Ae<|sV (Aa rfl) ?_
   refine sb (Fu rfl rfl) fun z2b hz2b=>?_
   refine nrm ?_
   refine wh h9c ?_
   rcases zi hz2b hr1b with ⟨e9a,_,f0d⟩ | ⟨e9a,_,f1d⟩
   ·refine wp_cond_true (Ai (evb rfl e9a))<|wp_skip<|h8c _ _<|wp_seq_k fun _ h2d=>?_
    apply wp_block
    refine wp_seq_k fun _ h3d=>Ae<|sV2 (Aa rfl) (JF (c:=wu64 (v0a*2^min (32:Int).toNat IntKind.u64.bits)) (by decide) rfl rfl rfl) ?_
    refine sV2 (Aa rfl) (Aa rfl) ?_
    obtain ⟨u2a,h4d,f5d⟩:=Ab f0d
    obtain ⟨bb310,oo311,hA6d,ia7d,ib8d,hc313⟩:=RL.nth (n3.ext X8a) h4d
    refine sV3 (As AU An rfl rfl hA6d ia7d ib8d) (Af AQ rfl hc313) (AE (c:=wu64 u2a) AF AD rfl rfl) ?_
    refine sV2 (Nt rfl rfl) (Ac rfl) ?_
    refine wh h3d<|wp_seq_k fun _ h9d=>Ae<|sV3 (Aa rfl) (Aa rfl) (Aa rfl) ?_
    refine sV2 (Aa rfl) (AE (c:=wu64 x1) AF AD rfl rfl) ?_
    obtain ⟨_,h0e,f1e⟩:=Ab f5d
    have gd320:=Az h0e
    refine sV2 (Hj (c:=wu64 ((bor .u64 (wu64 (v0a*2^min (32:Int).toNat IntKind.u64.bits)) (wu64 u2a)).tdiv (wu64 x1))) (decide_eq_true gd320) rfl rfl rfl) (AE (c:=wu32 (wu64 ((bor .u64 (wu64 (v0a*2^min (32:Int).toNat IntKind.u64.bits)) (wu64 u2a)).tdiv (wu64 x1)))) AD AF rfl rfl) ?_
    obtain ⟨u3g,h2e,f3e⟩:=Ab f1e
    obtain ⟨bb324,hA3b,hz4g,ia4b,ib5b,hc329⟩:=OW.nthc ow5a h2e
    refine sV (As AU An rfl rfl hA3b ia4b ib5b) ?_
    refine KP An rfl rfl ow5a hA3b ia4b (by rw [OW.len ow5a];exact ib5b) fun w3 B330 U5g ow4e=>?_
    have X5e:=xO X8a B330 (Nat.le_refl _)
    refine wh h9d<|Ae<|sV3 (Aa rfl) (Aa rfl) (AE (c:=wu64 x1) AF AD rfl rfl) ?_
    obtain ⟨_,h6e,f7e⟩:=Ab f3e
    have gd336:=Az h6e
    refine sV2 (Jr (c:=(bor .u64 (wu64 (v0a*2^min (32:Int).toNat IntKind.u64.bits)) (wu64 u2a)).tmod (wu64 x1)) (decide_eq_true gd336) rfl rfl rfl) (Ac rfl) ?_
    refine wh h2d<|Ae<|sV3 (Aa rfl) (Ba (c:=wi64 (v1a - 1)) rfl rfl rfl) (Ac rfl) ?_
    refine AG ?_
    exact ih7c _ _ ⟨((bor .u64 (wu64 (v0a*2^min (32:Int).toNat IntKind.u64.bits)) (wu64 u2a)).tmod (wu64 x1)),(wi64 (v1a - 1)),(List.set v4a (v1a:Int).toNat (wu32 (wu64 ((bor .u64 (wu64 (v0a*2^min (32:Int).toNat IntKind.u64.bits)) (wu64 u2a)).tdiv (wu64 x1))))),X5e,ow4e,f7e,(Fr.mk (by kernel_rfl))⟩
   ·refine wp_cond_false (Ai (evb rfl e9a))<|wp_exit ?_
    simp only [Exit.then,Exit.inBlock,↓reduceIte,Nat.reduceEqDiff]
    obtain rfl:=sj f1d
    exact ⟨_,rfl,X8a,ow5a,(Fr.mk (by kernel_rfl))⟩
 ·rintro _ w2 ⟨X6b,ow7b,⟨t6a,rfl⟩⟩ l'' hl
  simp only [gp,Nat.reduceAdd] at hl
  subst hl
  refine h3c _ _<|wp_seq_k fun _ h8e=>Ae<|sV (Aa rfl) ?_
  obtain ⟨r9e,h0f,f1f⟩:=Ab f6c
  refine sc (Ad Lj (by simp only [OW.len ow7b];rfl)) (El m3a.2 A9 (((x0.length:Int):Int).toNat) w2 (tbx X6b hT) (OW.rl ow7b) r9e h0f) ?_
  rintro _ w3 E2f ⟨A3f,c4f,rfl,n5f⟩
  refine nrm ?_
  have X8b:=xtr X6b E2f
  refine sV (Aa rfl) ?_
  obtain ⟨r6f,h7f,f8f⟩:=Ab f1f
  refine sc (Ad en_282 (by rfl)) (c_nat_of m3a.1 w3 (tbx X8b hT)  r6f h7f) ?_
  rintro _ w4 E9b ⟨A9f,c0g,rfl,n1g⟩
  refine nrm ?_
  have X2g:=xtr X8b E9b
  refine sV2 (Ac rfl) (Ac rfl) ?_
  refine wh h8e<|wp_ret ?_
  obtain rfl:=sj f8f
  exact fin rfl (Res.tmp rfl (Res.tmp rfl Res.nil)) (Aj X2g ⟨A3f,c4f,A9f,c0g,rfl,(n5f.ext E9b),n1g⟩)
theorem c_nat_takes (x0:List Int) (x1:List Int) (x2:Int) (A1:Option Addr) (c2:Nat) (A4:Option Addr) (c5:Nat) (bp0:Nat) (pre ys:List Int) (w:World) (hT:TB w) (q0:WN 179 bp0 pre ys w A1 x0.length c2 x0) (hb0:bp0≠0) (n6:RLu w A4 c5 x1) (ap0:Apart A4 x1 bp0) (r:(Bool) × List Int) (hr:JT x0 x1 x2=some r) :
  Calls Tryz.prog 283 #[.slice A1 x0.length c2,.slice A4 x1.length c5,.int .u64 x2] w (RetW 179 bp0 pre ys x0.length Gq w r):=by
 unfold JT at hr
 go_enter Tryz.func283,Tryz.ntmps283
 refine wp_seq_k fun _ h7=>Ae<|sV (Ac rfl) ?_
 refine wh h7<|wp_seq_k fun _ h8=>Ae<|sV2 (Ac rfl) (Ac rfl) ?_
 refine wh h8<|wp_seq_k fun _ h9=>wp_seq_k fun _ h1c=>Ae<|sV3 (Aa rfl) (Ax AU rfl) (Aa rfl) ?_
 refine wh h1c ?_
 obtain ⟨m8a,h2c,f3c⟩:=Ab hr
 refine BX (fun l l' w'=>UpdS [bp0] w w'∧WN 179 bp0 pre ys w' A1 x0.length c2 m8a.2∧Fr l' (fun t1b=>gp t1b 0 8 (.int .u64 m8a.1::gp t1b 9 37 []))) ?_ ?_
 ·apply wp_block
  refine AP (fun l n4b l' w'=>∃(v0a:Int) (v2a:Int) (v3a:Int) (v5a:List Int),UpdS [bp0] w w'∧WN 179 bp0 pre ys w' A1 x0.length c2 v5a∧FG x0 x1 x2 n4b v0a v2a v3a v5a=some m8a∧Fr l' (fun t9a=>.slice A1 x0.length c2::.slice A4 x1.length c5::.int .u64 x2::gp t9a 3 4 (.int .u64 v0a::.int .u64 v2a::gp t9a 9 3 (.int .i64 ((x0.length:Nat):Int)::.int .i64 v3a::gp t9a 14 32 [])))) 18446744073709551616 ?_ ?_ ?_
  ·exact ⟨0,0,0,x0,(UpdS.refl [bp0] w),q0,h2c,(Fr.mk (by kernel_rfl))⟩
  ·rintro l' w' ⟨v0a,v2a,v3a,v5a,_,_,hz,_⟩
   exact nomatch hz
  ·rintro n4b ih4c _ w1 ⟨v0a,v2a,v3a,v5a,X0b,ow6a,hr5b,⟨t9a,rfl⟩⟩ l'' hl
   simp only [gp,Nat.reduceAdd] at hl
   subst hl
   unfold FG at hr5b
   refine AV<|wp_seq_k fun _ h5c=>Ae<|sb (Cj rfl rfl) fun z6b hz6b=>?_
   refine nrm ?_
   refine wh h5c<|wp_seq_k fun _ h6c=>?_
   rcases zi hz6b hr5b with ⟨e2b,_,f7c⟩ | ⟨e2b,_,f8c⟩
   ·refine wp_cond_true (Ai (evb rfl e2b))<|wp_skip<|h6c _ _<|wp_seq_k fun _ h9c=>?_
    apply wp_block
    refine wp_seq_k fun _ h0d=>Ae<|sV2 (Aa rfl) (Ac rfl) ?_
    refine wh h0d<|wp_seq_k fun _ h1d=>Ae<|sV3 (Aa rfl) (Aa rfl) (Aa rfl) ?_
    refine sV (Aa rfl) ?_
    obtain ⟨r1a,h2d,f3d⟩:=Ab f7c
    refine sc (Ad La (by rfl)) (Fm x1 v3a A4 c5 w1 (TB.updW X0b hb0 hT) (RL.updW n6 X0b ap0) r1a h2d) ?_
    rintro _ w2 E7a rfl
    refine nrm ?_
    have X4d:=UpdS.ext X0b E7a
    refine sV3 (Jq (c:=wu64 (x2*r1a)) rfl rfl rfl) (AM (c:=wu64 (v0a+(wu64 (x2*r1a)))) rfl rfl rfl) (Ac rfl) ?_
    refine wh h1d<|wp_seq_k fun _ h5d=>Ae<|sV2 (Aa rfl) (Aa rfl) ?_
    obtain ⟨u4a,h6d,f7d⟩:=Ab f3d
    obtain ⟨bb321,hA8d,hz0f,ia9d,ib0e,hc326⟩:=WN.nthc (ow6a.ext E7a) h6d
    refine sV3 (As AU An rfl rfl hA8d ia9d ib0e) (Af AQ rfl hc326) (AE (c:=wu64 u4a) AF AD rfl rfl) ?_
    refine sV3 (Aa rfl) (AE (c:=wu32 (wu64 (v0a+(wu64 (x2*r1a))))) AD AF rfl rfl) (AE (c:=wu64 (wu32 (wu64 (v0a+(wu64 (x2*r1a)))))) AF AD rfl rfl) ?_
    refine sV3 (Ba (c:=wu64 ((wu64 u4a) - (wu64 (wu32 (wu64 (v0a+(wu64 (x2*r1a)))))))) rfl rfl rfl) (Aa rfl) (Ba (c:=wu64 ((wu64 ((wu64 u4a) - (wu64 (wu32 (wu64 (v0a+(wu64 (x2*r1a)))))))) - v2a)) rfl rfl rfl) ?_
    refine sV (Ac rfl) ?_
    refine wh h5d<|wp_seq_k fun _ h1e=>Ae<|sV3 (Aa rfl) (Aa rfl) (Aa rfl) ?_
    refine sV (AE (c:=wu32 (wu64 ((wu64 ((wu64 u4a) - (wu64 (wu32 (wu64 (v0a+(wu64 (x2*r1a)))))))) - v2a))) AD AF rfl rfl) ?_
    obtain ⟨u1f,h2e,f3e⟩:=Ab f7d
    obtain ⟨bb331,hA7b,hz2f,ia8b,ib9b,hc336⟩:=WN.nthc (ow6a.ext E7a) h2e
    refine sV (As AU An rfl rfl hA7b ia8b ib9b) ?_
    refine PP An rfl rfl (ow6a.ext E7a) hA7b ia8b (by rw [WN.len (ow6a.ext E7a)];exact ib9b) fun w3 U4e ow5e=>?_
    have X6e:=UpdS.tr X4d U4e
    refine wh h1e<|wp_seq_k fun _ h7e=>Ae<|sV2 (Aa rfl) (GS (c:=(wu64 ((wu64 ((wu64 u4a) - (wu64 (wu32 (wu64 (v0a+(wu64 (x2*r1a)))))))) - v2a)).fdiv (2^min (63:Int).toNat IntKind.u64.bits)) (by decide) rfl rfl rfl) ?_
    refine sV (Ac rfl) ?_
    refine wh h7e<|Ae<|sV2 (Aa rfl) (GS (c:=(wu64 (v0a+(wu64 (x2*r1a)))).fdiv (2^min (32:Int).toNat IntKind.u64.bits)) (by decide) rfl rfl rfl) ?_
    refine sV (Ac rfl) ?_
    refine wh h9c<|Ae<|sV2 (AM (c:=wi64 (v3a+1)) rfl rfl rfl) (Aa rfl) ?_
    refine AG ?_
    exact ih4c _ _ ⟨((wu64 (v0a+(wu64 (x2*r1a)))).fdiv (2^min (32:Int).toNat IntKind.u64.bits)),((wu64 ((wu64 ((wu64 u4a) - (wu64 (wu32 (wu64 (v0a+(wu64 (x2*r1a)))))))) - v2a)).fdiv (2^min (63:Int).toNat IntKind.u64.bits)),(wi64 (v3a+1)),(List.set v5a (v3a:Int).toNat (wu32 (wu64 ((wu64 ((wu64 u4a) - (wu64 (wu32 (wu64 (v0a+(wu64 (x2*r1a)))))))) - v2a)))),X6e,ow5e,f3e,(Fr.mk (by kernel_rfl))⟩
   ·refine wp_cond_false (Ai (evb rfl e2b))<|wp_exit ?_
    simp only [Exit.then,Exit.inBlock,↓reduceIte,Nat.reduceEqDiff]
    obtain rfl:=sj f8c
    exact ⟨_,rfl,X0b,ow6a,(Fr.mk (by kernel_rfl))⟩
 ·rintro _ w1 ⟨X8e,ow0c,⟨t1b,rfl⟩⟩ l'' hl
  simp only [gp,Nat.reduceAdd] at hl
  subst hl
  refine h9 _ _<|wp_seq_k fun _ h9e=>Ae<|sV (Aa rfl) ?_
  refine sb (EX rfl rfl) fun z3b hz3b=>?_
  refine nrm ?_
  refine sV (Ac rfl) ?_
  refine wh h9e<|wp_ret ?_
  obtain rfl:z3b=decide (0<m8a.1):=bz hz3b
  obtain rfl:=sj f3c
  exact fin rfl (Res.tmp rfl Res.nil) ⟨X8e,WN.len ow0c,WN.bx ow0c,_,rfl,rfl⟩
set_option maxRecDepth 20000 in
theorem c_nat_estimate (x0:List Int) (x1:List Int) (A1:Option Addr) (c2:Nat) (A4:Option Addr) (c5:Nat) (bp0:Nat) (pre ys:List Int) (w:World) (hT:TB w) (q0:WN 179 bp0 pre ys w A1 x0.length c2 x0) (hb0:bp0≠0) (n6:RLu w A4 c5 x1) (ap0:Apart A4 x1 bp0) (r:(Int) × List Int) (hr:HF x0 x1=some r) :
  Calls Tryz.prog 268 #[.slice A1 x0.length c2,.slice A4 x1.length c5] w (RetW 179 bp0 pre ys x0.length Py w r):=by
 unfold HF at hr
 refine Mp Tryz.func268 rfl [.slice A1 x0.length c2,.slice A4 x1.length c5,uu,uu,uu,uu,uu,uu,uu,uu,uu,uu,uu,uu,uu,uu,uu,uu,uu,uu,uu,uu,uu,uu,uu,uu,uu,uu,uu,uu,uu,uu,uu,uu,uu,uu,uu,uu,uu,uu,uu,uu,uu,uu,uu,uu,uu,uu,uu,uu,uu,uu,uu,uu,uu,uu,uu,uu,uu,uu,uu,uu,uu,uu,uu,uu,uu,uu,uu,uu,uu,uu,uu,uu,uu,uu,uu,uu,uu,uu,uu,uu,uu,uu,uu,uu,uu,uu,uu,uu,uu,uu,uu,uu,uu,uu,uu,uu,uu,uu,uu,uu,uu,uu,uu,uu,uu,uu,uu] (by kernel_rfl) ?_
 refine wp_seq_k fun _ h7=>Ae<|sV (Ac rfl) ?_
 refine wh h7<|wp_seq_k fun _ h8=>Ae<|sV3 (Aa rfl) (Ax AU rfl) (Ac rfl) ?_
 refine wh h8<|wp_seq_k fun _ h9=>Dn [] 14 mo rfl fun w1 E5a S7d=>have X7f:=UpdS.ext (UpdS.refl [bp0] w) E5a;dA 0 rfl (fun _=>Aa rfl) ?_
 refine dA 1 rfl (fun _=>Aa rfl) ?_
 obtain ⟨u6a,h8f,f9f⟩:=Ab hr
 obtain ⟨bb16,hA0g,hz6p,ia1g,ib2g,hc21⟩:=WN.nthc (q0.ext E5a) h8f
 refine dA 2 rfl (fun _=>As AU An rfl rfl hA0g ia1g ib2g) ?_
 refine dV 3 rfl (fun _ hw=>Af AQ rfl (CA hc21 hw)) S7d ?_
 refine dA 4 rfl (fun _=>AE (c:=wu64 u6a) AF AD rfl rfl) ?_
 refine dA 5 rfl (fun _=>JF (c:=wu64 ((wu64 u6a)*2^min (32:Int).toNat IntKind.u64.bits)) (by decide) rfl rfl rfl) ?_
 refine dA 6 rfl (fun _=>Aa rfl) ?_
 refine dA 7 rfl (fun _=>Aa rfl) ?_
 refine dA 8 rfl (fun _=>Ba (c:=wi64 ((x1.length:Int) - 1)) rfl rfl rfl) ?_
 obtain ⟨u8a,h3g,f4g⟩:=Ab f9f
 obtain ⟨bb25,hA5g,hz7p,ia6g,ib7g,hc30⟩:=WN.nthc (q0.ext E5a) h3g
 refine dA 9 rfl (fun _=>As AU An rfl rfl hA5g ia6g ib7g) ?_
 refine dV 10 rfl (fun _ hw=>Af AQ rfl (CA hc30 hw)) S7d ?_
 refine dA 11 rfl (fun _=>AE (c:=wu64 u8a) AF AD rfl rfl) ?_
 refine dA 12 rfl (fun _=>Nt rfl rfl) ?_
 refine dA 13 rfl (fun _=>Ac rfl) ?_
 refine Cn (by kernel_rfl) ?_
 refine h9 _ _<|wp_seq_k fun _ h8g=>Ae<|sV3 (Aa rfl) (Aa rfl) (Aa rfl) ?_
 refine sV (Ba (c:=wi64 ((x1.length:Int) - 1)) rfl rfl rfl) ?_
 obtain ⟨u32,h9g,f0h⟩:=Ab f4g
 obtain ⟨bb35,oo36,hA1h,ia2h,ib3h,hc38⟩:=RL.nth (n6.ext E5a) h9g
 refine sV3 (As AU An rfl rfl hA1h ia2h ib3h) (Af AQ rfl hc38) (AE (c:=wu64 u32) AF AD rfl rfl) ?_
 obtain ⟨_,h4h,f5h⟩:=Ab f0h
 have gd44:=Az h4h
 refine sV3 (Hj (c:=wu64 ((bor .u64 (wu64 ((wu64 u6a)*2^min (32:Int).toNat IntKind.u64.bits)) (wu64 u8a)).tdiv (wu64 u32))) (decide_eq_true gd44) rfl rfl rfl) (Oc rfl rfl) (Ac rfl) ?_
 refine wh h8g<|wp_seq_k fun _ h6h=>wp_seq_k fun _ h7h=>Ae<|sV3 (Aa rfl) (Aa rfl) (Aa rfl) ?_
 refine sV2 (Aa rfl) (Ba (c:=wi64 ((x1.length:Int) - 1)) rfl rfl rfl) ?_
 obtain ⟨u1c,h8h,f9h⟩:=Ab f5h
 obtain ⟨bb50,oo51,hA0i,ia1i,ib2i,hc53⟩:=RL.nth (n6.ext E5a) h8h
 refine sV3 (As AU An rfl rfl hA0i ia1i ib2i) (Af AQ rfl hc53) (AE (c:=wu64 u1c) AF AD rfl rfl) ?_
 refine sV3 (Jq (c:=wu64 ((min (wu64 ((bor .u64 (wu64 ((wu64 u6a)*2^min (32:Int).toNat IntKind.u64.bits)) (wu64 u8a)).tdiv (wu64 u32))) 4294967295)*(wu64 u1c))) rfl rfl rfl) (Ba (c:=wu64 ((bor .u64 (wu64 ((wu64 u6a)*2^min (32:Int).toNat IntKind.u64.bits)) (wu64 u8a)) - (wu64 ((min (wu64 ((bor .u64 (wu64 ((wu64 u6a)*2^min (32:Int).toNat IntKind.u64.bits)) (wu64 u8a)).tdiv (wu64 u32))) 4294967295)*(wu64 u1c))))) rfl rfl rfl) (Ac rfl) ?_
 refine wh h7h ?_
 obtain ⟨m3b,h3i,f4i⟩:=Ab f9h
 refine BX (fun l l' w'=>Ext w1 w'∧Fr l' (fun t2c=>.slice A1 x0.length c2::.slice A4 x1.length c5::gp t2c 2 5 (.int .u64 m3b::gp t2c 8 101 []))) ?_ ?_
 ·apply wp_block
  refine AP (fun l n8d l' w'=>∃(v4a:Int) (v3a:Int) (t2a:Nat→Value),Ext w1 w'∧FL x0 x1 n8d v4a v3a=some m3b∧Fr l' (fun t5b=>.slice A1 x0.length c2::.slice A4 x1.length c5::gp t5b 2 3 (.int .i64 (x1.length:Int)::gp t5b 6 1 (.int .u64 v4a::.int .u64 v3a::gp t5b 9 39 ((t2a 0)::(t2a 1)::(t2a 2)::(t2a 3)::(t2a 4)::(t2a 5)::(t2a 6)::(t2a 7)::(t2a 8)::(t2a 9)::(t2a 10)::(t2a 11)::(t2a 12)::(t2a 13)::(t2a 14)::(t2a 15)::(t2a 16)::(t2a 17)::gp t5b 66 43 []))))) 18446744073709551616 ?_ ?_ ?_
  ·exact ⟨(min (wu64 ((bor .u64 (wu64 ((wu64 u6a)*2^min (32:Int).toNat IntKind.u64.bits)) (wu64 u8a)).tdiv (wu64 u32))) 4294967295),(wu64 ((bor .u64 (wu64 ((wu64 u6a)*2^min (32:Int).toNat IntKind.u64.bits)) (wu64 u8a)) - (wu64 ((min (wu64 ((bor .u64 (wu64 ((wu64 u6a)*2^min (32:Int).toNat IntKind.u64.bits)) (wu64 u8a)).tdiv (wu64 u32))) 4294967295)*(wu64 u1c))))),(tk [uu,uu,uu,uu,uu,uu,uu,uu,uu,uu,uu,uu,uu,uu,uu,uu,uu,uu]),(Ext.refl _),h3i,(Fr.mk (by kernel_rfl))⟩
  ·rintro l' w' ⟨v4a,v3a,t2a,_,hz,_⟩
   exact nomatch hz
  ·rintro n8d ih5i _ w2 ⟨v4a,v3a,t2a,U6b,hr9d,⟨t5b,rfl⟩⟩ l'' hl
   simp only [gp,Nat.reduceAdd] at hl
   subst hl
   unfold FL at hr9d
   refine AV<|wp_seq_k fun _ h6i=>wp_seq_k fun _ h7i=>Dn [] 22 mo rfl fun w3 E7b S0e=>dA 0 rfl (fun _=>Aa rfl) ?_
   refine dab 1 rfl (by kernel_rfl) (fun _ _ _ h=>h) (by rfl) (fun _=>Cj rfl rfl) fun z1e hz1e=>?_
   refine dnrm ?_
   refine dA 2 rfl (fun _=>Aa rfl) ?_
   obtain ⟨m8i,h9i,f0j⟩:=Ab hr9d
   refine IN #[true,true,true,true,true,true,true,true,true,true,true,true,true,true,true,true,true,true,true,true,true,true] 0 (fun l l' w'=>∃(t1a:Nat→Value),w3=w'∧l'=(((((((((((((((((((l.set 48 (t1a 0)).set 49 (t1a 1)).set 50 (t1a 2)).set 51 (t1a 3)).set 52 (t1a 4)).set 53 (t1a 5)).set 54 (t1a 6)).set 55 (t1a 7)).set 56 (t1a 8)).set 57 (t1a 9)).set 58 (t1a 10)).set 59 (t1a 11)).set 60 (t1a 12)).set 61 (t1a 13)).set 62 (t1a 14)).set 63 (t1a 15)).set 64 (t1a 16)).set 65 (t1a 17)).set 66 (.bool m8i))) ?_ ?_
   ·intro HJ553
    rcases zi hz1e h9i with ⟨e0a,_,f1j⟩ | ⟨e0a,_,f2j⟩
    ·refine dA 3 rfl (fun _=>Aa rfl) ?_ (hw:=wgT rfl e0a)
     refine dA 4 rfl (fun _=>Aa rfl) ?_ (hw:=wgT rfl e0a)
     refine dA 5 rfl (fun _=>Aa rfl) ?_ (hw:=wgT rfl e0a)
     refine dA 6 rfl (fun _=>Ba (c:=wi64 ((x1.length:Int) - 2)) rfl rfl rfl) ?_ (hw:=wgT rfl e0a)
     have n3j:=((n6.ext E5a).ext U6b).ext E7b
     obtain ⟨u0b,h4j,f5j⟩:=Ab f1j
     obtain ⟨bb563,oo564,hA6j,ia7j,ib8j,hc566⟩:=RL.nth n3j h4j
     refine dA 7 rfl (fun _=>As AU An rfl rfl hA6j ia7j ib8j) ?_ (hw:=wgT rfl e0a)
     refine dV 8 rfl (fun _ hw=>Af AQ rfl (CA hc566 hw)) S0e ?_ (hw:=wgT rfl e0a)
     refine dA 9 rfl (fun _=>AE (c:=wu64 u0b) AF AD rfl rfl) ?_ (hw:=wgT rfl e0a)
     refine dA 10 rfl (fun _=>Jq (c:=wu64 (v4a*(wu64 u0b))) rfl rfl rfl) ?_ (hw:=wgT rfl e0a)
     refine dA 11 rfl (fun _=>Aa rfl) ?_ (hw:=wgT rfl e0a)
     refine dA 12 rfl (fun _=>JF (c:=wu64 (v3a*2^min (32:Int).toNat IntKind.u64.bits)) (by decide) rfl rfl rfl) ?_ (hw:=wgT rfl e0a)
     refine dA 13 rfl (fun _=>Aa rfl) ?_ (hw:=wgT rfl e0a)
     refine dA 14 rfl (fun _=>Aa rfl) ?_ (hw:=wgT rfl e0a)
     refine dA 15 rfl (fun _=>Ba (c:=wi64 ((x1.length:Int) - 2)) rfl rfl rfl) ?_ (hw:=wgT rfl e0a)
     have ow9j:=((q0.ext E5a).ext U6b).ext E7b
     obtain ⟨u4b,h0k,f1k⟩:=Ab f5j
     obtain ⟨bb573,hA2k,hz8p,ia3k,ib4k,hc578⟩:=WN.nthc ow9j h0k
     refine dA 16 rfl (fun _=>As AU An rfl rfl hA2k ia3k ib4k) ?_ (hw:=wgT rfl e0a)
     refine dV 17 rfl (fun _ hw=>Af AQ rfl (CA hc578 hw)) S0e ?_ (hw:=wgT rfl e0a)
     refine dA 18 rfl (fun _=>AE (c:=wu64 u4b) AF AD rfl rfl) ?_ (hw:=wgT rfl e0a)
     refine dA 19 rfl (fun _=>Nt rfl rfl) ?_ (hw:=wgT rfl e0a)
     refine dab 20 rfl (by kernel_rfl) (fun _ _ _ h=>h) (wgT rfl e0a) (fun _=>EX rfl rfl) fun z3c hz3c=>?_
     refine dnrm ?_
     refine dA 21 rfl (fun _=>Ar (evb rfl e0a) rfl) ?_
     obtain rfl:z3c=decide ((bor .u64 (wu64 (v3a*2^min (32:Int).toNat IntKind.u64.bits)) (wu64 u4b))<(wu64 (v4a*(wu64 u0b)))):=bz hz3c
     obtain rfl:=sj f1k
     exact EL (by kernel_rfl) (HJ553 _ _ ⟨(tk [.int .u64 v4a,.slice A4 x1.length c5,.int .i64 (x1.length:Int),.int .i64 (wi64 ((x1.length:Int) - 2)),.pointer (some ⟨bb563,oo564+((wi64 ((x1.length:Int) - 2)):Int).toNat,none⟩),.int .u32 u0b,.int .u64 (wu64 u0b),.int .u64 (wu64 (v4a*(wu64 u0b))),.int .u64 v3a,.int .u64 (wu64 (v3a*2^min (32:Int).toNat IntKind.u64.bits)),.slice A1 x0.length c2,.int .i64 (x1.length:Int),.int .i64 (wi64 ((x1.length:Int) - 2)),.pointer (some ⟨bb573,List.length pre+((wi64 ((x1.length:Int) - 2)):Int).toNat,none⟩),.int .u32 u4b,.int .u64 (wu64 u4b),.int .u64 (bor .u64 (wu64 (v3a*2^min (32:Int).toNat IntKind.u64.bits)) (wu64 u4b)),.bool (decide ((bor .u64 (wu64 (v3a*2^min (32:Int).toNat IntKind.u64.bits)) (wu64 u4b))<(wu64 (v4a*(wu64 u0b)))))]),(by trivial),(by simp only [S0,S1]<;>rfl)⟩)
    ·refine dP 3 rfl ?_ (hw:=wgF rfl e0a)
     refine dP 4 rfl ?_ (hw:=wgF rfl e0a)
     refine dP 5 rfl ?_ (hw:=wgF rfl e0a)
     refine dP 6 rfl ?_ (hw:=wgF rfl e0a)
     refine dP 7 rfl ?_ (hw:=wgF rfl e0a)
     refine dP 8 rfl ?_ (hw:=wgF rfl e0a)
     refine dP 9 rfl ?_ (hw:=wgF rfl e0a)
     refine dP 10 rfl ?_ (hw:=wgF rfl e0a)
     refine dP 11 rfl ?_ (hw:=wgF rfl e0a)
     refine dP 12 rfl ?_ (hw:=wgF rfl e0a)
     refine dP 13 rfl ?_ (hw:=wgF rfl e0a)
     refine dP 14 rfl ?_ (hw:=wgF rfl e0a)
     refine dP 15 rfl ?_ (hw:=wgF rfl e0a)
     refine dP 16 rfl ?_ (hw:=wgF rfl e0a)
     refine dP 17 rfl ?_ (hw:=wgF rfl e0a)
     refine dP 18 rfl ?_ (hw:=wgF rfl e0a)
     refine dP 19 rfl ?_ (hw:=wgF rfl e0a)
     refine dP 20 rfl ?_ (hw:=wgF rfl e0a)
     refine dA 21 rfl (fun _=>Aw (evb rfl e0a) rfl) ?_
     obtain rfl:=sj f2j
     exact EL (by kernel_rfl) (HJ553 _ _ ⟨(tk [uu,uu,uu,uu,uu,uu,uu,uu,uu,uu,uu,uu,uu,uu,uu,uu,uu,uu]),(by trivial),(by simp only [S0,S1]<;>rfl)⟩)
   ·rintro l' _ ⟨t1a,rfl,hq'⟩ l'' hl
    rw [hq'] at hl
    clear hq'
    simp only [S0,S1] at hl
    subst hl
    refine Cn (by kernel_rfl) ?_
    refine h7i _ _ ?_
    rcases zb f0j with ⟨e4c,f5k⟩ | ⟨e4c,f6k⟩
    ·refine wp_cond_true (Ai (evb rfl e4c))<|wp_skip<|h6i _ _<|wp_seq_k fun _ h7k=>?_
     apply wp_block
     refine Ae<|sV3 (Aa rfl) (Ba (c:=wu64 (v4a - 1)) rfl rfl rfl) (Ac rfl) ?_
     refine wh h7k<|Ae<|sV3 (Aa rfl) (Aa rfl) (Aa rfl) ?_
     refine sV (Ba (c:=wi64 ((x1.length:Int) - 1)) rfl rfl rfl) ?_
     have n8k:=((n6.ext E5a).ext U6b).ext E7b
     obtain ⟨u5c,h9k,f0l⟩:=Ab f5k
     obtain ⟨bb595,oo596,hA1l,ia2l,ib3l,hc598⟩:=RL.nth n8k h9k
     refine sV3 (As AU An rfl rfl hA1l ia2l ib3l) (Af AQ rfl hc598) (AE (c:=wu64 u5c) AF AD rfl rfl) ?_
     refine sV2 (AM (c:=wu64 (v3a+(wu64 u5c))) rfl rfl rfl) (Ac rfl) ?_
     refine AG ?_
     exact ih5i _ _ ⟨(wu64 (v4a - 1)),(wu64 (v3a+(wu64 u5c))),(tk [t1a 0,t1a 1,t1a 2,t1a 3,t1a 4,t1a 5,t1a 6,t1a 7,t1a 8,t1a 9,t1a 10,t1a 11,t1a 12,t1a 13,t1a 14,t1a 15,t1a 16,t1a 17]),(U6b.trans E7b),f0l,(Fr.mk (by kernel_rfl))⟩
    ·refine wp_cond_false (Ai (evb rfl e4c))<|wp_exit ?_
     simp only [Exit.then,Exit.inBlock,↓reduceIte,Nat.reduceEqDiff]
     obtain rfl:=sj f6k
     exact ⟨_,rfl,(U6b.trans E7b),(Fr.mk (by kernel_rfl))⟩
 ·rintro _ w2 ⟨U6c,⟨t2c,rfl⟩⟩ l'' hl
  simp only [gp,Nat.reduceAdd] at hl
  subst hl
  have X2e:=UpdS.ext X7f U6c
  refine h6h _ _<|wp_seq_k fun _ h4l=>wp_seq_k fun _ h5l=>Ae<|sV3 (Aa rfl) (Aa rfl) (Aa rfl) ?_
  have ow3e:=(q0.ext E5a).ext U6c
  obtain ⟨r7c,h6l,f7l⟩:=Ab f4i
  refine scK (Ad en_283 (by rfl)) (c_nat_takes x0 x1 m3b A1 c2 A4 c5 bp0 pre ys w2 (TB.updW X2e hb0 hT) ow3e hb0 ((n6.ext E5a).ext U6c) ap0 r7c h6l) ?_
  rintro _ w3 ⟨U8l,hl610,q9l,_,rfl,rfl⟩
  refine ⟨_,rfl,?_⟩
  refine nrm ?_
  have ow4e:=WN.upd ow3e hl610 q9l
  have X5e:=UpdS.tr X2e U8l
  refine wh h5l ?_
  obtain ⟨m8c,h6e,f0m⟩:=Ab f7l
  refine BX (fun l l' w'=>UpdS [bp0] w w'∧WN 179 bp0 pre ys w' A1 x0.length c2 m8c.2∧Fr l' (fun t9c=>gp t9c 0 7 (.int .u64 m8c.1::gp t9c 8 101 []))) ?_ ?_
  ·rcases bft r7c.1 with e8b | e8b
   ·have p1m:=e8b
    have f2m:=ifP p1m h6e
    refine wp_cond_true (Ai (evb rfl e8b))<|wp_seq_k fun _ h3m=>Ae<|sV3 (Aa rfl) (Ba (c:=wu64 (m3b - 1)) rfl rfl rfl) (Ac rfl) ?_
    refine wh h3m<|wp_seq_k fun _ h4m=>Ae<|sV (Ac rfl) ?_
    refine wh h4m<|wp_seq_k fun _ h5m=>Ae<|sV3 (Aa rfl) (Ax AU rfl) (Aa rfl) ?_
    refine wh h5m ?_
    obtain ⟨m7e,h6m,f7m⟩:=Ab f2m
    refine BX (fun l l' w'=>UpdS [bp0] w w'∧WN 179 bp0 pre ys w' A1 x0.length c2 m7e∧Fr l' (fun t0d=>gp t0d 0 7 (.int .u64 (wu64 (m3b - 1))::gp t0d 8 101 []))) ?_ ?_
    ·apply wp_block
     refine AP (fun l n8e l' w'=>∃(v7a:Int) (v9a:Int) (v9b:List Int),UpdS [bp0] w w'∧WN 179 bp0 pre ys w' A1 x0.length c2 v9b∧Ep x0 x1 n8e v7a v9a v9b=some m7e∧Fr l' (fun t0c=>.slice A1 x0.length c2::.slice A4 x1.length c5::gp t0c 2 5 (.int .u64 (wu64 (m3b - 1))::gp t0c 8 1 (.int .u64 v7a::gp t0c 10 74 (.int .i64 ((x0.length:Nat):Int)::.int .i64 v9a::gp t0c 86 23 []))))) 18446744073709551616 ?_ ?_ ?_
     ·exact ⟨0,0,r7c.2,X5e,ow4e,h6m,(Fr.mk (by kernel_rfl))⟩
     ·rintro l' w' ⟨v7a,v9a,v9b,_,_,hz,_⟩
      exact nomatch hz
     ·rintro n8e ih8m _ w4 ⟨v7a,v9a,v9b,X9e,ow1d,hr0f,⟨t0c,rfl⟩⟩ l'' hl
      simp only [gp,Nat.reduceAdd] at hl
      subst hl
      unfold Ep at hr0f
      refine AV<|wp_seq_k fun _ h9m=>Ae<|sb (Cj rfl rfl) fun z1f hz1f=>?_
      refine nrm ?_
      refine wh h9m<|wp_seq_k fun _ h0n=>?_
      rcases zi hz1f hr0f with ⟨e2d,_,f1n⟩ | ⟨e2d,_,f2n⟩
      ·refine wp_cond_true (Ai (evb rfl e2d))<|wp_skip<|h0n _ _<|wp_seq_k fun _ h3n=>?_
       apply wp_block
       refine wp_seq_k fun _ h4n=>Ae<|sV2 (Aa rfl) (Ac rfl) ?_
       refine wh h4n<|wp_seq_k fun _ h5n=>Dn [] 12 mo rfl fun w5 E3d S2f=>have X4d:=UpdS.ext X9e E3d;dA 0 rfl (fun _=>Aa rfl) ?_
       refine dA 1 rfl (fun _=>Aa rfl) ?_
       refine dA 2 rfl (fun _=>Aa rfl) ?_
       obtain ⟨u1b,h6n,f7n⟩:=Ab f1n
       obtain ⟨bb1304,hA8n,hz9p,ia9n,ib0o,hc1309⟩:=WN.nthc (ow1d.ext E3d) h6n
       refine dA 3 rfl (fun _=>As AU An rfl rfl hA8n ia9n ib0o) ?_
       refine dV 4 rfl (fun _ hw=>Af AQ rfl (CA hc1309 hw)) S2f ?_
       refine dA 5 rfl (fun _=>AE (c:=wu64 u1b) AF AD rfl rfl) ?_
       refine dA 6 rfl (fun _=>Aa rfl) ?_
       refine dA 7 rfl (fun _=>Aa rfl) ?_
       obtain ⟨r2b,h1o,f2o⟩:=Ab f7n
       refine dc 8 rfl (by kernel_rfl) (by rfl) (Ad La (by rfl)) (Fm x1 v9a A4 c5 w5 (TB.updW X4d hb0 hT) (RL.updW n6 X4d ap0) r2b h1o) ?_
       rintro _ w6 E5d rfl
       refine dnrm ?_
       have X3o:=UpdS.ext X4d E5d
       have S0q:=S2f.trans E5d
       refine dA 9 rfl (fun _=>AM (c:=wu64 ((wu64 u1b)+r2b)) rfl rfl rfl) ?_
       refine dA 10 rfl (fun _=>AM (c:=wu64 (v7a+(wu64 ((wu64 u1b)+r2b)))) rfl rfl rfl) ?_
       refine dA 11 rfl (fun _=>Ac rfl) ?_
       refine Cn (by kernel_rfl) ?_
       refine h5n _ _<|wp_seq_k fun _ h4o=>Ae<|sV3 (Aa rfl) (Aa rfl) (Aa rfl) ?_
       refine sV (AE (c:=wu32 (wu64 (v7a+(wu64 ((wu64 u1b)+r2b))))) AD AF rfl rfl) ?_
       have ow6d:=(ow1d.ext E3d).ext E5d
       obtain ⟨u1q,h5o,f6o⟩:=Ab f2o
       obtain ⟨bb1321,hA3f,hz2q,ia4f,ib5f,hc1326⟩:=WN.nthc ow6d h5o
       refine sV (As AU An rfl rfl hA3f ia4f ib5f) ?_
       refine PP An rfl rfl ow6d hA3f ia4f (by rw [WN.len ow6d];exact ib5f) fun w7 U7o ow8o=>?_
       have X9o:=UpdS.tr X3o U7o
       refine wh h4o<|Ae<|sV2 (Aa rfl) (GS (c:=(wu64 (v7a+(wu64 ((wu64 u1b)+r2b)))).fdiv (2^min (32:Int).toNat IntKind.u64.bits)) (by decide) rfl rfl rfl) ?_
       refine sV (Ac rfl) ?_
       refine wh h3n<|Ae<|sV2 (AM (c:=wi64 (v9a+1)) rfl rfl rfl) (Aa rfl) ?_
       refine AG ?_
       exact ih8m _ _ ⟨((wu64 (v7a+(wu64 ((wu64 u1b)+r2b)))).fdiv (2^min (32:Int).toNat IntKind.u64.bits)),(wi64 (v9a+1)),(List.set v9b (v9a:Int).toNat (wu32 (wu64 (v7a+(wu64 ((wu64 u1b)+r2b)))))),X9o,ow8o,f6o,(Fr.mk (by kernel_rfl))⟩
      ·refine wp_cond_false (Ai (evb rfl e2d))<|wp_exit ?_
       simp only [Exit.then,Exit.inBlock,↓reduceIte,Nat.reduceEqDiff]
       obtain rfl:=sj f2n
       exact ⟨_,rfl,X9e,ow1d,(Fr.mk (by kernel_rfl))⟩
    ·rintro _ w4 ⟨X0p,ow1p,⟨t0d,rfl⟩⟩ l'' hl
     simp only [gp,Nat.reduceAdd] at hl
     subst hl
     obtain rfl:=sj f7m
     exact ⟨_,rfl,X0p,ow1p,(Fr.mk (by kernel_rfl))⟩
   ·have p2p:=bF e8b
    have f3p:=ifN p2p h6e
    refine wp_cond_false (Ai (evb rfl e8b))<|wp_skip ?_
    obtain rfl:=sj f3p
    exact ⟨_,rfl,X5e,ow4e,(Fr.mk (by kernel_rfl))⟩
  ·rintro _ w4 ⟨X4p,ow6f,⟨t9c,rfl⟩⟩ l'' hl
   simp only [gp,Nat.reduceAdd] at hl
   subst hl
   refine h4l _ _<|wp_seq_k fun _ h5p=>Ae<|sV3 (Aa rfl) (AE (c:=wu32 m8c.1) AD AF rfl rfl) (Ac rfl) ?_
   refine wh h5p<|wp_ret ?_
   obtain rfl:=sj f0m
   exact fin rfl (Res.tmp rfl Res.nil) ⟨X4p,WN.len ow6f,WN.bx ow6f,_,rfl,rfl⟩
theorem IK (x0:List Int) (x1:List Int) (A1:Option Addr) (c2:Nat) (A4:Option Addr) (c5:Nat) (w:World) (hT:TB w) (n3:RLu w A1 c2 x0) (n6:RLu w A4 c5 x1) (r:List Int × List Int) (hr:Cm x0 x1=some r) :
  Calls Tryz.prog 244 #[.slice A1 x0.length c2,.slice A4 x1.length c5] w (Ret LZ w r):=by
 unfold Cm at hr
 go_enter Tryz.func244,Tryz.ntmps244
 refine wp_seq_k fun _ h7=>Ae<|sV2 (Ac rfl) (Ac rfl) ?_
 refine wh h7<|wp_seq_k fun _ h8=>?_
 apply wp_block
 refine wp_seq_k fun _ h9=>Ae<|sV2 (Aa rfl) (Ax AU rfl) ?_
 refine sb (Bl rfl rfl) fun z5a hz5a=>?_
 refine nrm ?_
 refine sV (Ac rfl) ?_
 refine wh h9 ?_
 rcases zi hz5a hr with ⟨e3b,_,f5f⟩ | ⟨e3b,_,f6f⟩
 ·refine wp_cond_true (Ai (evb rfl e3b))<|wp_seq_k fun _ h7f=>Ae<|sV2 (Aa rfl) (Aa rfl) ?_
  obtain ⟨u8f,h9f,f0g⟩:=Ab f5f
  obtain ⟨bb528,oo529,hA1g,ia2g,ib3g,hc531⟩:=RL.nth n6 h9f
  refine sV2 (As AU An rfl rfl hA1g ia2g ib3g) (Af AQ rfl hc531) ?_
  obtain ⟨r4g,h5g,f6g⟩:=Ab f0g
  refine sc (Ad en_267 (by rfl)) (c_nat_limbs_short x0 u8f A1 c2 w hT n3 r4g h5g) ?_
  rintro _ w1 E7g ⟨A8g,c9g,A0h,c1h,rfl,n2h,n3h⟩
  refine nrm ?_
  refine sV3 (Av rfl rfl) (Av rfl rfl) (Ac rfl) ?_
  refine sV (Ac rfl) ?_
  refine wh h7f<|wp_ret ?_
  obtain rfl:=sj f6g
  exact fin rfl (Res.tmp rfl (Res.tmp rfl Res.nil)) (Aj E7g ⟨A8g,c9g,A0h,c1h,rfl,n2h,n3h⟩)
 ·refine wp_cond_false (Ai (evb rfl e3b))<|wp_seq_k fun _ h4h=>Ae<|sV2 (Aa rfl) (Aa rfl) ?_
  obtain ⟨r5h,h6h,f7h⟩:=Ab f6f
  refine sc (Ad OV (by rfl)) (HX x0 x1 A1 c2 A4 c5 w hT n3 n6 r5h h6h) ?_
  rintro _ w1 E6a rfl
  refine nrm ?_
  refine sb (Cj rfl rfl) fun z8c hz8c=>?_
  refine nrm ?_
  refine sV (Ac rfl) ?_
  refine wh h4h ?_
  rcases zi hz8c f7h with ⟨e4b,_,f8h⟩ | ⟨e4b,_,f9h⟩
  ·refine wp_cond_true (Ai (evb rfl e4b))<|wp_seq_k fun _ h0i=>Ae<|sV3 (Aa rfl) (Ac rfl) (Ac rfl) ?_
   refine wh h0i<|wp_ret ?_
   obtain rfl:=sj f8h
   exact fin rfl (Res.tmp rfl (Res.tmp rfl Res.nil)) (Aj E6a ⟨none,0,A1,c2,rfl,(RL.nil _ _ _),(n3.ext E6a)⟩)
  ·refine wp_cond_false (Ai (evb rfl e4b))<|wp_skip<|h8 _ _<|wp_seq_k fun _ h1i=>Ae<|sV3 (Aa rfl) (Aa rfl) (Ax AU rfl) ?_
   refine sV (Ba (c:=wi64 ((x1.length:Int) - 1)) rfl rfl rfl) ?_
   obtain ⟨u2i,h3i,f4i⟩:=Ab f9h
   obtain ⟨bb60,oo61,hA5i,ia6i,ib7i,hc63⟩:=RL.nth (n6.ext E6a) h3i
   refine sV2 (As AU An rfl rfl hA5i ia6i ib7i) (Af AQ rfl hc63) ?_
   obtain ⟨r4a,h8i,f9i⟩:=Ab f4i
   refine sc (Ad OZ (by rfl)) (FR u2i w1 (tbx E6a hT)  r4a h8i) ?_
   rintro _ w2 E0j rfl
   refine nrm ?_
   have X5b:=xtr E6a E0j
   refine sV (Ac rfl) ?_
   refine wh h1i<|wp_seq_k fun _ h1j=>Ae<|sV2 (Aa rfl) (Aa rfl) ?_
   obtain ⟨r0a,h2j,f3j⟩:=Ab f9i
   refine sc (Ad NG (by rfl)) (Hh x1 r4a A4 c5 w2 (tbx X5b hT) (n6.ext X5b) r0a h2j) ?_
   rintro _ w3 E4j ⟨A9c,c0d,rfl,n1d⟩
   refine nrm ?_
   have X1b:=xtr X5b E4j
   refine sV (Ac rfl) ?_
   refine wh h1j<|wp_seq_k fun _ h5j=>Ae<|sV3 (Aa rfl) (Ax AU rfl) (Ac rfl) ?_
   refine wh h5j<|wp_seq_k fun _ h6j=>Ae<|sV3 (Aa rfl) (Ax AU rfl) (AM (c:=wi64 ((x0.length:Int)+1)) rfl rfl rfl) ?_
   obtain ⟨_,h7j,f8j⟩:=Ab f3j
   have gd85:=Az h7j
   refine GV AU CJ rfl rfl gd85 fun A7a w4 E2d ow9j=>?_
   refine nrm ?_
   have X6b:=xtr X1b E2d
   refine sV (Ac rfl) ?_
   refine wh h6j<|wp_seq_k fun _ h0k=>Ae<|sV3 (Aa rfl) (Aa rfl) (Aa rfl) ?_
   obtain ⟨r7b,h1k,f2k⟩:=Ab f8j
   refine sc (Ad NG (by rfl)) (Hh x0 r4a A1 c2 w4 (tbx X6b hT) (n3.ext X6b) r7b h1k) ?_
   rintro _ w5 E8b ⟨A6p,c7p,rfl,n3k⟩
   refine nrm ?_
   have X4k:=xtr X6b E8b
   have X5k:=xtr E2d E8b
   refine QJ AU An rfl rfl (ow9j.ext E8b) n3k fun w6 B101 ow3d=>?_
   refine nrm ?_
   have X4d:=xO X4k B101 X1b.size
   have X5d:=xO X5k B101 (Nat.le_refl _)
   refine wh h0k<|wp_seq_k fun _ h6k=>Ae<|sV3 (Aa rfl) (Ax AU rfl) (Aa rfl) ?_
   refine sV (Ba (c:=wi64 ((((((wi64 ((x0.length:Int)+1)):Int).toNat):Nat):Int) - (r0a.length:Int))) rfl rfl rfl) ?_
   obtain ⟨_,h7k,f8k⟩:=Ab f2k
   have gd112:=Az h7k
   have hl113:=OW.lt ow3d
   refine GV AU CJ rfl rfl gd112 fun A8a w7 E9b ow9k=>?_
   refine nrm ?_
   have X0l:=xtr X4d E9b
   have X1l:=xtr X5d E9b
   refine sV (Ac rfl) ?_
   refine wh h6k<|wp_seq_k fun _ h2l=>wp_seq_k fun _ h3l=>Ae<|sV3 (Aa rfl) (Ax AU rfl) (Ba (c:=wi64 ((((((wi64 ((((((wi64 ((x0.length:Int)+1)):Int).toNat):Nat):Int) - (r0a.length:Int))):Int).toNat):Nat):Int) - 1)) rfl rfl rfl) ?_
   refine sV (Ac rfl) ?_
   refine wh h3l ?_
   obtain ⟨m9a,h4l,f5l⟩:=Ab f8k
   refine BX (fun l l' w'=>Ext w w'∧Ext w3 w'∧OW 179 w6.heap.size w' A8a (((wi64 ((((((wi64 ((x0.length:Int)+1)):Int).toNat):Nat):Int) - (r0a.length:Int))):Int).toNat) (((wi64 ((((((wi64 ((x0.length:Int)+1)):Int).toNat):Nat):Int) - (r0a.length:Int))):Int).toNat) m9a.1∧OW 179 w3.heap.size w' A7a (((wi64 ((x0.length:Int)+1)):Int).toNat) (((wi64 ((x0.length:Int)+1)):Int).toNat) m9a.2∧Fr l' (fun t2b=>gp t2b 0 6 (.int .i64 r4a::gp t2b 7 2 (.slice A7a (((wi64 ((x0.length:Int)+1)):Int).toNat) (((wi64 ((x0.length:Int)+1)):Int).toNat)::.slice A8a (((wi64 ((((((wi64 ((x0.length:Int)+1)):Int).toNat):Nat):Int) - (r0a.length:Int))):Int).toNat) (((wi64 ((((((wi64 ((x0.length:Int)+1)):Int).toNat):Nat):Int) - (r0a.length:Int))):Int).toNat)::gp t2b 11 69 [])))) ?_ ?_
   ·apply wp_block
    refine AP (fun l n6d l' w'=>∃(v1a:Int) (v0b:List Int) (v2a:List Int),Ext w w'∧Ext w3 w'∧OW 179 w6.heap.size w' A8a (((wi64 ((((((wi64 ((x0.length:Int)+1)):Int).toNat):Nat):Int) - (r0a.length:Int))):Int).toNat) (((wi64 ((((((wi64 ((x0.length:Int)+1)):Int).toNat):Nat):Int) - (r0a.length:Int))):Int).toNat) v0b∧OW 179 w3.heap.size w' A7a (((wi64 ((x0.length:Int)+1)):Int).toNat) (((wi64 ((x0.length:Int)+1)):Int).toNat) v2a∧Ee x0 x1 r0a n6d v1a v0b v2a=some m9a∧Fr l' (fun t0c=>gp t0c 0 6 (.int .i64 r4a::.slice A9c r0a.length c0d::.int .i64 (r0a.length:Int)::.slice A7a (((wi64 ((x0.length:Int)+1)):Int).toNat) (((wi64 ((x0.length:Int)+1)):Int).toNat)::.slice A8a (((wi64 ((((((wi64 ((x0.length:Int)+1)):Int).toNat):Nat):Int) - (r0a.length:Int))):Int).toNat) (((wi64 ((((((wi64 ((x0.length:Int)+1)):Int).toNat):Nat):Int) - (r0a.length:Int))):Int).toNat)::.int .i64 v1a::gp t0c 12 68 []))) 18446744073709551616 ?_ ?_ ?_
    ·exact ⟨(wi64 ((((((wi64 ((((((wi64 ((x0.length:Int)+1)):Int).toNat):Nat):Int) - (r0a.length:Int))):Int).toNat):Nat):Int) - 1)),(List.replicate ((wi64 ((((((wi64 ((x0.length:Int)+1)):Int).toNat):Nat):Int) - (r0a.length:Int))):Int).toNat (0:Int)),((r7b).take (List.length (List.replicate ((wi64 ((x0.length:Int)+1)):Int).toNat (0:Int)))++(List.replicate ((wi64 ((x0.length:Int)+1)):Int).toNat (0:Int)).drop r7b.length),X0l,X1l,ow9k,(ow3d.ext E9b),h4l,(Fr.mk (by kernel_rfl))⟩
    ·rintro l' w' ⟨v1a,v0b,v2a,_,_,_,_,hz,_⟩
     exact nomatch hz
    ·rintro n6d ih6l _ w8 ⟨v1a,v0b,v2a,X1c,X2c,ow7d,ow3a,hr8d,⟨t0c,rfl⟩⟩ l'' hl
     simp only [gp,Nat.reduceAdd] at hl
     subst hl
     unfold Ee at hr8d
     refine AV<|wp_seq_k fun _ h7l=>wp_seq_k fun _ h8l=>Ae<|sV (Aa rfl) ?_
     refine sb (Fu rfl rfl) fun z9d hz9d=>?_
     refine nrm ?_
     refine wh h8l ?_
     rcases zi hz9d hr8d with ⟨e3c,_,f9l⟩ | ⟨e3c,_,f0m⟩
     ·refine wp_cond_true (Ai (evb rfl e3c))<|wp_skip<|h7l _ _<|wp_seq_k fun _ h1m=>?_
      apply wp_block
      refine Ae<|sV3 (Aa rfl) (Aa rfl) (Aa rfl) ?_
      refine sV3 (Aa rfl) (Aa rfl) (Aa rfl) ?_
      refine sV2 (AM (c:=wi64 (v1a+(r0a.length:Int))) rfl rfl rfl) (AM (c:=wi64 ((wi64 (v1a+(r0a.length:Int)))+1)) rfl rfl rfl) ?_
      obtain ⟨_,h2m,f3m⟩:=Ab f9l
      have gd460:=Az h2m
      obtain ⟨b0e,ys462,hA1e,hz4m,g4c,q2e,bk467⟩:=OW.win (lo:=(v1a:Int).toNat) (hi:=((wi64 ((wi64 (v1a+(r0a.length:Int)))+1)):Int).toNat) ow3a (by omega) (by rw [←OW.len ow3a];omega)
      refine swin (lo:=(v1a:Int).toNat) (hi:=((wi64 ((wi64 (v1a+(r0a.length:Int)))+1)):Int).toNat) AU An rfl ⟨.i64,by rw [Int.toNat_of_nonneg (a:=v1a) (by omega)];rfl⟩ ⟨.i64,by rw [Int.toNat_of_nonneg (a:=(wi64 ((wi64 (v1a+(r0a.length:Int)))+1))) (by omega)];rfl⟩ (by omega) (by rw [←OW.len ow3a];omega) ow3a hA1e ?_
      refine nrm ?_
      refine sV (Aa rfl) ?_
      obtain ⟨r5c,h5m,f6m⟩:=Ab f3m
      refine scK (Ad en_268 (by rfl)) (c_nat_estimate ((List.drop ((v1a:Int).toNat) v2a).take ((((wi64 ((wi64 (v1a+(r0a.length:Int)))+1)):Int).toNat) - ((v1a:Int).toNat))) r0a (some ⟨b0e,List.length ((v2a).take ((v1a:Int).toNat)),none⟩) ((((wi64 ((x0.length:Int)+1)):Int).toNat) - ((v1a:Int).toNat)) A9c c0d b0e ((v2a).take ((v1a:Int).toNat)) ys462 w8 (tbx X1c hT) ⟨rfl,rfl,q2e,by have:=OW.cap ow3a;simp only [List.length_take,List.length_drop];omega,by have:=(OW.rl ow3a).2.1;omega⟩  (TB.nz (tbx X1b hT) g4c) (n1d.ext X2c) (apartB n1d g4c) r5c h5m) ?_
      rintro _ w9 ⟨U3e,hl473,q7m,_,rfl,rfl⟩
      refine ⟨_,rfl,?_⟩
      refine nrm ?_
      have B475:=UpdS.below U3e g4c q2e.lt
      have ow8m:=bk467 _ _ (by rw [hl473];simp only [List.length_take,List.length_drop];omega) q7m
      have X9m:=xO X1c B475 X1b.size
      have X0n:=xO X2c B475 (Nat.le_refl _)
      have ow6c:=OW.updO ow7d U3e (hl113 _ hA1e hz4m)
      obtain ⟨u8p,h1n,f2n⟩:=Ab f6m
      obtain ⟨bb483,hA4e,hz9p,ia5e,ib6e,hc488⟩:=OW.nthc ow6c h1n
      refine sV (As AU An rfl rfl hA4e ia5e ib6e) ?_
      refine KP An rfl rfl ow6c hA4e ia5e (by rw [OW.len ow6c];exact ib6e) fun w5a B489 U0q ow3n=>?_
      have X4n:=xO X9m B489 X4d.size
      have X5n:=xO X0n B489 X5d.size
      have ow6n:=OW.bel2 ow8m B489 hl113
      refine wh h1m<|Ae<|sV3 (Aa rfl) (Ba (c:=wi64 (v1a - 1)) rfl rfl rfl) (Ac rfl) ?_
      refine AG ?_
      exact ih6l _ _ ⟨(wi64 (v1a - 1)),(List.set v0b (v1a:Int).toNat r5c.1),(((v2a).take ((v1a:Int).toNat))++r5c.2++((v2a).drop (((wi64 ((wi64 (v1a+(r0a.length:Int)))+1)):Int).toNat))),X4n,X5n,ow3n,ow6n,f2n,(Fr.mk (by kernel_rfl))⟩
     ·refine wp_cond_false (Ai (evb rfl e3c))<|wp_exit ?_
      simp only [Exit.then,Exit.inBlock,↓reduceIte,Nat.reduceEqDiff]
      obtain rfl:=sj f0m
      exact ⟨_,rfl,X1c,X2c,ow7d,ow3a,(Fr.mk (by kernel_rfl))⟩
   ·rintro _ w8 ⟨X7e,X1q,ow8e,ow9e,⟨t2b,rfl⟩⟩ l'' hl
    simp only [gp,Nat.reduceAdd] at hl
    subst hl
    refine h2l _ _<|wp_seq_k fun _ h7n=>Ae<|sV (Aa rfl) ?_
    obtain ⟨r8n,h9n,f0o⟩:=Ab f5l
    refine sc (Ad Lj (by simp only [OW.len ow8e];rfl)) (El m9a.1 A8a (((wi64 ((((((wi64 ((x0.length:Int)+1)):Int).toNat):Nat):Int) - (r0a.length:Int))):Int).toNat) w8 (tbx X7e hT) (OW.rl ow8e) r8n h9n) ?_
    rintro _ w9 E7c ⟨A1o,c2o,rfl,n3o⟩
    refine nrm ?_
    have X0f:=xtr X7e E7c
    refine sV (Aa rfl) ?_
    obtain ⟨r1f,h4o,f5o⟩:=Ab f0o
    refine sc (Ad Lj (by simp only [OW.len (ow9e.ext E7c)];rfl)) (El m9a.2 A7a (((wi64 ((x0.length:Int)+1)):Int).toNat) w9 (tbx X0f hT) (OW.rl (ow9e.ext E7c)) r1f h4o) ?_
    rintro _ w5a E2f ⟨A6o,c7o,rfl,n8o⟩
    refine nrm ?_
    have X3f:=xtr X0f E2f
    refine sV (Aa rfl) ?_
    obtain ⟨r9o,h0p,f1p⟩:=Ab f5o
    refine sc (Ad ON (by rfl)) (HW r1f r4a A6o c7o w5a (tbx X3f hT) n8o r9o h0p) ?_
    rintro _ w2q E4f ⟨A2p,c3p,rfl,n4p⟩
    refine nrm ?_
    have X5p:=xtr X3f E4f
    refine sV2 (Ac rfl) (Ac rfl) ?_
    refine wh h7n<|wp_ret ?_
    obtain rfl:=sj f1p
    exact fin rfl (Res.tmp rfl (Res.tmp rfl Res.nil)) (Aj X5p ⟨A1o,c2o,A2p,c3p,rfl,((n3o.ext E2f).ext E4f),n4p⟩)
theorem Jk (x0:List Int) (x1:List Int) (A1:Option Addr) (c2:Nat) (A4:Option Addr) (c5:Nat) (w:World) (hT:TB w) (n3:RLu w A1 c2 x0) (n6:RLu w A4 c5 x1) (r:List Int) (hr:DY x0 x1=some r) :
  Calls Tryz.prog 253 #[.slice A1 x0.length c2,.slice A4 x1.length c5] w (Ret Ko w r):=by
 unfold DY at hr
 go_enter Tryz.func253,Tryz.ntmps253
 refine wp_seq_k fun _ h7=>Ae<|sV (Ac rfl) ?_
 refine wh h7<|wp_seq_k fun _ h8=>Ae<|sV3 (Aa rfl) (Ax AU rfl) (Aa rfl) ?_
 refine sV3 (Ax AU rfl) (Nm rfl rfl) (AM (c:=wi64 ((max (x0.length:Int) (x1.length:Int))+1)) rfl rfl rfl) ?_
 obtain ⟨_,h9,f4c⟩:=Ab hr
 have gd11:=Az h9
 refine GV AU CJ rfl rfl gd11 fun A4a w1 E5c ow6c=>?_
 refine nrm ?_
 refine sV (Ac rfl) ?_
 refine wh h8<|wp_seq_k fun _ h7c=>Ae<|sV (Ac rfl) ?_
 refine wh h7c<|wp_seq_k fun _ h8c=>wp_seq_k fun _ h9c=>Ae<|sV3 (Aa rfl) (Ax AU rfl) (Aa rfl) ?_
 refine wh h9c ?_
 obtain ⟨m8a,h0d,f1d⟩:=Ab f4c
 refine BX (fun l l' w'=>Ext w w'∧OW 179 w.heap.size w' A4a (((wi64 ((max (x0.length:Int) (x1.length:Int))+1)):Int).toNat) (((wi64 ((max (x0.length:Int) (x1.length:Int))+1)):Int).toNat) m8a∧Fr l' (fun t9a=>gp t9a 0 5 (.slice A4a (((wi64 ((max (x0.length:Int) (x1.length:Int))+1)):Int).toNat) (((wi64 ((max (x0.length:Int) (x1.length:Int))+1)):Int).toNat)::gp t9a 6 33 []))) ?_ ?_
 ·apply wp_block
  refine AP (fun l n3b l' w'=>∃(v0a:Int) (v1a:Int) (v5a:List Int),Ext w w'∧OW 179 w.heap.size w' A4a (((wi64 ((max (x0.length:Int) (x1.length:Int))+1)):Int).toNat) (((wi64 ((max (x0.length:Int) (x1.length:Int))+1)):Int).toNat) v5a∧DN x0 x1 n3b v0a v1a v5a=some m8a∧Fr l' (fun t6a=>.slice A1 x0.length c2::.slice A4 x1.length c5::gp t6a 2 3 (.slice A4a (((wi64 ((max (x0.length:Int) (x1.length:Int))+1)):Int).toNat) (((wi64 ((max (x0.length:Int) (x1.length:Int))+1)):Int).toNat)::.int .u64 v0a::gp t6a 7 9 (.int .i64 (((((wi64 ((max (x0.length:Int) (x1.length:Int))+1)):Int).toNat):Nat):Int)::.int .i64 v1a::gp t6a 18 21 [])))) 18446744073709551616 ?_ ?_ ?_
  ·exact ⟨0,0,(List.replicate ((wi64 ((max (x0.length:Int) (x1.length:Int))+1)):Int).toNat (0:Int)),E5c,ow6c,h0d,(Fr.mk (by kernel_rfl))⟩
  ·rintro l' w' ⟨v0a,v1a,v5a,_,_,hz,_⟩
   exact nomatch hz
  ·rintro n3b ih2d _ w2 ⟨v0a,v1a,v5a,X7a,ow4b,hr5b,⟨t6a,rfl⟩⟩ l'' hl
   simp only [gp,Nat.reduceAdd] at hl
   subst hl
   unfold DN at hr5b
   refine AV<|wp_seq_k fun _ h3d=>Ae<|sb (Cj rfl rfl) fun z6b hz6b=>?_
   refine nrm ?_
   refine wh h3d<|wp_seq_k fun _ h4d=>?_
   rcases zi hz6b hr5b with ⟨e0b,_,f5d⟩ | ⟨e0b,_,f6d⟩
   ·refine wp_cond_true (Ai (evb rfl e0b))<|wp_skip<|h4d _ _<|wp_seq_k fun _ h7d=>?_
    apply wp_block
    refine wp_seq_k fun _ h8d=>Ae<|sV2 (Aa rfl) (Ac rfl) ?_
    refine wh h8d<|wp_seq_k fun _ h9d=>Ae<|sV3 (Aa rfl) (Aa rfl) (Aa rfl) ?_
    obtain ⟨r2a,h0e,f1e⟩:=Ab f5d
    refine sc (Ad La (by rfl)) (Fm x0 v1a A1 c2 w2 (tbx X7a hT) (n3.ext X7a) r2a h0e) ?_
    rintro _ w3 E7b rfl
    refine nrm ?_
    have X1b:=xtr X7a E7b
    refine sV2 (Aa rfl) (Aa rfl) ?_
    obtain ⟨r3a,h2e,f3e⟩:=Ab f1e
    refine sc (Ad La (by rfl)) (Fm x1 v1a A4 c5 w3 (tbx X1b hT) (n6.ext X1b) r3a h2e) ?_
    rintro _ w4 E8b rfl
    refine nrm ?_
    have X4e:=xtr X1b E8b
    refine sV3 (AM (c:=wu64 (r2a+r3a)) rfl rfl rfl) (AM (c:=wu64 (v0a+(wu64 (r2a+r3a)))) rfl rfl rfl) (Ac rfl) ?_
    refine wh h9d<|wp_seq_k fun _ h5e=>Ae<|sV3 (Aa rfl) (Aa rfl) (Aa rfl) ?_
    refine sV (AE (c:=wu32 (wu64 (v0a+(wu64 (r2a+r3a))))) AD AF rfl rfl) ?_
    have ow2b:=(ow4b.ext E7b).ext E8b
    obtain ⟨u9f,h6e,f7e⟩:=Ab f3e
    obtain ⟨bb306,hA9b,hz0g,ia0c,ib1c,hc311⟩:=OW.nthc ow2b h6e
    refine sV (As AU An rfl rfl hA9b ia0c ib1c) ?_
    refine KP An rfl rfl ow2b hA9b ia0c (by rw [OW.len ow2b];exact ib1c) fun w5 B312 U1g ow8e=>?_
    have X9e:=xO X4e B312 (Nat.le_refl _)
    refine wh h5e<|Ae<|sV2 (Aa rfl) (GS (c:=(wu64 (v0a+(wu64 (r2a+r3a)))).fdiv (2^min (32:Int).toNat IntKind.u64.bits)) (by decide) rfl rfl rfl) ?_
    refine sV (Ac rfl) ?_
    refine wh h7d<|Ae<|sV2 (AM (c:=wi64 (v1a+1)) rfl rfl rfl) (Aa rfl) ?_
    refine AG ?_
    exact ih2d _ _ ⟨((wu64 (v0a+(wu64 (r2a+r3a)))).fdiv (2^min (32:Int).toNat IntKind.u64.bits)),(wi64 (v1a+1)),(List.set v5a (v1a:Int).toNat (wu32 (wu64 (v0a+(wu64 (r2a+r3a)))))),X9e,ow8e,f7e,(Fr.mk (by kernel_rfl))⟩
   ·refine wp_cond_false (Ai (evb rfl e0b))<|wp_exit ?_
    simp only [Exit.then,Exit.inBlock,↓reduceIte,Nat.reduceEqDiff]
    obtain rfl:=sj f6d
    exact ⟨_,rfl,X7a,ow4b,(Fr.mk (by kernel_rfl))⟩
 ·rintro _ w2 ⟨X2c,ow3c,⟨t9a,rfl⟩⟩ l'' hl
  simp only [gp,Nat.reduceAdd] at hl
  subst hl
  refine h8c _ _<|wp_seq_k fun _ h0f=>Ae<|sV (Aa rfl) ?_
  obtain ⟨r1f,h2f,f3f⟩:=Ab f1d
  refine sc (Ad Lj (by simp only [OW.len ow3c];rfl)) (El m8a A4a (((wi64 ((max (x0.length:Int) (x1.length:Int))+1)):Int).toNat) w2 (tbx X2c hT) (OW.rl ow3c) r1f h2f) ?_
  rintro _ w3 E4f ⟨A5f,c6f,rfl,n7f⟩
  refine nrm ?_
  have X8f:=xtr X2c E4f
  refine sV (Ac rfl) ?_
  refine wh h0f<|wp_ret ?_
  obtain rfl:=sj f3f
  exact fin rfl (Res.tmp rfl Res.nil) (Aj X8f ⟨A5f,c6f,rfl,n7f⟩)
theorem Jl (x0:List Int) (x1:List Int) (A1:Option Addr) (c2:Nat) (A4:Option Addr) (c5:Nat) (w:World) (hT:TB w) (n3:RLu w A1 c2 x0) (n6:RLu w A4 c5 x1) (r:List Int) (hr:DW x0 x1=some r) :
  Calls Tryz.prog 252 #[.slice A1 x0.length c2,.slice A4 x1.length c5] w (Ret Ko w r):=by
 unfold DW at hr
 go_enter Tryz.func252,Tryz.ntmps252
 refine wp_seq_k fun _ h7=>Ae<|sV (Ac rfl) ?_
 refine wh h7<|wp_seq_k fun _ h8=>Ae<|sV2 (Aa rfl) (Ax AU rfl) ?_
 obtain ⟨_,h9,f4c⟩:=Ab hr
 have gd11:=Az h9
 refine GV AU CJ rfl rfl gd11 fun A4a w1 E5c ow6c=>?_
 refine nrm ?_
 refine sV (Ac rfl) ?_
 refine wh h8<|wp_seq_k fun _ h7c=>Ae<|sV (Ac rfl) ?_
 refine wh h7c<|wp_seq_k fun _ h8c=>wp_seq_k fun _ h9c=>Ae<|sV3 (Aa rfl) (Ax AU rfl) (Aa rfl) ?_
 refine wh h9c ?_
 obtain ⟨m8a,h0d,f1d⟩:=Ab f4c
 refine BX (fun l l' w'=>Ext w w'∧OW 179 w.heap.size w' A4a (((x0.length:Int):Int).toNat) (((x0.length:Int):Int).toNat) m8a∧Fr l' (fun t9a=>gp t9a 0 5 (.slice A4a (((x0.length:Int):Int).toNat) (((x0.length:Int):Int).toNat)::gp t9a 6 30 []))) ?_ ?_
 ·apply wp_block
  refine AP (fun l n3b l' w'=>∃(v0a:Int) (v1a:Int) (v5a:List Int),Ext w w'∧OW 179 w.heap.size w' A4a (((x0.length:Int):Int).toNat) (((x0.length:Int):Int).toNat) v5a∧DP x0 x1 n3b v0a v1a v5a=some m8a∧Fr l' (fun t6a=>.slice A1 x0.length c2::.slice A4 x1.length c5::gp t6a 2 3 (.slice A4a (((x0.length:Int):Int).toNat) (((x0.length:Int):Int).toNat)::.int .u64 v0a::gp t6a 7 6 (.int .i64 (((((x0.length:Int):Int).toNat):Nat):Int)::.int .i64 v1a::gp t6a 15 21 [])))) 18446744073709551616 ?_ ?_ ?_
  ·exact ⟨0,0,(List.replicate ((x0.length:Int):Int).toNat (0:Int)),E5c,ow6c,h0d,(Fr.mk (by kernel_rfl))⟩
  ·rintro l' w' ⟨v0a,v1a,v5a,_,_,hz,_⟩
   exact nomatch hz
  ·rintro n3b ih2d _ w2 ⟨v0a,v1a,v5a,X7a,ow4b,hr5b,⟨t6a,rfl⟩⟩ l'' hl
   simp only [gp,Nat.reduceAdd] at hl
   subst hl
   unfold DP at hr5b
   refine AV<|wp_seq_k fun _ h3d=>Ae<|sb (Cj rfl rfl) fun z6b hz6b=>?_
   refine nrm ?_
   refine wh h3d<|wp_seq_k fun _ h4d=>?_
   rcases zi hz6b hr5b with ⟨e0b,_,f5d⟩ | ⟨e0b,_,f6d⟩
   ·refine wp_cond_true (Ai (evb rfl e0b))<|wp_skip<|h4d _ _<|wp_seq_k fun _ h7d=>?_
    apply wp_block
    refine wp_seq_k fun _ h8d=>Ae<|sV2 (Aa rfl) (Ac rfl) ?_
    refine wh h8d<|wp_seq_k fun _ h9d=>Ae<|sV2 (Aa rfl) (Aa rfl) ?_
    obtain ⟨r2a,h0e,f1e⟩:=Ab f5d
    refine sc (Ad La (by rfl)) (Fm x0 v1a A1 c2 w2 (tbx X7a hT) (n3.ext X7a) r2a h0e) ?_
    rintro _ w3 E7b rfl
    refine nrm ?_
    have X1b:=xtr X7a E7b
    refine sV2 (Aa rfl) (Aa rfl) ?_
    obtain ⟨r3a,h2e,f3e⟩:=Ab f1e
    refine sc (Ad La (by rfl)) (Fm x1 v1a A4 c5 w3 (tbx X1b hT) (n6.ext X1b) r3a h2e) ?_
    rintro _ w4 E8b rfl
    refine nrm ?_
    have X4e:=xtr X1b E8b
    refine sV3 (Ba (c:=wu64 (r2a - r3a)) rfl rfl rfl) (Aa rfl) (Ba (c:=wu64 ((wu64 (r2a - r3a)) - v0a)) rfl rfl rfl) ?_
    refine sV (Ac rfl) ?_
    refine wh h9d<|wp_seq_k fun _ h5e=>Ae<|sV3 (Aa rfl) (Aa rfl) (Aa rfl) ?_
    refine sV (AE (c:=wu32 (wu64 ((wu64 (r2a - r3a)) - v0a))) AD AF rfl rfl) ?_
    have ow2b:=(ow4b.ext E7b).ext E8b
    obtain ⟨u9f,h6e,f7e⟩:=Ab f3e
    obtain ⟨bb306,hA9b,hz0g,ia0c,ib1c,hc311⟩:=OW.nthc ow2b h6e
    refine sV (As AU An rfl rfl hA9b ia0c ib1c) ?_
    refine KP An rfl rfl ow2b hA9b ia0c (by rw [OW.len ow2b];exact ib1c) fun w5 B312 U1g ow8e=>?_
    have X9e:=xO X4e B312 (Nat.le_refl _)
    refine wh h5e<|Ae<|sV2 (Aa rfl) (GS (c:=(wu64 ((wu64 (r2a - r3a)) - v0a)).fdiv (2^min (63:Int).toNat IntKind.u64.bits)) (by decide) rfl rfl rfl) ?_
    refine sV (Ac rfl) ?_
    refine wh h7d<|Ae<|sV2 (AM (c:=wi64 (v1a+1)) rfl rfl rfl) (Aa rfl) ?_
    refine AG ?_
    exact ih2d _ _ ⟨((wu64 ((wu64 (r2a - r3a)) - v0a)).fdiv (2^min (63:Int).toNat IntKind.u64.bits)),(wi64 (v1a+1)),(List.set v5a (v1a:Int).toNat (wu32 (wu64 ((wu64 (r2a - r3a)) - v0a)))),X9e,ow8e,f7e,(Fr.mk (by kernel_rfl))⟩
   ·refine wp_cond_false (Ai (evb rfl e0b))<|wp_exit ?_
    simp only [Exit.then,Exit.inBlock,↓reduceIte,Nat.reduceEqDiff]
    obtain rfl:=sj f6d
    exact ⟨_,rfl,X7a,ow4b,(Fr.mk (by kernel_rfl))⟩
 ·rintro _ w2 ⟨X2c,ow3c,⟨t9a,rfl⟩⟩ l'' hl
  simp only [gp,Nat.reduceAdd] at hl
  subst hl
  refine h8c _ _<|wp_seq_k fun _ h0f=>Ae<|sV (Aa rfl) ?_
  obtain ⟨r1f,h2f,f3f⟩:=Ab f1d
  refine sc (Ad Lj (by simp only [OW.len ow3c];rfl)) (El m8a A4a (((x0.length:Int):Int).toNat) w2 (tbx X2c hT) (OW.rl ow3c) r1f h2f) ?_
  rintro _ w3 E4f ⟨A5f,c6f,rfl,n7f⟩
  refine nrm ?_
  have X8f:=xtr X2c E4f
  refine sV (Ac rfl) ?_
  refine wh h0f<|wp_ret ?_
  obtain rfl:=sj f3f
  exact fin rfl (Res.tmp rfl Res.nil) (Aj X8f ⟨A5f,c6f,rfl,n7f⟩)
end Go.Proofs.Lf

