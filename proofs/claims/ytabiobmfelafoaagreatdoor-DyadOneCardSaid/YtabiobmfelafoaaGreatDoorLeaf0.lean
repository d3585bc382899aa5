import Derived.Test.YtabiobmfelafoaaGreatDoorLeafDefs
namespace Go.Proofs.Lf
set_option linter.unusedVariables false
set_option linter.unusedSimpArgs false
set_option maxHeartbeats 4000000
open Go.RowKit Go.Sb Go.Proofs Go.Proofs.Sbn
theorem Dm (x0:List Int) (A1:Option Addr) (c2:Nat) (w:World) (hT:TB w) (n3:RLu w A1 c2 x0) (r:List Int) (hr:Bw x0=some r) :
  Calls Tryz.prog 236 #[.slice A1 x0.length c2] w (Ret IQ w r):=by
 unfold Bw at hr
 go_enter Tryz.func236,Tryz.ntmps236
 refine wp_seq_k fun K4 h4=>Af<|sV (Ac rfl) ?_
 refine Ad<|h4 _ _<|wp_seq_k fun K5 h5=>?_
 obtain ⟨m0b,h4c,f5c⟩:=Ab hr
 refine Di (fun l l' w'=>∃(A7a:Option Addr) (c8a:Nat),w=w'∧RLu w' A7a c8a m0b∧Fr l' (fun t5b=>.slice A7a m0b.length c8a::gp t5b 1 20 [])) ?_ ?_
 ·apply wp_block
  refine BA (fun l n6b l' w'=>∃(v1a:List Int) (A4a:Option Addr) (c5a:Nat) (t3a:Nat→Value),w=w'∧RLu w' A4a c5a v1a∧CB x0 n6b v1a=some m0b∧Fr l' (fun t1b=>.slice A4a v1a.length c5a::gp t1b 1 6 ((t3a 0)::(t3a 1)::(t3a 2)::(t3a 3)::(t3a 4)::(t3a 5)::(t3a 6)::gp t1b 14 7 []))) 18446744073709551616 ?_ ?_ ?_
  ·exact ⟨x0,A1,c2,(tk [uu,uu,uu,uu,uu,uu,uu]),(by trivial),n3,h4c,(Fr.mk (by kernel_rfl))⟩
  ·rintro l' w' ⟨v1a,A4a,c5a,t3a,_,_,hz,_⟩
   exact nomatch hz
  ·rintro n6b ih6c _ _ ⟨v1a,A4a,c5a,t3a,rfl,n2b,hr7b,⟨t1b,rfl⟩⟩ l'' hl
   simp only [gp,Nat.reduceAdd] at hl
   subst hl
   unfold CB at hr7b
   refine Bg<|wp_seq_k fun K8b h8b=>wp_seq_k fun K9b h9b=>Af<|sV (Aa rfl) ?_
   refine sV (AD Ar rfl) ?_
   refine sb (Fs rfl rfl) fun z9a hz9a=>?_
   refine nrm ?_
   refine sV (Aa rfl) ?_
   obtain ⟨m0c,h1c,f2c⟩:=Ab hr7b
   refine Ca 12 (fun l l' w'=>∃(t2a:Nat→Value),w=w'∧l'=((((((((l.set 7 (t2a 0)).set 8 (t2a 1)).set 9 (t2a 2)).set 10 (t2a 3)).set 11 (t2a 4)).set 12 (t2a 5)).set 13 (t2a 6)).set 14 (.bool m0c))) ?_ ?_
   ·intro HJ360
    rcases bft z9a with e0a | e0a
    ·have p7c:=zP hz9a e0a
     have f8c:=ifP p7c h1c
     refine sV (Aa rfl) ?_ (hw:=wgT rfl e0a)
     refine sV (Aa rfl) ?_ (hw:=wgT rfl e0a)
     refine sV (AD Ar rfl) ?_ (hw:=wgT rfl e0a)
     refine sV (Bv (c:=wi64 ((v1a.length:Int) - 1)) rfl rfl rfl) ?_ (hw:=wgT rfl e0a)
     obtain ⟨u3b,h9c,f0d⟩:=Ab f8c
     obtain ⟨bb369,oo370,hA1d,ia2d,ib3d,hc372⟩:=RL.nth n2b h9c
     refine sV (Ay Ar As rfl rfl hA1d ia2d ib3d) ?_ (hw:=wgT rfl e0a)
     refine sV (Ag AV rfl hc372) ?_ (hw:=wgT rfl e0a)
     refine sb (Ce rfl rfl) ?_ (hw:=wgT rfl e0a)
     intro z4b hz4b
     refine nrm ?_
     refine sV (AB (evb rfl e0a) rfl) ?_
     obtain rfl:z4b=decide (u3b=0):=bz hz4b
     obtain rfl:=sj f0d
     exact HJ360 _ _ ⟨(tk [.slice A4a v1a.length c5a,.slice A4a v1a.length c5a,.int .i64 (v1a.length:Int),.int .i64 (wi64 ((v1a.length:Int) - 1)),.pointer (some ⟨bb369,oo370+((wi64 ((v1a.length:Int) - 1)):Int).toNat,none⟩),.int .u32 u3b,.bool (decide (u3b=0))]),(by trivial),(by simp only [S0,S1]<;>rfl)⟩
    ·have p4d:=zN hz9a e0a
     have f5d:=ifN p4d h1c
     refine sP ?_ (hw:=wgF rfl e0a)
     refine sP ?_ (hw:=wgF rfl e0a)
     refine sP ?_ (hw:=wgF rfl e0a)
     refine sP ?_ (hw:=wgF rfl e0a)
     refine sP ?_ (hw:=wgF rfl e0a)
     refine sP ?_ (hw:=wgF rfl e0a)
     refine sP ?_ (hw:=wgF rfl e0a)
     refine sV (AF (evb rfl e0a) rfl) ?_
     obtain rfl:=sj f5d
     exact HJ360 _ _ ⟨(tk [uu,uu,uu,uu,uu,uu,uu]),(by trivial),(by simp only [S0,S1]<;>rfl)⟩
   ·rintro l' _ ⟨t2a,rfl,hq'⟩ l'' hl
    rw [hq'] at hl
    clear hq'
    simp only [S0,S1] at hl
    subst hl
    refine Ad<|h9b _ _ ?_
    rcases bft m0c with e6a | e6a
    ·have p6d:=e6a
     have f7d:=ifP p6d f2c
     refine wp_cond_true (Aj (evb rfl e6a))<|wp_skip<|h8b _ _ ?_
     apply wp_block
     refine Af<|sV (Aa rfl) ?_
     refine sV (Aa rfl) ?_
     refine sV (AD Ar rfl) ?_
     refine sV (Bv (c:=wi64 ((v1a.length:Int) - 1)) rfl rfl rfl) ?_
     obtain ⟨_,h8d,f9d⟩:=Ab f7d
     have gd389:=AJ h8d
     refine MB (lo:=0) (hi:=((wi64 ((v1a.length:Int) - 1)):Int).toNat) Ar As rfl rfl ⟨.i64,by rw [Int.toNat_of_nonneg (a:=(wi64 ((v1a.length:Int) - 1))) (by omega)];rfl⟩ (by omega) (by omega) n2b fun A0e c1e n2e=>?_
     refine nrm ?_
     refine sV (Ac rfl) ?_
     refine Ad ?_
     exact ih6c _ _ ⟨((List.drop 0 v1a).take ((((wi64 ((v1a.length:Int) - 1)):Int).toNat) - 0)),A0e,c1e,(tk [t2a 0,t2a 1,t2a 2,t2a 3,t2a 4,t2a 5,t2a 6]),(by trivial),n2e,f9d,(Fr.mk (by kernel_rfl))⟩
    ·have p3e:=bF e6a
     have f4e:=ifN p3e f2c
     refine wp_cond_false (Aj (evb rfl e6a))<|wp_exit ?_
     simp only [Exit.then,Exit.inBlock,↓reduceIte,Nat.reduceEqDiff]
     obtain rfl:=sj f4e
     exact ⟨_,rfl,A4a,c5a,(by trivial),n2b,(Fr.mk (by kernel_rfl))⟩
 ·rintro _ _ ⟨A7a,c8a,rfl,n5e,⟨t5b,rfl⟩⟩ l'' hl
  simp only [gp,Nat.reduceAdd] at hl
  subst hl
  refine h5 _ _<|wp_seq_k fun K3c h3c=>Af<|sV (Aa rfl) ?_
  refine sV (Ac rfl) ?_
  refine Ad<|h3c _ _<|wp_ret ?_
  obtain rfl:=sj f5c
  exact fin rfl (Res.tmp rfl Res.nil) (Ak (Ext.refl _) ⟨A7a,c8a,rfl,n5e⟩)
theorem c_wide_Of (x0:Int) (w:World) (hT:TB w) (r:List Int) (hr:Jo x0=some r) :
  Calls Tryz.prog 265 #[.int .u64 x0] w (Ret IQ w r):=by
 unfold Jo at hr
 go_enter Tryz.func265,Tryz.ntmps265
 refine wp_seq_k fun K1 h1=>Af<|sV (Ac rfl) ?_
 refine Ad<|h1 _ _<|wp_seq_k fun K2 h2=>Af<|sV (Aa rfl) ?_
 refine sV (AQ (c:=wu32 x0) AO AR rfl rfl) ?_
 refine sV (Aa rfl) ?_
 refine sV (IA (c:=x0.fdiv (2^min (32:Int).toNat IntKind.u64.bits)) (by decide) rfl rfl rfl) ?_
 refine sV (AQ (c:=wu32 (x0.fdiv (2^min (32:Int).toNat IntKind.u64.bits))) AO AR rfl rfl) ?_
 refine Ct (vals:=[(0,.int .u32 (wu32 x0)),(1,.int .u32 (wu32 (x0.fdiv (2^min (32:Int).toNat IntKind.u64.bits))))]) (cs:=[.int .u32 (wu32 x0),.int .u32 (wu32 (x0.fdiv (2^min (32:Int).toNat IntKind.u64.bits)))]) Ar As Hc (by rfl) (by decide) (by kernel_rfl) fun b4 w1 E3 g5 q6=>?_
 refine nrm ?_
 have n7:RLu w1 (some ⟨b4,0,none⟩) 2 [(wu32 x0),(wu32 (x0.fdiv (2^min (32:Int).toNat IntKind.u64.bits)))]:=(OW.lit (n0:=0) (n:=2) (xs:=[(wu32 x0),(wu32 (x0.fdiv (2^min (32:Int).toNat IntKind.u64.bits)))]) q6 (Nat.zero_le _) rfl (by decide)).rl
 obtain ⟨r8,h9,f0a⟩:=Ab hr
 refine sc (Ae Ju (by rfl)) (Dm ([(wu32 x0),(wu32 (x0.fdiv (2^min (32:Int).toNat IntKind.u64.bits)))]:List Int) (some ⟨b4,0,none⟩) 2 w1 (tbx E3 hT) n7 r8 h9) ?_
 rintro _ w2 E1a ⟨A2a,c3a,rfl,n4a⟩
 refine nrm ?_
 have X5a:=xtr E3 E1a
 refine sV (Ac rfl) ?_
 refine Ad<|h2 _ _<|wp_ret ?_
 obtain rfl:=sj f0a
 exact fin rfl (Res.tmp rfl Res.nil) (Ak X5a ⟨A2a,c3a,rfl,n4a⟩)
theorem DP (x0:List Int) (A1:Option Addr) (c2:Nat) (w:World) (hT:TB w) (n3:RLu w A1 c2 x0) (r:Int) (hr:Bm x0=some r) :
  Calls Tryz.prog 184 #[.slice A1 x0.length c2] w (Ret GI w r):=by
 unfold Bm at hr
 go_enter Tryz.func184,Tryz.ntmps184
 refine wp_seq_k fun K4 h4=>Af<|sV (Ac rfl) ?_
 refine Ad<|h4 _ _<|wp_seq_k fun K5 h5=>wp_seq_k fun K6 h6=>Af<|sV (Aa rfl) ?_
 refine sV (AD Ar rfl) ?_
 refine sb (Ce rfl rfl) fun z7 hz7=>?_
 refine nrm ?_
 refine Ad<|h6 _ _ ?_
 rcases bft z7 with e0a | e0a
 ·have p4a:=zP hz7 e0a
  have f5a:=ifP p4a hr
  refine wp_cond_true (Aj (evb rfl e0a))<|wp_seq_k fun K1a h1a=>Af<|sV (Ac rfl) ?_
  refine Ad<|h1a _ _<|wp_ret ?_
  obtain rfl:=sj f5a
  exact fin rfl (Res.tmp rfl Res.nil) (Ak (Ext.refl _) rfl)
 ·have p6a:=zN hz7 e0a
  have f7a:=ifN p6a hr
  refine wp_cond_false (Aj (evb rfl e0a))<|wp_skip<|h5 _ _<|wp_seq_k fun K2a h2a=>Af<|sV (Aa rfl) ?_
  refine sV (AD Ar rfl) ?_
  refine sV (JH (c:=wi64 (32*(x0.length:Int))) rfl rfl rfl) ?_
  refine sV (Aa rfl) ?_
  refine sV (Aa rfl) ?_
  refine sV (AD Ar rfl) ?_
  refine sV (Bv (c:=wi64 ((x0.length:Int) - 1)) rfl rfl rfl) ?_
  obtain ⟨u8a,h9a,f0b⟩:=Ab f7a
  obtain ⟨bb23,oo24,hA1b,ia2b,ib3b,hc26⟩:=RL.nth n3 h9a
  refine sV (Ay Ar As rfl rfl hA1b ia2b ib3b) ?_
  refine sV (Ag AV rfl hc26) ?_
  obtain ⟨r3a,h4b,f32⟩:=Ab f0b
  refine sc (Ae Nq (by rfl)) (ET u8a w hT  r3a h4b) ?_
  rintro _ w1 E5b rfl
  refine nrm ?_
  refine sV (Bv (c:=wi64 ((wi64 (32*(x0.length:Int))) - r3a)) rfl rfl rfl) ?_
  refine sV (Ac rfl) ?_
  refine Ad<|h2a _ _<|wp_ret ?_
  obtain rfl:=sj f32
  exact fin rfl (Res.tmp rfl Res.nil) (Ak E5b rfl)
theorem HQ (x0:List Int) (A1:Option Addr) (c2:Nat) (w:World) (hT:TB w) (n3:RLu w A1 c2 x0) (r:Int) (hr:Cv x0=some r) :
  Calls Tryz.prog 213 #[.slice A1 x0.length c2] w (Ret GI w r):=by
 unfold Cv at hr
 go_enter Tryz.func213,Tryz.ntmps213
 refine wp_seq_k fun K4 h4=>Af<|sV (Ac rfl) ?_
 refine Ad<|h4 _ _<|wp_seq_k fun K5 h5=>Af<|sV (Ac rfl) ?_
 refine Ad<|h5 _ _<|wp_seq_k fun K6 h6=>?_
 obtain ⟨m6a,h6c,f3b⟩:=Ab hr
 refine Di (fun l l' w'=>w=w'∧Fr l' (fun t0b=>.slice A1 x0.length c2::gp t0b 1 2 (.int .i64 m6a::gp t0b 4 25 []))) ?_ ?_
 ·apply wp_block
  refine BA (fun l n4b l' w'=>∃(v2a:Int) (t3a:Nat→Value),w=w'∧CI x0 n4b v2a=some m6a∧Fr l' (fun t7a=>.slice A1 x0.length c2::gp t7a 1 2 (.int .i64 v2a::gp t7a 4 5 ((t3a 0)::(t3a 1)::(t3a 2)::(t3a 3)::(t3a 4)::gp t7a 14 15 [])))) 18446744073709551616 ?_ ?_ ?_
  ·exact ⟨0,(tk [uu,uu,uu,uu,uu]),(by trivial),h6c,(Fr.mk (by kernel_rfl))⟩
  ·rintro l' w' ⟨v2a,t3a,_,hz,_⟩
   exact nomatch hz
  ·rintro n4b ih7c _ _ ⟨v2a,t3a,rfl,hr5b,⟨t7a,rfl⟩⟩ l'' hl
   simp only [gp,Nat.reduceAdd] at hl
   subst hl
   unfold CI at hr5b
   refine Bg<|wp_seq_k fun K6b h6b=>wp_seq_k fun K7b h7b=>Af<|sV (Aa rfl) ?_
   refine sV (Aa rfl) ?_
   refine sV (AD Ar rfl) ?_
   refine sb (Cm rfl rfl) fun z8a hz8a=>?_
   refine nrm ?_
   refine sV (Aa rfl) ?_
   obtain ⟨m8b,h9b,f0c⟩:=Ab hr5b
   refine Ca 11 (fun l l' w'=>∃(t1a:Nat→Value),w=w'∧l'=((((((l.set 9 (t1a 0)).set 10 (t1a 1)).set 11 (t1a 2)).set 12 (t1a 3)).set 13 (t1a 4)).set 14 (.bool m8b))) ?_ ?_
   ·intro HJ307
    rcases bft z8a with e0a | e0a
    ·have p8c:=zP hz8a e0a
     have f9c:=ifP p8c h9b
     refine sV (Aa rfl) ?_ (hw:=wgT rfl e0a)
     refine sV (Aa rfl) ?_ (hw:=wgT rfl e0a)
     obtain ⟨u1b,h0d,f1d⟩:=Ab f9c
     obtain ⟨bb316,oo317,hA2d,ia3d,ib4d,hc319⟩:=RL.nth n3 h0d
     refine sV (Ay Ar As rfl rfl hA2d ia3d ib4d) ?_ (hw:=wgT rfl e0a)
     refine sV (Ag AV rfl hc319) ?_ (hw:=wgT rfl e0a)
     refine sb (Ce rfl rfl) ?_ (hw:=wgT rfl e0a)
     intro z2b hz2b
     refine nrm ?_
     refine sV (AB (evb rfl e0a) rfl) ?_
     obtain rfl:z2b=decide (u1b=0):=bz hz2b
     obtain rfl:=sj f1d
     exact HJ307 _ _ ⟨(tk [.slice A1 x0.length c2,.int .i64 v2a,.pointer (some ⟨bb316,oo317+(v2a:Int).toNat,none⟩),.int .u32 u1b,.bool (decide (u1b=0))]),(by trivial),(by simp only [S0,S1]<;>rfl)⟩
    ·have p5d:=zN hz8a e0a
     have f6d:=ifN p5d h9b
     refine sP ?_ (hw:=wgF rfl e0a)
     refine sP ?_ (hw:=wgF rfl e0a)
     refine sP ?_ (hw:=wgF rfl e0a)
     refine sP ?_ (hw:=wgF rfl e0a)
     refine sP ?_ (hw:=wgF rfl e0a)
     refine sV (AF (evb rfl e0a) rfl) ?_
     obtain rfl:=sj f6d
     exact HJ307 _ _ ⟨(tk [uu,uu,uu,uu,uu]),(by trivial),(by simp only [S0,S1]<;>rfl)⟩
   ·rintro l' _ ⟨t1a,rfl,hq'⟩ l'' hl
    rw [hq'] at hl
    clear hq'
    simp only [S0,S1] at hl
    subst hl
    refine Ad<|h7b _ _ ?_
    rcases bft m8b with e4a | e4a
    ·have p7d:=e4a
     have f8d:=ifP p7d f0c
     refine wp_cond_true (Aj (evb rfl e4a))<|wp_skip<|h6b _ _ ?_
     apply wp_block
     refine Af<|sV (Aa rfl) ?_
     refine sV (Bd (c:=wi64 (v2a+1)) rfl rfl rfl) ?_
     refine sV (Ac rfl) ?_
     refine Ad ?_
     exact ih7c _ _ ⟨(wi64 (v2a+1)),(tk [t1a 0,t1a 1,t1a 2,t1a 3,t1a 4]),(by trivial),f8d,(Fr.mk (by kernel_rfl))⟩
    ·have p9d:=bF e4a
     have f0e:=ifN p9d f0c
     refine wp_cond_false (Aj (evb rfl e4a))<|wp_exit ?_
     simp only [Exit.then,Exit.inBlock,↓reduceIte,Nat.reduceEqDiff]
     obtain rfl:=sj f0e
     exact ⟨_,rfl,(by trivial),(Fr.mk (by kernel_rfl))⟩
 ·rintro _ _ ⟨rfl,⟨t0b,rfl⟩⟩ l'' hl
  simp only [gp,Nat.reduceAdd] at hl
  subst hl
  refine h6 _ _<|wp_seq_k fun K1c h1c=>wp_seq_k fun K2c h2c=>Af<|sV (Aa rfl) ?_
  refine sV (Aa rfl) ?_
  refine sV (AD Ar rfl) ?_
  refine sb (Ce rfl rfl) fun z9a hz9a=>?_
  refine nrm ?_
  refine Ad<|h2c _ _ ?_
  rcases bft z9a with e5a | e5a
  ·have p1e:=zP hz9a e5a
   have f2e:=ifP p1e f3b
   refine wp_cond_true (Aj (evb rfl e5a))<|wp_seq_k fun K3c h3c=>Af<|sV (Ac rfl) ?_
   refine Ad<|h3c _ _<|wp_ret ?_
   obtain rfl:=sj f2e
   exact fin rfl (Res.tmp rfl Res.nil) (Ak (Ext.refl _) rfl)
  ·have p3e:=zN hz9a e5a
   have f4e:=ifN p3e f3b
   refine wp_cond_false (Aj (evb rfl e5a))<|wp_skip<|h1c _ _<|wp_seq_k fun K4c h4c=>Af<|sV (Aa rfl) ?_
   refine sV (JH (c:=wi64 (32*m6a)) rfl rfl rfl) ?_
   refine sV (Aa rfl) ?_
   refine sV (Aa rfl) ?_
   obtain ⟨u5e,h6e,f7e⟩:=Ab f4e
   obtain ⟨bb352,oo353,hA8e,ia9e,ib0f,hc355⟩:=RL.nth n3 h6e
   refine sV (Ay Ar As rfl rfl hA8e ia9e ib0f) ?_
   refine sV (Ag AV rfl hc355) ?_
   obtain ⟨r5c,h1f,f2f⟩:=Ab f7e
   refine sc (Ae en_245 (by rfl)) (c_math_bits_TrailingZeros32 u5e w hT  r5c h1f) ?_
   rintro _ w1 E3f rfl
   refine nrm ?_
   refine sV (Bd (c:=wi64 ((wi64 (32*m6a))+r5c)) rfl rfl rfl) ?_
   refine sV (Ac rfl) ?_
   refine Ad<|h4c _ _<|wp_ret ?_
   obtain rfl:=sj f2f
   exact fin rfl (Res.tmp rfl Res.nil) (Ak E3f rfl)
theorem FK (x0:List Int) (x1:List Int) (A1:Option Addr) (c2:Nat) (A4:Option Addr) (c5:Nat) (w:World) (hT:TB w) (n3:RLu w A1 c2 x0) (n6:RLu w A4 c5 x1) (r:Int) (hr:Cf x0 x1=some r) :
  Calls Tryz.prog 205 #[.slice A1 x0.length c2,.slice A4 x1.length c5] w (Ret GI w r):=by
 unfold Cf at hr
 go_enter Tryz.func205,Tryz.ntmps205
 refine wp_seq_k fun K7 h7=>Af<|sV (Ac rfl) ?_
 refine Ad<|h7 _ _<|wp_seq_k fun K8 h8=>wp_seq_k fun K9 h9=>Af<|sV (Aa rfl) ?_
 refine sV (AD Ar rfl) ?_
 refine sV (Aa rfl) ?_
 refine sV (AD Ar rfl) ?_
 refine sb (Ix rfl rfl) fun z5a hz5a=>?_
 refine nrm ?_
 refine Ad<|h9 _ _ ?_
 rcases bft z5a with e1a | e1a
 ·have p2d:=zP hz5a e1a
  have f3d:=ifP p2d hr
  refine wp_cond_true (Aj (evb rfl e1a))<|wp_seq_k fun K4b h4b=>Af<|sV (Aa rfl) ?_
  refine sV (AD Ar rfl) ?_
  refine sV (Aa rfl) ?_
  refine sV (AD Ar rfl) ?_
  refine sV (Bv (c:=wi64 ((x0.length:Int) - (x1.length:Int))) rfl rfl rfl) ?_
  refine sV (Ac rfl) ?_
  refine Ad<|h4b _ _<|wp_ret ?_
  obtain rfl:=sj f3d
  exact fin rfl (Res.tmp rfl Res.nil) (Ak (Ext.refl _) rfl)
 ·have p4d:=zN hz5a e1a
  have f5d:=ifN p4d hr
  refine wp_cond_false (Aj (evb rfl e1a))<|wp_skip<|h8 _ _<|wp_seq_k fun K5b h5b=>wp_seq_k fun K6b h6b=>Af<|sV (Aa rfl) ?_
  refine sV (AD Ar rfl) ?_
  refine sV (Bv (c:=wi64 ((x0.length:Int) - 1)) rfl rfl rfl) ?_
  refine sV (Ac rfl) ?_
  refine Ad<|h6b _ _ ?_
  apply wp_block
  refine BA (fun l n7b l' w'=>∃(v0a:Int),Ext w w'∧Ea x0 x1 n7b v0a=some r∧Fr l' (fun t0b=>.slice A1 x0.length c2::.slice A4 x1.length c5::gp t0b 2 3 (.int .i64 v0a::gp t0b 6 35 []))) 18446744073709551616 ?_ ?_ ?_
  ·exact ⟨(wi64 ((x0.length:Int) - 1)),(Ext.refl _),f5d,(Fr.mk (by kernel_rfl))⟩
  ·rintro l' w' ⟨v0a,_,hz,_⟩
   exact nomatch hz
  ·rintro n7b ih6d _ w1 ⟨v0a,U1b,hr2b,⟨t0b,rfl⟩⟩ l'' hl
   simp only [gp,Nat.reduceAdd] at hl
   subst hl
   unfold Ea at hr2b
   refine Bg<|wp_seq_k fun K8b h8b=>wp_seq_k fun K9b h9b=>Af<|sV (Aa rfl) ?_
   refine sb (EP rfl rfl) fun z6a hz6a=>?_
   refine nrm ?_
   refine Ad<|h9b _ _ ?_
   rcases bft z6a with e2a | e2a
   ·have p7d:=zP hz6a e2a
    have f8d:=ifP p7d hr2b
    refine wp_cond_true (Aj (evb rfl e2a))<|wp_skip<|h8b _ _<|wp_seq_k fun K0c h0c=>?_
    apply wp_block
    refine wp_seq_k fun K1c h1c=>Ei [] 9 mo rfl fun w2 E2c S3c=>have X3b:=xtr U1b E2c;dA 0 rfl (fun _=>Aa rfl) ?_
    refine dA 1 rfl (fun _=>Aa rfl) ?_
    obtain ⟨u8g,h9d,f0e⟩:=Ab f8d
    obtain ⟨bb298,oo299,hA1e,ia2e,ib3e,hc301⟩:=RL.nth (n3.ext X3b) h9d
    refine dA 2 rfl (fun _=>Ay Ar As rfl rfl hA1e ia2e ib3e) ?_
    refine dV 3 rfl (fun _ hw=>Ag AV rfl (Dd hc301 hw)) S3c ?_
    refine dA 4 rfl (fun _=>Aa rfl) ?_
    refine dA 5 rfl (fun _=>Aa rfl) ?_
    obtain ⟨u9g,h4e,f4c⟩:=Ab f0e
    obtain ⟨bb307,oo308,hA5e,ia6e,ib7e,hc310⟩:=RL.nth (n6.ext X3b) h4e
    refine dA 6 rfl (fun _=>Ay Ar As rfl rfl hA5e ia6e ib7e) ?_
    refine dV 7 rfl (fun _ hw=>Ag AV rfl (Dd hc310 hw)) S3c ?_
    refine dab 8 rfl (by kernel_rfl) (fun _ _ _ h=>h) (by rfl) (fun _=>Ix rfl rfl) fun z7a hz7a=>?_
    refine dnrm ?_
    refine CU (by kernel_rfl) ?_
    refine h1c _ _ ?_
    rcases bft z7a with e3a | e3a
    ·have p8e:=zP hz7a e3a
     have f9e:=ifP p8e f4c
     refine wp_cond_true (Aj (evb rfl e3a))<|wp_seq_k fun K5c h5c=>wp_seq_k fun K6c h6c=>Ei [] 9 mo rfl fun w3 E0f S7c=>have X8a:=xtr X3b E0f;dA 0 rfl (fun _=>Aa rfl) ?_
     refine dA 1 rfl (fun _=>Aa rfl) ?_
     obtain ⟨u0h,h1f,f2f⟩:=Ab f9e
     obtain ⟨bb368,oo369,hA3f,ia4f,ib5f,hc371⟩:=RL.nth (n3.ext X8a) h1f
     refine dA 2 rfl (fun _=>Ay Ar As rfl rfl hA3f ia4f ib5f) ?_
     refine dV 3 rfl (fun _ hw=>Ag AV rfl (Dd hc371 hw)) S7c ?_
     refine dA 4 rfl (fun _=>Aa rfl) ?_
     refine dA 5 rfl (fun _=>Aa rfl) ?_
     obtain ⟨u1h,h6f,f8c⟩:=Ab f2f
     obtain ⟨bb377,oo378,hA7f,ia8f,ib9f,hc380⟩:=RL.nth (n6.ext X8a) h6f
     refine dA 6 rfl (fun _=>Ay Ar As rfl rfl hA7f ia8f ib9f) ?_
     refine dV 7 rfl (fun _ hw=>Ag AV rfl (Dd hc380 hw)) S7c ?_
     refine dab 8 rfl (by kernel_rfl) (fun _ _ _ h=>h) (by rfl) (fun _=>Cm rfl rfl) fun z9a hz9a=>?_
     refine dnrm ?_
     refine CU (by kernel_rfl) ?_
     refine h6c _ _ ?_
     rcases bft z9a with e4a | e4a
     ·have p0g:=zP hz9a e4a
      have f1g:=ifP p0g f8c
      refine wp_cond_true (Aj (evb rfl e4a))<|wp_seq_k fun K9c h9c=>Af<|sV (Ac rfl) ?_
      refine Ad<|h9c _ _<|wp_ret ?_
      obtain rfl:=sj f1g
      exact fin rfl (Res.tmp rfl Res.nil) (Ak X8a rfl)
     ·have p2g:=zN hz9a e4a
      have f3g:=ifN p2g f8c
      refine wp_cond_false (Aj (evb rfl e4a))<|wp_skip<|h5c _ _<|wp_seq_k fun K0d h0d=>Af<|sV (Ac rfl) ?_
      refine Ad<|h0d _ _<|wp_ret ?_
      obtain rfl:=sj f3g
      exact fin rfl (Res.tmp rfl Res.nil) (Ak X8a rfl)
    ·have p4g:=zN hz7a e3a
     have f5g:=ifN p4g f4c
     refine wp_cond_false (Aj (evb rfl e3a))<|wp_skip<|h0c _ _<|Af<|sV (Aa rfl) ?_
     refine sV (Bv (c:=wi64 (v0a - 1)) rfl rfl rfl) ?_
     refine sV (Ac rfl) ?_
     refine Ad ?_
     exact ih6d _ _ ⟨(wi64 (v0a - 1)),(U1b.trans E2c),f5g,(Fr.mk (by kernel_rfl))⟩
   ·have p6g:=zN hz6a e2a
    have f7g:=ifN p6g hr2b
    refine wp_cond_false (Aj (evb rfl e2a))<|wp_exit ?_
    simp only [Exit.then,Exit.inBlock,↓reduceIte,Nat.reduceEqDiff]
    refine h5b _ _<|wp_seq_k fun K1d h1d=>Af<|sV (Ac rfl) ?_
    refine Ad<|h1d _ _<|wp_ret ?_
    obtain rfl:=sj f7g
    exact fin rfl (Res.tmp rfl Res.nil) (Ak U1b rfl)
theorem GH (x0:List Int) (x1:List Int) (A1:Option Addr) (c2:Nat) (A4:Option Addr) (c5:Nat) (w:World) (hT:TB w) (n3:RLu w A1 c2 x0) (n6:RLu w A4 c5 x1) (r:List Int) (hr:Cq x0 x1=some r) :
  Calls Tryz.prog 207 #[.slice A1 x0.length c2,.slice A4 x1.length c5] w (Ret IQ w r):=by
 unfold Cq at hr
 go_enter Tryz.func207,Tryz.ntmps207
 refine wp_seq_k fun K7 h7=>Af<|sV (Ac rfl) ?_
 refine Ad<|h7 _ _<|wp_seq_k fun K8 h8=>wp_seq_k fun K9 h9=>Af<|sV (Aa rfl) ?_
 refine sV (AD Ar rfl) ?_
 refine sV (Aa rfl) ?_
 refine sV (AD Ar rfl) ?_
 refine sb (Cm rfl rfl) fun z7b hz7b=>?_
 refine nrm ?_
 refine Ad<|h9 _ _ ?_
 obtain ⟨m0a,h6c,f1f⟩:=Ab hr
 refine Di (fun l l' w'=>∃(A8a:Option Addr) (c9a:Nat) (A0b:Option Addr) (c1b:Nat),w=w'∧RLu w' A8a c9a m0a.1∧RLu w' A0b c1b m0a.2∧Fr l' (fun t7c=>.slice A8a m0a.1.length c9a::.slice A0b m0a.2.length c1b::gp t7c 2 54 [])) ?_ ?_
 ·rcases bft z7b with e2b | e2b
  ·have p2f:=zP hz7b e2b
   have f3f:=ifP p2f h6c
   refine wp_cond_true (Aj (evb rfl e2b))<|Af<|sV (Aa rfl) ?_
   refine sV (Aa rfl) ?_
   refine sV (Ac rfl) ?_
   refine sV (Ac rfl) ?_
   refine Ad ?_
   obtain rfl:=sj f3f
   exact ⟨_,rfl,A4,c5,A1,c2,(by trivial),n6,n3,(Fr.mk (by kernel_rfl))⟩
  ·have p4f:=zN hz7b e2b
   have f5f:=ifN p4f h6c
   refine wp_cond_false (Aj (evb rfl e2b))<|wp_skip ?_
   obtain rfl:=sj f5f
   exact ⟨_,rfl,A1,c2,A4,c5,(by trivial),n3,n6,(Fr.mk (by kernel_rfl))⟩
 ·rintro _ _ ⟨A8a,c9a,A0b,c1b,rfl,n6f,n7f,⟨t7c,rfl⟩⟩ l'' hl
  simp only [gp,Nat.reduceAdd] at hl
  subst hl
  refine h8 _ _<|wp_seq_k fun K8c h8c=>Af<|sV (Aa rfl) ?_
  refine sV (AD Ar rfl) ?_
  refine sV (Bd (c:=wi64 ((m0a.1.length:Int)+1)) rfl rfl rfl) ?_
  obtain ⟨_,h8f,f9f⟩:=Ab f1f
  have gd43:=AJ h8f
  refine Iv Ar Ez rfl rfl gd43 fun A0g w1 E1g ow9c=>?_
  refine nrm ?_
  refine sV (Ac rfl) ?_
  refine Ad<|h8c _ _<|wp_seq_k fun K0d h0d=>Af<|sV (Ac rfl) ?_
  refine Ad<|h0d _ _<|wp_seq_k fun K1d h1d=>wp_seq_k fun K2d h2d=>Af<|sV (Aa rfl) ?_
  refine sV (AD Ar rfl) ?_
  refine sV (Aa rfl) ?_
  refine Ad<|h2d _ _ ?_
  obtain ⟨m1a,h2g,f3g⟩:=Ab f9f
  refine Di (fun l l' w'=>∃(A1c:Option Addr) (c2c:Nat),Ext w w'∧OW 179 w.heap.size w' A1c m1a.2.length c2c m1a.2∧Fr l' (fun t3c=>gp t3c 0 5 (.slice A1c m1a.2.length c2c::.int .u64 m1a.1::gp t3c 7 49 []))) ?_ ?_
  ·apply wp_block
   refine BA (fun l n3d l' w'=>∃(v5a:Int) (v4a:Int) (v3a:List Int) (A6a:Option Addr) (c7a:Nat),Ext w w'∧OW 179 w.heap.size w' A6a v3a.length c7a v3a∧CT x0 x1 m0a n3d v5a v4a v3a=some m1a∧Fr l' (fun t3b=>gp t3b 0 1 (.slice A0b m0a.2.length c1b::gp t3b 2 3 (.slice A6a v3a.length c7a::.int .u64 v5a::gp t3b 7 13 (.slice A8a m0a.1.length c9a::.int .i64 (m0a.1.length:Int)::.int .i64 v4a::gp t3b 23 33 []))))) 18446744073709551616 ?_ ?_ ?_
   ·exact ⟨0,0,(List.replicate (0:Int).toNat (0:Int)),A0g,(((wi64 ((m0a.1.length:Int)+1)):Int).toNat),E1g,(OW.nn ow9c),h2g,(Fr.mk (by simp only [OW.len ow9c];kernel_rfl))⟩
   ·rintro l' w' ⟨v5a,v4a,v3a,A6a,c7a,_,_,hz,_⟩
    exact nomatch hz
   ·rintro n3d ih4g _ w2 ⟨v5a,v4a,v3a,A6a,c7a,X8b,ow4d,hr4c,⟨t3b,rfl⟩⟩ l'' hl
    simp only [gp,Nat.reduceAdd] at hl
    subst hl
    unfold CT at hr4c
    refine Bg<|wp_seq_k fun K5d h5d=>Af<|sb (Cm rfl rfl) fun z9b hz9b=>?_
    refine nrm ?_
    refine Ad<|h5d _ _<|wp_seq_k fun K6d h6d=>?_
    rcases bft z9b with e4b | e4b
    ·have p5g:=zP hz9b e4b
     have f6g:=ifP p5g hr4c
     refine wp_cond_true (Aj (evb rfl e4b))<|wp_skip<|h6d _ _<|wp_seq_k fun K7d h7d=>?_
     apply wp_block
     refine wp_seq_k fun K8d h8d=>Af<|sV (Aa rfl) ?_
     obtain ⟨u5c,h7g,f8g⟩:=Ab f6g
     obtain ⟨bb541,oo542,hA9g,ia0h,ib1h,hc544⟩:=RL.nth (n6f.ext X8b) h7g
     refine sV (Ay Ar As rfl rfl hA9g ia0h ib1h) ?_
     refine sV (Ag AV rfl hc544) ?_
     refine sV (Ac rfl) ?_
     refine sV (Ac rfl) ?_
     refine Ad<|h8d _ _<|wp_seq_k fun K9d h9d=>Af<|sV (Aa rfl) ?_
     refine sV (Aa rfl) ?_
     refine sV (AQ (c:=wu64 u5c) AR AO rfl rfl) ?_
     refine sV (Bd (c:=wu64 (v5a+(wu64 u5c))) rfl rfl rfl) ?_
     refine sV (Ac rfl) ?_
     refine Ad<|h9d _ _<|wp_seq_k fun K0e h0e=>wp_seq_k fun K1e h1e=>Af<|sV (Aa rfl) ?_
     refine sV (Aa rfl) ?_
     refine sV (AD Ar rfl) ?_
     refine sb (Cm rfl rfl) fun z0c hz0c=>?_
     refine nrm ?_
     refine Ad<|h1e _ _ ?_
     obtain ⟨m2a,h2e,f2h⟩:=Ab f8g
     refine Di (fun l l' w'=>w2=w'∧Fr l' (fun t5b=>gp t5b 0 1 (.slice A0b m0a.2.length c1b::gp t5b 2 3 (.slice A6a v3a.length c7a::.int .u64 m2a::gp t5b 7 13 (.slice A8a m0a.1.length c9a::.int .i64 (m0a.1.length:Int)::.int .i64 v4a::gp t5b 23 33 []))))) ?_ ?_
     ·rcases bft z0c with e6b | e6b
      ·have p3h:=zP hz0c e6b
       have f4h:=ifP p3h h2e
       refine wp_cond_true (Aj (evb rfl e6b))<|Af<|sV (Aa rfl) ?_
       refine sV (Aa rfl) ?_
       refine sV (Aa rfl) ?_
       obtain ⟨u3e,h5h,f6h⟩:=Ab f4h
       obtain ⟨bb582,oo583,hA7h,ia8h,ib9h,hc585⟩:=RL.nth (n7f.ext X8b) h5h
       refine sV (Ay Ar As rfl rfl hA7h ia8h ib9h) ?_
       refine sV (Ag AV rfl hc585) ?_
       refine sV (AQ (c:=wu64 u3e) AR AO rfl rfl) ?_
       refine sV (Bd (c:=wu64 ((wu64 (v5a+(wu64 u5c)))+(wu64 u3e))) rfl rfl rfl) ?_
       refine sV (Ac rfl) ?_
       refine Ad ?_
       obtain rfl:=sj f6h
       exact ⟨_,rfl,(by trivial),(Fr.mk (by kernel_rfl))⟩
      ·have p0i:=zN hz0c e6b
       have f1i:=ifN p0i h2e
       refine wp_cond_false (Aj (evb rfl e6b))<|wp_skip ?_
       obtain rfl:=sj f1i
       exact ⟨_,rfl,(by trivial),(Fr.mk (by kernel_rfl))⟩
     ·rintro _ _ ⟨rfl,⟨t5b,rfl⟩⟩ l'' hl
      simp only [gp,Nat.reduceAdd] at hl
      subst hl
      refine h0e _ _<|wp_seq_k fun K4e h4e=>Af<|sV (Aa rfl) ?_
      refine sV (Aa rfl) ?_
      refine sV (AQ (c:=wu32 m2a) AO AR rfl rfl) ?_
      refine Ct (vals:=[(0,.int .u32 (wu32 m2a))]) (cs:=[.int .u32 (wu32 m2a)]) Ar As Hc (by rfl) (by decide) (by kernel_rfl) fun b2i w3 E5e g1l q3i=>?_
      refine nrm ?_
      have X6e:=xtr X8b E5e
      have n4i:RLu w3 (some ⟨b2i,0,none⟩) 1 [(wu32 m2a)]:=(OW.lit (n0:=0) (n:=1) (xs:=[(wu32 m2a)]) q3i (Nat.zero_le _) rfl (by decide)).rl
      obtain ⟨_,h5i,f6i⟩:=Ab f2h
      have gd598:=AJ h5i
      refine KS Ar Ez rfl rfl rfl (ow4d.ext E5e) n4i gd598 X6e.size fun A7i c8i w4 B601 ow9i=>?_
      refine nrm ?_
      have X0j:=xO X6e B601 (Nat.le_refl _)
      refine sV (Ac rfl) ?_
      refine Ad<|h4e _ _<|Af<|sV (Aa rfl) ?_
      refine sV (IA (c:=m2a.fdiv (2^min (32:Int).toNat IntKind.u64.bits)) (by decide) rfl rfl rfl) ?_
      refine sV (Ac rfl) ?_
      refine Ad<|h7d _ _<|Af<|sV (Bd (c:=wi64 (v4a+1)) rfl rfl rfl) ?_
      refine sV (Aa rfl) ?_
      refine Ad ?_
      exact ih4g _ _ ⟨(m2a.fdiv (2^min (32:Int).toNat IntKind.u64.bits)),(wi64 (v4a+1)),(v3a++([(wu32 m2a)]:List Int)),A7i,c8i,X0j,(OW.nn ow9i),f6i,(Fr.mk (by kernel_rfl))⟩
    ·have p1j:=zN hz9b e4b
     have f2j:=ifN p1j hr4c
     refine wp_cond_false (Aj (evb rfl e4b))<|wp_exit ?_
     simp only [Exit.then,Exit.inBlock,↓reduceIte,Nat.reduceEqDiff]
     obtain rfl:=sj f2j
     exact ⟨_,rfl,A6a,c7a,X8b,(OW.nn ow4d),(Fr.mk (by kernel_rfl))⟩
  ·rintro _ w2 ⟨A1c,c2c,X3j,ow4j,⟨t3c,rfl⟩⟩ l'' hl
   simp only [gp,Nat.reduceAdd] at hl
   subst hl
   refine h1d _ _<|wp_seq_k fun K7e h7e=>Af<|sV (Aa rfl) ?_
   refine sV (Aa rfl) ?_
   refine sV (AQ (c:=wu32 m1a.1) AO AR rfl rfl) ?_
   refine Ct (vals:=[(0,.int .u32 (wu32 m1a.1))]) (cs:=[.int .u32 (wu32 m1a.1)]) Ar As Hc (by rfl) (by decide) (by kernel_rfl) fun b5j w3 E8e g2l q6j=>?_
   refine nrm ?_
   have X9e:=xtr X3j E8e
   have n7j:RLu w3 (some ⟨b5j,0,none⟩) 1 [(wu32 m1a.1)]:=(OW.lit (n0:=0) (n:=1) (xs:=[(wu32 m1a.1)]) q6j (Nat.zero_le _) rfl (by decide)).rl
   obtain ⟨_,h8j,f9j⟩:=Ab f3g
   have gd613:=AJ h8j
   refine KS Ar Ez rfl rfl rfl (ow4j.ext E8e) n7j gd613 X9e.size fun A0k c1k w4 B616 ow2k=>?_
   refine nrm ?_
   have X0f:=xO X9e B616 (Nat.le_refl _)
   obtain ⟨r3k,h4k,f5k⟩:=Ab f9j
   refine sc (Ae Ju (by rfl)) (Dm (m1a.2++([(wu32 m1a.1)]:List Int)) A0k c1k w4 (tbx X0f hT) (OW.rl ow2k) r3k h4k) ?_
   rintro _ w5 E6k ⟨A7k,c8k,rfl,n9k⟩
   refine nrm ?_
   have X0l:=xtr X0f E6k
   refine sV (Ac rfl) ?_
   refine Ad<|h7e _ _<|wp_ret ?_
   obtain rfl:=sj f5k
   exact fin rfl (Res.tmp rfl Res.nil) (Ak X0l ⟨A7k,c8k,rfl,n9k⟩)
theorem FI (x0:List Int) (x1:List Int) (A1:Option Addr) (c2:Nat) (A4:Option Addr) (c5:Nat) (w:World) (hT:TB w) (n3:RLu w A1 c2 x0) (n6:RLu w A4 c5 x1) (r:List Int) (hr:Cg x0 x1=some r) :
  Calls Tryz.prog 191 #[.slice A1 x0.length c2,.slice A4 x1.length c5] w (Ret IQ w r):=by
 unfold Cg at hr
 go_enter Tryz.func191,Tryz.ntmps191
 refine wp_seq_k fun K7 h7=>Af<|sV (Ac rfl) ?_
 refine Ad<|h7 _ _<|wp_seq_k fun K8 h8=>Af<|sV (Aa rfl) ?_
 obtain ⟨r9,h5e,f6e⟩:=Ab hr
 refine sc (Ae Nl (by rfl)) (GZ x0 A1 c2 w hT n3 r9 h5e) ?_
 rintro _ w1 E7e ⟨A1a,c2a,rfl,n8e⟩
 refine nrm ?_
 refine sV (Ac rfl) ?_
 refine Ad<|h8 _ _<|wp_seq_k fun K0c h0c=>Af<|sV (Ac rfl) ?_
 refine Ad<|h0c _ _<|wp_seq_k fun K1c h1c=>wp_seq_k fun K2c h2c=>Af<|sV (Aa rfl) ?_
 refine sV (AD Ar rfl) ?_
 refine sV (Aa rfl) ?_
 refine Ad<|h2c _ _ ?_
 obtain ⟨m6b,h9e,f0f⟩:=Ab f6e
 refine Di (fun l l' w'=>Ext w w'∧OW 179 w.heap.size w' A1a r9.length c2a m6b∧Fr l' (fun t7b=>gp t7b 0 5 (.slice A1a r9.length c2a::gp t7b 6 41 []))) ?_ ?_
 ·apply wp_block
  refine BA (fun l n3c l' w'=>∃(v4a:Int) (v0a:Int) (v5a:List Int),Ext w w'∧OW 179 w.heap.size w' A1a r9.length c2a v5a∧Dv x0 x1 r9 n3c v4a v0a v5a=some m6b∧Fr l' (fun t6a=>gp t6a 0 1 (.slice A4 x1.length c5::gp t6a 2 3 (.slice A1a r9.length c2a::.int .u64 v4a::gp t6a 7 6 (.int .i64 ((r9.length:Nat):Int)::.int .i64 v0a::gp t6a 15 32 []))))) 18446744073709551616 ?_ ?_ ?_
  ·exact ⟨0,0,r9,E7e,n8e,h9e,(Fr.mk (by kernel_rfl))⟩
  ·rintro l' w' ⟨v4a,v0a,v5a,_,_,hz,_⟩
   exact nomatch hz
  ·rintro n3c ih1f _ w2 ⟨v4a,v0a,v5a,X8b,ow7a,hr9b,⟨t6a,rfl⟩⟩ l'' hl
   simp only [gp,Nat.reduceAdd] at hl
   subst hl
   unfold Dv at hr9b
   refine Bg<|wp_seq_k fun K4c h4c=>Af<|sb (Cm rfl rfl) fun z1b hz1b=>?_
   refine nrm ?_
   refine Ad<|h4c _ _<|wp_seq_k fun K5c h5c=>?_
   rcases bft z1b with e8a | e8a
   ·have p2f:=zP hz1b e8a
    have f3f:=ifP p2f hr9b
    refine wp_cond_true (Aj (evb rfl e8a))<|wp_skip<|h5c _ _<|wp_seq_k fun K6c h6c=>?_
    apply wp_block
    refine wp_seq_k fun K7c h7c=>Af<|sV (Aa rfl) ?_
    refine sV (Ac rfl) ?_
    refine Ad<|h7c _ _<|wp_seq_k fun K8c h8c=>Af<|sV (Aa rfl) ?_
    refine sV (Ac rfl) ?_
    refine Ad<|h8c _ _<|wp_seq_k fun K9c h9c=>wp_seq_k fun K0d h0d=>Af<|sV (Aa rfl) ?_
    refine sV (Aa rfl) ?_
    refine sV (AD Ar rfl) ?_
    refine sb (Cm rfl rfl) fun z2b hz2b=>?_
    refine nrm ?_
    refine Ad<|h0d _ _ ?_
    obtain ⟨m3b,h1d,f4f⟩:=Ab f3f
    refine Di (fun l l' w'=>w2=w'∧Fr l' (fun t3a=>gp t3a 0 1 (.slice A4 x1.length c5::gp t3a 2 3 (.slice A1a r9.length c2a::gp t3a 6 1 (.int .i64 v0a::.int .u64 m3b::gp t3a 9 4 (.int .i64 ((r9.length:Nat):Int)::.int .i64 v0a::gp t3a 15 32 [])))))) ?_ ?_
    ·rcases bft z2b with e9a | e9a
     ·have p5f:=zP hz2b e9a
      have f6f:=ifP p5f h1d
      refine wp_cond_true (Aj (evb rfl e9a))<|Af<|sV (Aa rfl) ?_
      refine sV (Aa rfl) ?_
      refine sV (Aa rfl) ?_
      obtain ⟨u2d,h7f,f8f⟩:=Ab f6f
      obtain ⟨bb615,oo616,hA9f,ia0g,ib1g,hc618⟩:=RL.nth (n6.ext X8b) h7f
      refine sV (Ay Ar As rfl rfl hA9f ia0g ib1g) ?_
      refine sV (Ag AV rfl hc618) ?_
      refine sV (AQ (c:=wu64 u2d) AR AO rfl rfl) ?_
      refine sV (Bd (c:=wu64 (v4a+(wu64 u2d))) rfl rfl rfl) ?_
      refine sV (Ac rfl) ?_
      refine Ad ?_
      obtain rfl:=sj f8f
      exact ⟨_,rfl,(by trivial),(Fr.mk (by kernel_rfl))⟩
     ·have p2g:=zN hz2b e9a
      have f3g:=ifN p2g h1d
      refine wp_cond_false (Aj (evb rfl e9a))<|wp_skip ?_
      obtain rfl:=sj f3g
      exact ⟨_,rfl,(by trivial),(Fr.mk (by kernel_rfl))⟩
    ·rintro _ _ ⟨rfl,⟨t3a,rfl⟩⟩ l'' hl
     simp only [gp,Nat.reduceAdd] at hl
     subst hl
     refine h9c _ _<|wp_seq_k fun K3d h3d=>Af<|sV (Aa rfl) ?_
     refine sV (Aa rfl) ?_
     obtain ⟨u4b,h4g,f5g⟩:=Ab f4f
     obtain ⟨bb626,hA6g,hz8i,ia7g,ib8g,hc631⟩:=OW.nthc ow7a h4g
     refine sV (Ay Ar As rfl rfl hA6g ia7g ib8g) ?_
     refine sV (Ag AV rfl hc631) ?_
     refine sV (AQ (c:=wu64 u4b) AR AO rfl rfl) ?_
     refine sV (Ac rfl) ?_
     refine Ad<|h3d _ _<|wp_seq_k fun K4d h4d=>Af<|sV (Aa rfl) ?_
     refine sV (Aa rfl) ?_
     refine sV (Aa rfl) ?_
     refine sV (Aa rfl) ?_
     refine sV (Bv (c:=wu64 ((wu64 u4b) - m3b)) rfl rfl rfl) ?_
     refine sV (AQ (c:=wu32 (wu64 ((wu64 u4b) - m3b))) AO AR rfl rfl) ?_
     obtain ⟨u9i,h9g,f0h⟩:=Ab f5g
     obtain ⟨bb636,hA5d,hz0j,ia6d,ib7d,hc641⟩:=OW.nthc ow7a h9g
     refine sV (Ay Ar As rfl rfl hA5d ia6d ib7d) ?_
     refine Mp As rfl rfl ow7a hA5d ia6d (by rw [OW.len ow7a];exact ib7d) fun w3 B642 U1j ow1h=>?_
     have X2h:=xO X8b B642 (Nat.le_refl _)
     refine Ad<|h4d _ _<|wp_seq_k fun K8d h8d=>Af<|sV (Ac rfl) ?_
     refine Ad<|h8d _ _<|wp_seq_k fun K9d h9d=>Af<|sV (Aa rfl) ?_
     refine sV (Aa rfl) ?_
     refine sb (Cm rfl rfl) fun z5b hz5b=>?_
     refine nrm ?_
     refine Ad<|h9d _ _ ?_
     obtain ⟨m0e,h1e,f3h⟩:=Ab f0h
     refine Di (fun l l' w'=>w3=w'∧l'=(l.set 6 (.int .u64 m0e))) ?_ ?_
     ·rcases bft z5b with e0b | e0b
      ·have p4h:=zP hz5b e0b
       have f5h:=ifP p4h h1e
       refine wp_cond_true (Aj (evb rfl e0b))<|Af<|sV (Ac rfl) ?_
       refine Ad ?_
       obtain rfl:=sj f5h
       exact ⟨_,rfl,(by trivial),(by simp only [S0,S1]<;>rfl)⟩
      ·have p6h:=zN hz5b e0b
       have f7h:=ifN p6h h1e
       refine wp_cond_false (Aj (evb rfl e0b))<|wp_skip ?_
       obtain rfl:=sj f7h
       exact ⟨_,rfl,(by trivial),(by simp only [S0,S1]<;>rfl)⟩
     ·rintro l' _ ⟨rfl,hq'⟩ l'' hl
      rw [hq'] at hl
      clear hq'
      simp only [S0,S1] at hl
      subst hl
      refine h6c _ _<|Af<|sV (Bd (c:=wi64 (v0a+1)) rfl rfl rfl) ?_
      refine sV (Aa rfl) ?_
      refine Ad ?_
      exact ih1f _ _ ⟨m0e,(wi64 (v0a+1)),(List.set v5a (v0a:Int).toNat (wu32 (wu64 ((wu64 u4b) - m3b)))),X2h,ow1h,f3h,(Fr.mk (by kernel_rfl))⟩
   ·have p8h:=zN hz1b e8a
    have f9h:=ifN p8h hr9b
    refine wp_cond_false (Aj (evb rfl e8a))<|wp_exit ?_
    simp only [Exit.then,Exit.inBlock,↓reduceIte,Nat.reduceEqDiff]
    obtain rfl:=sj f9h
    exact ⟨_,rfl,X8b,ow7a,(Fr.mk (by kernel_rfl))⟩
 ·rintro _ w2 ⟨X2e,ow3e,⟨t7b,rfl⟩⟩ l'' hl
  simp only [gp,Nat.reduceAdd] at hl
  subst hl
  refine h1c _ _<|wp_seq_k fun K4e h4e=>Af<|sV (Aa rfl) ?_
  obtain ⟨r0i,h1i,f2i⟩:=Ab f0f
  refine sc (Ae Ju (by simp only [OW.len ow3e];rfl)) (Dm m6b A1a c2a w2 (tbx X2e hT) (OW.rl ow3e) r0i h1i) ?_
  rintro _ w3 E3i ⟨A4i,c5i,rfl,n6i⟩
  refine nrm ?_
  have X7i:=xtr X2e E3i
  refine sV (Ac rfl) ?_
  refine Ad<|h4e _ _<|wp_ret ?_
  obtain rfl:=sj f2i
  exact fin rfl (Res.tmp rfl Res.nil) (Ak X7i ⟨A4i,c5i,rfl,n6i⟩)
theorem Hx (x0:List Int) (x1:List Int) (A1:Option Addr) (c2:Nat) (A4:Option Addr) (c5:Nat) (w:World) (hT:TB w) (n3:RLu w A1 c2 x0) (n6:RLu w A4 c5 x1) (r:List Int) (hr:CL x0 x1=some r) :
  Calls Tryz.prog 241 #[.slice A1 x0.length c2,.slice A4 x1.length c5] w (Ret IQ w r):=by
 unfold CL at hr
 go_enter Tryz.func241,Tryz.ntmps241
 refine wp_seq_k fun K7 h7=>Af<|sV (Ac rfl) ?_
 refine Ad<|h7 _ _<|wp_seq_k fun K8 h8=>Af<|sV (Aa rfl) ?_
 refine sV (AD Ar rfl) ?_
 refine sV (Aa rfl) ?_
 refine sV (AD Ar rfl) ?_
 refine sV (Bd (c:=wi64 ((x0.length:Int)+(x1.length:Int))) rfl rfl rfl) ?_
 obtain ⟨_,h9,f4f⟩:=Ab hr
 have gd11:=AJ h9
 refine Iv Ar Ez rfl rfl gd11 fun A1a w1 E5f ow6f=>?_
 refine nrm ?_
 refine sV (Ac rfl) ?_
 refine Ad<|h8 _ _<|wp_seq_k fun K6c h6c=>wp_seq_k fun K7c h7c=>Af<|sV (Aa rfl) ?_
 refine sV (AD Ar rfl) ?_
 refine sV (Aa rfl) ?_
 refine Ad<|h7c _ _ ?_
 obtain ⟨m9b,h7f,f8f⟩:=Ab f4f
 refine Di (fun l l' w'=>Ext w w'∧OW 179 w.heap.size w' A1a (((wi64 ((x0.length:Int)+(x1.length:Int))):Int).toNat) (((wi64 ((x0.length:Int)+(x1.length:Int))):Int).toNat) m9b∧Fr l' (fun t0c=>gp t0c 0 5 (.slice A1a (((wi64 ((x0.length:Int)+(x1.length:Int))):Int).toNat) (((wi64 ((x0.length:Int)+(x1.length:Int))):Int).toNat)::gp t0c 6 61 []))) ?_ ?_
 ·apply wp_block
  refine BA (fun l n8c l' w'=>∃(v0a:Int) (v9a:List Int),Ext w w'∧OW 179 w.heap.size w' A1a (((wi64 ((x0.length:Int)+(x1.length:Int))):Int).toNat) (((wi64 ((x0.length:Int)+(x1.length:Int))):Int).toNat) v9a∧Dy x0 x1 n8c v0a v9a=some m9b∧Fr l' (fun t0b=>gp t0b 0 1 (.slice A4 x1.length c5::gp t0b 2 3 (.slice A1a (((wi64 ((x0.length:Int)+(x1.length:Int))):Int).toNat) (((wi64 ((x0.length:Int)+(x1.length:Int))):Int).toNat)::gp t0b 6 11 (.slice A1 x0.length c2::.int .i64 (x0.length:Int)::.int .i64 v0a::gp t0b 20 47 []))))) 18446744073709551616 ?_ ?_ ?_
  ·exact ⟨0,(List.replicate ((wi64 ((x0.length:Int)+(x1.length:Int))):Int).toNat (0:Int)),E5f,ow6f,h7f,(Fr.mk (by kernel_rfl))⟩
  ·rintro l' w' ⟨v0a,v9a,_,_,hz,_⟩
   exact nomatch hz
  ·rintro n8c ih9f _ w2 ⟨v0a,v9a,X1c,ow9c,hr2c,⟨t0b,rfl⟩⟩ l'' hl
   simp only [gp,Nat.reduceAdd] at hl
   subst hl
   unfold Dy at hr2c
   refine Bg<|wp_seq_k fun K0d h0d=>Af<|sb (Cm rfl rfl) fun z6b hz6b=>?_
   refine nrm ?_
   refine Ad<|h0d _ _<|wp_seq_k fun K1d h1d=>?_
   rcases bft z6b with e1b | e1b
   ·have p0g:=zP hz6b e1b
    have f1g:=ifP p0g hr2c
    refine wp_cond_true (Aj (evb rfl e1b))<|wp_skip<|h1d _ _<|wp_seq_k fun K2d h2d=>?_
    obtain ⟨m3d,h2g,f3g⟩:=Ab f1g
    refine Di (fun l l' w'=>Ext w w'∧OW 179 w.heap.size w' A1a (((wi64 ((x0.length:Int)+(x1.length:Int))):Int).toNat) (((wi64 ((x0.length:Int)+(x1.length:Int))):Int).toNat) m3d∧Fr l' (fun t2b=>gp t2b 0 1 (.slice A4 x1.length c5::gp t2b 2 3 (.slice A1a (((wi64 ((x0.length:Int)+(x1.length:Int))):Int).toNat) (((wi64 ((x0.length:Int)+(x1.length:Int))):Int).toNat)::gp t2b 6 11 (.slice A1 x0.length c2::.int .i64 (x0.length:Int)::.int .i64 v0a::gp t2b 20 47 []))))) ?_ ?_
    ·apply wp_block
     refine wp_seq_k fun K4d h4d=>Af<|sV (Aa rfl) ?_
     obtain ⟨u2a,h4g,f5g⟩:=Ab h2g
     obtain ⟨bb4311,oo4312,hA6g,ia7g,ib8g,hc4314⟩:=RL.nth (n3.ext X1c) h4g
     refine sV (Ay Ar As rfl rfl hA6g ia7g ib8g) ?_
     refine sV (Ag AV rfl hc4314) ?_
     refine sV (Ac rfl) ?_
     refine sV (Ac rfl) ?_
     refine Ad<|h4d _ _<|wp_seq_k fun K5d h5d=>Af<|sV (Ac rfl) ?_
     refine Ad<|h5d _ _<|wp_seq_k fun K6d h6d=>wp_seq_k fun K7d h7d=>Af<|sV (Aa rfl) ?_
     refine sV (AD Ar rfl) ?_
     refine sV (Aa rfl) ?_
     refine Ad<|h7d _ _ ?_
     obtain ⟨m7b,h9g,f0h⟩:=Ab f5g
     refine Di (fun l l' w'=>Ext w w'∧OW 179 w.heap.size w' A1a (((wi64 ((x0.length:Int)+(x1.length:Int))):Int).toNat) (((wi64 ((x0.length:Int)+(x1.length:Int))):Int).toNat) m7b.2∧Fr l' (fun t7a=>gp t7a 0 1 (.slice A4 x1.length c5::gp t7a 2 3 (.slice A1a (((wi64 ((x0.length:Int)+(x1.length:Int))):Int).toNat) (((wi64 ((x0.length:Int)+(x1.length:Int))):Int).toNat)::.int .i64 v0a::gp t7a 7 1 (.int .u64 m7b.1::gp t7a 9 8 (.slice A1 x0.length c2::.int .i64 (x0.length:Int)::.int .i64 v0a::gp t7a 20 47 [])))))) ?_ ?_
     ·apply wp_block
      refine BA (fun l n8d l' w'=>∃(v3a:Int) (v4a:Int) (v3b:List Int),Ext w w'∧OW 179 w.heap.size w' A1a (((wi64 ((x0.length:Int)+(x1.length:Int))):Int).toNat) (((wi64 ((x0.length:Int)+(x1.length:Int))):Int).toNat) v3b∧DD x0 x1 v0a u2a n8d v3a v4a v3b=some m7b∧Fr l' (fun t8a=>gp t8a 0 1 (.slice A4 x1.length c5::gp t8a 2 3 (.slice A1a (((wi64 ((x0.length:Int)+(x1.length:Int))):Int).toNat) (((wi64 ((x0.length:Int)+(x1.length:Int))):Int).toNat)::.int .i64 v0a::.int .u32 u2a::.int .u64 v3a::gp t8a 9 8 (.slice A1 x0.length c2::.int .i64 (x0.length:Int)::.int .i64 v0a::gp t8a 20 4 (.slice A4 x1.length c5::.int .i64 (x1.length:Int)::.int .i64 v4a::gp t8a 27 40 [])))))) 18446744073709551616 ?_ ?_ ?_
      ·exact ⟨0,0,v9a,X1c,ow9c,h9g,(Fr.mk (by kernel_rfl))⟩
      ·rintro l' w' ⟨v3a,v4a,v3b,_,_,hz,_⟩
       exact nomatch hz
      ·rintro n8d ih1h _ w3 ⟨v3a,v4a,v3b,X3c,ow4b,hr4c,⟨t8a,rfl⟩⟩ l'' hl
       simp only [gp,Nat.reduceAdd] at hl
       subst hl
       unfold DD at hr4c
       refine Bg<|wp_seq_k fun K9d h9d=>Af<|sb (Cm rfl rfl) fun z8b hz8b=>?_
       refine nrm ?_
       refine Ad<|h9d _ _<|wp_seq_k fun K0e h0e=>?_
       rcases bft z8b with e5b | e5b
       ·have p2h:=zP hz8b e5b
        have f3h:=ifP p2h hr4c
        refine wp_cond_true (Aj (evb rfl e5b))<|wp_skip<|h0e _ _<|wp_seq_k fun K1e h1e=>?_
        apply wp_block
        refine wp_seq_k fun K2e h2e=>Af<|sV (Aa rfl) ?_
        obtain ⟨u5a,h4h,f5h⟩:=Ab f3h
        obtain ⟨bb4635,oo4636,hA6h,ia7h,ib8h,hc4638⟩:=RL.nth (n6.ext X3c) h4h
        refine sV (Ay Ar As rfl rfl hA6h ia7h ib8h) ?_
        refine sV (Ag AV rfl hc4638) ?_
        refine sV (Ac rfl) ?_
        refine sV (Ac rfl) ?_
        refine Ad<|h2e _ _<|wp_seq_k fun K3e h3e=>Af<|sV (Aa rfl) ?_
        refine sV (Aa rfl) ?_
        refine sV (AQ (c:=wu64 u2a) AR AO rfl rfl) ?_
        refine sV (Aa rfl) ?_
        refine sV (AQ (c:=wu64 u5a) AR AO rfl rfl) ?_
        refine sV (JH (c:=wu64 ((wu64 u2a)*(wu64 u5a))) rfl rfl rfl) ?_
        refine sV (Aa rfl) ?_
        refine sV (Aa rfl) ?_
        refine sV (Aa rfl) ?_
        refine sV (Bd (c:=wi64 (v0a+v4a)) rfl rfl rfl) ?_
        obtain ⟨u6a,h9h,f0i⟩:=Ab f5h
        obtain ⟨bb4646,hA1i,hz7k,ia2i,ib3i,hc4651⟩:=OW.nthc ow4b h9h
        refine sV (Ay Ar As rfl rfl hA1i ia2i ib3i) ?_
        refine sV (Ag AV rfl hc4651) ?_
        refine sV (AQ (c:=wu64 u6a) AR AO rfl rfl) ?_
        refine sV (Bd (c:=wu64 ((wu64 ((wu64 u2a)*(wu64 u5a)))+(wu64 u6a))) rfl rfl rfl) ?_
        refine sV (Bd (c:=wu64 (v3a+(wu64 ((wu64 ((wu64 u2a)*(wu64 u5a)))+(wu64 u6a))))) rfl rfl rfl) ?_
        refine sV (Ac rfl) ?_
        refine Ad<|h3e _ _<|wp_seq_k fun K4e h4e=>Af<|sV (Aa rfl) ?_
        refine sV (Aa rfl) ?_
        refine sV (Aa rfl) ?_
        refine sV (Bd (c:=wi64 (v0a+v4a)) rfl rfl rfl) ?_
        refine sV (Aa rfl) ?_
        refine sV (AQ (c:=wu32 (wu64 (v3a+(wu64 ((wu64 ((wu64 u2a)*(wu64 u5a)))+(wu64 u6a)))))) AO AR rfl rfl) ?_
        obtain ⟨u8k,h4i,f5i⟩:=Ab f0i
        obtain ⟨bb4656,hA5e,hz9k,ia6e,ib7e,hc4661⟩:=OW.nthc ow4b h4i
        refine sV (Ay Ar As rfl rfl hA5e ia6e ib7e) ?_
        refine Mp As rfl rfl ow4b hA5e ia6e (by rw [OW.len ow4b];exact ib7e) fun w4 B4662 U0l ow6i=>?_
        have X7i:=xO X3c B4662 (Nat.le_refl _)
        refine Ad<|h4e _ _<|Af<|sV (Aa rfl) ?_
        refine sV (IA (c:=(wu64 (v3a+(wu64 ((wu64 ((wu64 u2a)*(wu64 u5a)))+(wu64 u6a))))).fdiv (2^min (32:Int).toNat IntKind.u64.bits)) (by decide) rfl rfl rfl) ?_
        refine sV (Ac rfl) ?_
        refine Ad<|h1e _ _<|Af<|sV (Bd (c:=wi64 (v4a+1)) rfl rfl rfl) ?_
        refine sV (Aa rfl) ?_
        refine Ad ?_
        exact ih1h _ _ ⟨((wu64 (v3a+(wu64 ((wu64 ((wu64 u2a)*(wu64 u5a)))+(wu64 u6a))))).fdiv (2^min (32:Int).toNat IntKind.u64.bits)),(wi64 (v4a+1)),(List.set v3b ((wi64 (v0a+v4a)):Int).toNat (wu32 (wu64 (v3a+(wu64 ((wu64 ((wu64 u2a)*(wu64 u5a)))+(wu64 u6a))))))),X7i,ow6i,f5i,(Fr.mk (by kernel_rfl))⟩
       ·have p8i:=zN hz8b e5b
        have f9i:=ifN p8i hr4c
        refine wp_cond_false (Aj (evb rfl e5b))<|wp_exit ?_
        simp only [Exit.then,Exit.inBlock,↓reduceIte,Nat.reduceEqDiff]
        obtain rfl:=sj f9i
        exact ⟨_,rfl,X3c,ow4b,(Fr.mk (by kernel_rfl))⟩
     ·rintro _ w3 ⟨X0j,ow5c,⟨t7a,rfl⟩⟩ l'' hl
      simp only [gp,Nat.reduceAdd] at hl
      subst hl
      refine h6d _ _<|Af<|sV (Aa rfl) ?_
      refine sV (Aa rfl) ?_
      refine sV (Aa rfl) ?_
      refine sV (AD Ar rfl) ?_
      refine sV (Bd (c:=wi64 (v0a+(x1.length:Int))) rfl rfl rfl) ?_
      refine sV (Aa rfl) ?_
      refine sV (AQ (c:=wu32 m7b.1) AO AR rfl rfl) ?_
      obtain ⟨u1l,h1j,f2j⟩:=Ab f0h
      obtain ⟨bb4669,hA8e,hz2l,ia9e,ib0f,hc4674⟩:=OW.nthc ow5c h1j
      refine sV (Ay Ar As rfl rfl hA8e ia9e ib0f) ?_
      refine Mp As rfl rfl ow5c hA8e ia9e (by rw [OW.len ow5c];exact ib0f) fun w4 B4675 U3l ow3j=>?_
      have X4j:=xO X0j B4675 (Nat.le_refl _)
      refine Ad ?_
      obtain rfl:=sj f2j
      exact ⟨_,rfl,X4j,ow3j,(Fr.mk (by kernel_rfl))⟩
    ·rintro _ w3 ⟨X5j,ow6j,⟨t2b,rfl⟩⟩ l'' hl
     simp only [gp,Nat.reduceAdd] at hl
     subst hl
     refine h2d _ _<|Af<|sV (Bd (c:=wi64 (v0a+1)) rfl rfl rfl) ?_
     refine sV (Aa rfl) ?_
     refine Ad ?_
     exact ih9f _ _ ⟨(wi64 (v0a+1)),m3d,X5j,ow6j,f3g,(Fr.mk (by kernel_rfl))⟩
   ·have p7j:=zN hz6b e1b
    have f8j:=ifN p7j hr2c
    refine wp_cond_false (Aj (evb rfl e1b))<|wp_exit ?_
    simp only [Exit.then,Exit.inBlock,↓reduceIte,Nat.reduceEqDiff]
    obtain rfl:=sj f8j
    exact ⟨_,rfl,X1c,ow9c,(Fr.mk (by kernel_rfl))⟩
 ·rintro _ w2 ⟨X1f,ow2f,⟨t0c,rfl⟩⟩ l'' hl
  simp only [gp,Nat.reduceAdd] at hl
  subst hl
  refine h6c _ _<|wp_seq_k fun K3f h3f=>Af<|sV (Aa rfl) ?_
  obtain ⟨r9j,h0k,f1k⟩:=Ab f8f
  refine sc (Ae Ju (by simp only [OW.len ow2f];rfl)) (Dm m9b A1a (((wi64 ((x0.length:Int)+(x1.length:Int))):Int).toNat) w2 (tbx X1f hT) (OW.rl ow2f) r9j h0k) ?_
  rintro _ w3 E2k ⟨A3k,c4k,rfl,n5k⟩
  refine nrm ?_
  have X6k:=xtr X1f E2k
  refine sV (Ac rfl) ?_
  refine Ad<|h3f _ _<|wp_ret ?_
  obtain rfl:=sj f1k
  exact fin rfl (Res.tmp rfl Res.nil) (Ak X6k ⟨A3k,c4k,rfl,n5k⟩)
theorem Db (x0:List Int) (x1:Int) (A1:Option Addr) (c2:Nat) (w:World) (hT:TB w) (n3:RLu w A1 c2 x0) (r:List Int) (hr:Bp x0 x1=some r) :
  Calls Tryz.prog 185 #[.slice A1 x0.length c2,.int .i64 x1] w (Ret IQ w r):=by
 unfold Bp at hr
 go_enter Tryz.func185,Tryz.ntmps185
 refine wp_seq_k fun K4 h4=>Af<|sV (Ac rfl) ?_
 refine Ad<|h4 _ _<|wp_seq_k fun K5 h5=>wp_seq_k fun K6 h6=>Af<|sV (Aa rfl) ?_
 refine sV (AD Ar rfl) ?_
 refine sb (Ce rfl rfl) fun z7 hz7=>?_
 refine nrm ?_
 refine Ad<|h6 _ _ ?_
 rcases bft z7 with e5a | e5a
 ·have p6d:=zP hz7 e5a
  have f7d:=ifP p6d hr
  refine wp_cond_true (Aj (evb rfl e5a))<|wp_seq_k fun K6b h6b=>Af<|sV (Ac rfl) ?_
  refine Ad<|h6b _ _<|wp_ret ?_
  obtain rfl:=sj f7d
  exact fin rfl (Res.tmp rfl Res.nil) (Ak (Ext.refl _) ⟨none,0,rfl,(RL.nil _ _ _)⟩)
 ·have p8d:=zN hz7 e5a
  have f9d:=ifN p8d hr
  refine wp_cond_false (Aj (evb rfl e5a))<|wp_skip<|h5 _ _<|wp_seq_k fun K7b h7b=>Af<|sV (Aa rfl) ?_
  refine sV (HK (c:=wi64 (x1.tdiv 32)) (by decide) rfl rfl rfl) ?_
  refine sV (Aa rfl) ?_
  refine sV (HK (c:=wi64 (x1.tdiv 32)) (by decide) rfl rfl rfl) ?_
  refine sV (Aa rfl) ?_
  refine sV (AD Ar rfl) ?_
  refine sV (Bd (c:=wi64 ((wi64 (x1.tdiv 32))+(x0.length:Int))) rfl rfl rfl) ?_
  refine sV (Bd (c:=wi64 ((wi64 ((wi64 (x1.tdiv 32))+(x0.length:Int)))+1)) rfl rfl rfl) ?_
  obtain ⟨_,h0e,f1e⟩:=Ab f9d
  have gd22:=AJ h0e
  refine Iv Ar Ez rfl rfl gd22 fun A2e w1 E3e ow8b=>?_
  refine nrm ?_
  refine sV (Ac rfl) ?_
  refine Ad<|h7b _ _<|wp_seq_k fun K9b h9b=>Af<|sV (Ac rfl) ?_
  refine Ad<|h9b _ _<|wp_seq_k fun K0c h0c=>wp_seq_k fun K1c h1c=>Af<|sV (Aa rfl) ?_
  refine sV (AD Ar rfl) ?_
  refine sV (Aa rfl) ?_
  refine Ad<|h1c _ _ ?_
  obtain ⟨m0a,h4e,f5e⟩:=Ab f1e
  refine Di (fun l l' w'=>∃(A1b:Option Addr) (c2b:Nat),Ext w w'∧OW 179 w.heap.size w' A1b m0a.2.length c2b m0a.2∧Fr l' (fun t3b=>gp t3b 0 5 (.slice A1b m0a.2.length c2b::.int .u64 m0a.1::gp t3b 7 41 []))) ?_ ?_
  ·apply wp_block
   refine BA (fun l n2c l' w'=>∃(v1a:Int) (v4a:Int) (v3a:List Int) (A6a:Option Addr) (c7a:Nat),Ext w w'∧OW 179 w.heap.size w' A6a v3a.length c7a v3a∧BO x0 x1 n2c v1a v4a v3a=some m0a∧Fr l' (fun t8a=>gp t8a 0 1 (.int .i64 x1::gp t8a 2 3 (.slice A6a v3a.length c7a::.int .u64 v1a::gp t8a 7 14 (.slice A1 x0.length c2::.int .i64 (x0.length:Int)::.int .i64 v4a::gp t8a 24 24 []))))) 18446744073709551616 ?_ ?_ ?_
   ·exact ⟨0,0,(List.replicate ((wi64 (x1.tdiv 32)):Int).toNat (0:Int)),A2e,(((wi64 ((wi64 ((wi64 (x1.tdiv 32))+(x0.length:Int)))+1)):Int).toNat),E3e,(OW.nn ow8b),h4e,(Fr.mk (by simp only [OW.len ow8b];kernel_rfl))⟩
   ·rintro l' w' ⟨v1a,v4a,v3a,A6a,c7a,_,_,hz,_⟩
    exact nomatch hz
   ·rintro n2c ih6e _ w2 ⟨v1a,v4a,v3a,A6a,c7a,X4b,ow3c,hr5b,⟨t8a,rfl⟩⟩ l'' hl
    simp only [gp,Nat.reduceAdd] at hl
    subst hl
    unfold BO at hr5b
    refine Bg<|wp_seq_k fun K4c h4c=>Af<|sb (Cm rfl rfl) fun z0b hz0b=>?_
    refine nrm ?_
    refine Ad<|h4c _ _<|wp_seq_k fun K5c h5c=>?_
    rcases bft z0b with e9a | e9a
    ·have p7e:=zP hz0b e9a
     have f8e:=ifP p7e hr5b
     refine wp_cond_true (Aj (evb rfl e9a))<|wp_skip<|h5c _ _<|wp_seq_k fun K6c h6c=>?_
     apply wp_block
     refine wp_seq_k fun K7c h7c=>Af ?_
     obtain ⟨u2a,h9e,f0f⟩:=Ab f8e
     obtain ⟨bb335,oo336,hA1f,ia2f,ib3f,hc338⟩:=RL.nth (n3.ext X4b) h9e
     refine sV (Ay Ar As rfl rfl hA1f ia2f ib3f) ?_
     refine sV (Ag AV rfl hc338) ?_
     refine sV (Ac rfl) ?_
     refine Ad<|h7c _ _<|wp_seq_k fun K8c h8c=>Af<|sV (Aa rfl) ?_
     refine sV (Aa rfl) ?_
     refine sV (AQ (c:=wu64 u2a) AR AO rfl rfl) ?_
     refine sV (Aa rfl) ?_
     refine sV (JD (c:=x1.tmod 32) (by decide) rfl rfl rfl) ?_
     obtain ⟨_,h4f,f5f⟩:=Ab f0f
     have gd345:=AJ h4f
     refine sV (JI (c:=wu64 ((wu64 u2a)*2^min ((x1.tmod 32):Int).toNat IntKind.u64.bits)) gd345 rfl rfl rfl) ?_
     refine sV (Mr rfl rfl) ?_
     refine sV (Ac rfl) ?_
     refine Ad<|h8c _ _<|wp_seq_k fun K9c h9c=>Af<|sV (Aa rfl) ?_
     refine sV (Aa rfl) ?_
     refine sV (AQ (c:=wu32 (bor .u64 v1a (wu64 ((wu64 u2a)*2^min ((x1.tmod 32):Int).toNat IntKind.u64.bits)))) AO AR rfl rfl) ?_
     refine Ct (vals:=[(0,.int .u32 (wu32 (bor .u64 v1a (wu64 ((wu64 u2a)*2^min ((x1.tmod 32):Int).toNat IntKind.u64.bits)))))]) (cs:=[.int .u32 (wu32 (bor .u64 v1a (wu64 ((wu64 u2a)*2^min ((x1.tmod 32):Int).toNat IntKind.u64.bits))))]) Ar As Hc (by rfl) (by decide) (by kernel_rfl) fun b6f w3 E0d g5i q7f=>?_
     refine nrm ?_
     have X1d:=xtr X4b E0d
     have n8f:RLu w3 (some ⟨b6f,0,none⟩) 1 [(wu32 (bor .u64 v1a (wu64 ((wu64 u2a)*2^min ((x1.tmod 32):Int).toNat IntKind.u64.bits))))]:=(OW.lit (n0:=0) (n:=1) (xs:=[(wu32 (bor .u64 v1a (wu64 ((wu64 u2a)*2^min ((x1.tmod 32):Int).toNat IntKind.u64.bits))))]) q7f (Nat.zero_le _) rfl (by decide)).rl
     obtain ⟨_,h9f,f0g⟩:=Ab f5f
     have gd355:=AJ h9f
     refine KS Ar Ez rfl rfl rfl (ow3c.ext E0d) n8f gd355 X1d.size fun A1g c2g w4 B358 ow3g=>?_
     refine nrm ?_
     have X4g:=xO X1d B358 (Nat.le_refl _)
     refine sV (Ac rfl) ?_
     refine Ad<|h9c _ _<|Af<|sV (Aa rfl) ?_
     refine sV (IA (c:=(bor .u64 v1a (wu64 ((wu64 u2a)*2^min ((x1.tmod 32):Int).toNat IntKind.u64.bits))).fdiv (2^min (32:Int).toNat IntKind.u64.bits)) (by decide) rfl rfl rfl) ?_
     refine sV (Ac rfl) ?_
     refine Ad<|h6c _ _<|Af<|sV (Bd (c:=wi64 (v4a+1)) rfl rfl rfl) ?_
     refine sV (Aa rfl) ?_
     refine Ad ?_
     exact ih6e _ _ ⟨((bor .u64 v1a (wu64 ((wu64 u2a)*2^min ((x1.tmod 32):Int).toNat IntKind.u64.bits))).fdiv (2^min (32:Int).toNat IntKind.u64.bits)),(wi64 (v4a+1)),(v3a++([(wu32 (bor .u64 v1a (wu64 ((wu64 u2a)*2^min ((x1.tmod 32):Int).toNat IntKind.u64.bits))))]:List Int)),A1g,c2g,X4g,(OW.nn ow3g),f0g,(Fr.mk (by kernel_rfl))⟩
    ·have p5g:=zN hz0b e9a
     have f6g:=ifN p5g hr5b
     refine wp_cond_false (Aj (evb rfl e9a))<|wp_exit ?_
     simp only [Exit.then,Exit.inBlock,↓reduceIte,Nat.reduceEqDiff]
     obtain rfl:=sj f6g
     exact ⟨_,rfl,A6a,c7a,X4b,(OW.nn ow3c),(Fr.mk (by kernel_rfl))⟩
  ·rintro _ w2 ⟨A1b,c2b,X7g,ow8g,⟨t3b,rfl⟩⟩ l'' hl
   simp only [gp,Nat.reduceAdd] at hl
   subst hl
   refine h0c _ _<|wp_seq_k fun K2d h2d=>Af<|sV (Aa rfl) ?_
   refine sV (Aa rfl) ?_
   refine sV (AQ (c:=wu32 m0a.1) AO AR rfl rfl) ?_
   refine Ct (vals:=[(0,.int .u32 (wu32 m0a.1))]) (cs:=[.int .u32 (wu32 m0a.1)]) Ar As Hc (by rfl) (by decide) (by kernel_rfl) fun b9g w3 E3d g6i q0h=>?_
   refine nrm ?_
   have X4d:=xtr X7g E3d
   have n1h:RLu w3 (some ⟨b9g,0,none⟩) 1 [(wu32 m0a.1)]:=(OW.lit (n0:=0) (n:=1) (xs:=[(wu32 m0a.1)]) q0h (Nat.zero_le _) rfl (by decide)).rl
   obtain ⟨_,h2h,f3h⟩:=Ab f5e
   have gd370:=AJ h2h
   refine KS Ar Ez rfl rfl rfl (ow8g.ext E3d) n1h gd370 X4d.size fun A4h c5h w4 B373 ow6h=>?_
   refine nrm ?_
   have X5d:=xO X4d B373 (Nat.le_refl _)
   obtain ⟨r7h,h8h,f9h⟩:=Ab f3h
   refine sc (Ae Ju (by rfl)) (Dm (m0a.2++([(wu32 m0a.1)]:List Int)) A4h c5h w4 (tbx X5d hT) (OW.rl ow6h) r7h h8h) ?_
   rintro _ w5 E0i ⟨A1i,c2i,rfl,n3i⟩
   refine nrm ?_
   have X4i:=xtr X5d E0i
   refine sV (Ac rfl) ?_
   refine Ad<|h2d _ _<|wp_ret ?_
   obtain rfl:=sj f9h
   exact fin rfl (Res.tmp rfl Res.nil) (Ak X4i ⟨A1i,c2i,rfl,n3i⟩)
theorem FT (x0:List Int) (x1:Int) (A1:Option Addr) (c2:Nat) (w:World) (hT:TB w) (n3:RLu w A1 c2 x0) (r:List Int) (hr:Ch x0 x1=some r) :
  Calls Tryz.prog 204 #[.slice A1 x0.length c2,.int .i64 x1] w (Ret IQ w r):=by
 unfold Ch at hr
 go_enter Tryz.func204,Tryz.ntmps204
 refine wp_seq_k fun K4 h4=>Af<|sV (Ac rfl) ?_
 refine Ad<|h4 _ _<|wp_seq_k fun K5 h5=>wp_seq_k fun K6 h6=>Af<|sV (Aa rfl) ?_
 refine sV (HK (c:=wi64 (x1.tdiv 32)) (by decide) rfl rfl rfl) ?_
 refine sV (Aa rfl) ?_
 refine sV (AD Ar rfl) ?_
 refine sb (EP rfl rfl) fun z7 hz7=>?_
 refine nrm ?_
 refine Ad<|h6 _ _ ?_
 rcases bft z7 with e6a | e6a
 ·have p4f:=zP hz7 e6a
  have f5f:=ifP p4f hr
  refine wp_cond_true (Aj (evb rfl e6a))<|wp_seq_k fun K4c h4c=>Af<|sV (Ac rfl) ?_
  refine Ad<|h4c _ _<|wp_ret ?_
  obtain rfl:=sj f5f
  exact fin rfl (Res.tmp rfl Res.nil) (Ak (Ext.refl _) ⟨none,0,rfl,(RL.nil _ _ _)⟩)
 ·have p6f:=zN hz7 e6a
  have f7f:=ifN p6f hr
  refine wp_cond_false (Aj (evb rfl e6a))<|wp_skip<|h5 _ _<|wp_seq_k fun K5c h5c=>Af<|sV (Aa rfl) ?_
  refine sV (Aa rfl) ?_
  refine sV (HK (c:=wi64 (x1.tdiv 32)) (by decide) rfl rfl rfl) ?_
  obtain ⟨_,h8f,f9f⟩:=Ab f7f
  have gd22:=AJ h8f
  refine MB (lo:=((wi64 (x1.tdiv 32)):Int).toNat) (hi:=x0.length) Ar As rfl ⟨.i64,by rw [Int.toNat_of_nonneg (a:=(wi64 (x1.tdiv 32))) (by omega)];rfl⟩ rfl (by omega) (by omega) n3 fun A7b c8b n6c=>?_
  refine nrm ?_
  refine sV (Ac rfl) ?_
  refine Ad<|h5c _ _<|wp_seq_k fun K7c h7c=>Af<|sV (Aa rfl) ?_
  refine sV (AD Ar rfl) ?_
  obtain ⟨_,h0g,f1g⟩:=Ab f9f
  have gd29:=AJ h0g
  refine Iv Ar Ez rfl rfl gd29 fun A4a w1 E2g ow3g=>?_
  refine nrm ?_
  refine sV (Ac rfl) ?_
  refine Ad<|h7c _ _<|wp_seq_k fun K8c h8c=>wp_seq_k fun K9c h9c=>Af<|sV (Aa rfl) ?_
  refine sV (AD Ar rfl) ?_
  refine sV (Aa rfl) ?_
  refine Ad<|h9c _ _ ?_
  obtain ⟨m9b,h4g,f5g⟩:=Ab f1g
  refine Di (fun l l' w'=>Ext w w'∧OW 179 w.heap.size w' A4a (((List.length ((List.drop (((wi64 (x1.tdiv 32)):Int).toNat) x0).take (x0.length - (((wi64 (x1.tdiv 32)):Int).toNat))):Int):Int).toNat) (((List.length ((List.drop (((wi64 (x1.tdiv 32)):Int).toNat) x0).take (x0.length - (((wi64 (x1.tdiv 32)):Int).toNat))):Int):Int).toNat) m9b∧Fr l' (fun t0c=>gp t0c 0 5 (.slice A4a (((List.length ((List.drop (((wi64 (x1.tdiv 32)):Int).toNat) x0).take (x0.length - (((wi64 (x1.tdiv 32)):Int).toNat))):Int):Int).toNat) (((List.length ((List.drop (((wi64 (x1.tdiv 32)):Int).toNat) x0).take (x0.length - (((wi64 (x1.tdiv 32)):Int).toNat))):Int):Int).toNat)::gp t0c 6 56 []))) ?_ ?_
  ·apply wp_block
   refine BA (fun l n0d l' w'=>∃(v2a:Int) (v2b:List Int) (t7a:Nat→Value),Ext w w'∧OW 179 w.heap.size w' A4a (((List.length ((List.drop (((wi64 (x1.tdiv 32)):Int).toNat) x0).take (x0.length - (((wi64 (x1.tdiv 32)):Int).toNat))):Int):Int).toNat) (((List.length ((List.drop (((wi64 (x1.tdiv 32)):Int).toNat) x0).take (x0.length - (((wi64 (x1.tdiv 32)):Int).toNat))):Int):Int).toNat) v2b∧DC x0 x1 n0d v2a v2b=some m9b∧Fr l' (fun t0a=>.slice A7b (List.length ((List.drop (((wi64 (x1.tdiv 32)):Int).toNat) x0).take (x0.length - (((wi64 (x1.tdiv 32)):Int).toNat)))) c8b::.int .i64 x1::gp t0a 2 3 (.slice A4a (((List.length ((List.drop (((wi64 (x1.tdiv 32)):Int).toNat) x0).take (x0.length - (((wi64 (x1.tdiv 32)):Int).toNat))):Int):Int).toNat) (((List.length ((List.drop (((wi64 (x1.tdiv 32)):Int).toNat) x0).take (x0.length - (((wi64 (x1.tdiv 32)):Int).toNat))):Int):Int).toNat)::gp t0a 6 14 (.slice A7b (List.length ((List.drop (((wi64 (x1.tdiv 32)):Int).toNat) x0).take (x0.length - (((wi64 (x1.tdiv 32)):Int).toNat)))) c8b::.int .i64 (List.length ((List.drop (((wi64 (x1.tdiv 32)):Int).toNat) x0).take (x0.length - (((wi64 (x1.tdiv 32)):Int).toNat))):Int)::.int .i64 v2a::gp t0a 23 17 ((t7a 0)::(t7a 1)::(t7a 2)::gp t0a 43 19 []))))) 18446744073709551616 ?_ ?_ ?_
   ·exact ⟨0,(List.replicate ((List.length ((List.drop (((wi64 (x1.tdiv 32)):Int).toNat) x0).take (x0.length - (((wi64 (x1.tdiv 32)):Int).toNat))):Int):Int).toNat (0:Int)),(tk [uu,uu,uu]),E2g,ow3g,h4g,(Fr.mk (by kernel_rfl))⟩
   ·rintro l' w' ⟨v2a,v2b,t7a,_,_,hz,_⟩
    exact nomatch hz
   ·rintro n0d ih6g _ w2 ⟨v2a,v2b,t7a,X1c,ow3b,hr2c,⟨t0a,rfl⟩⟩ l'' hl
    simp only [gp,Nat.reduceAdd] at hl
    subst hl
    unfold DC at hr2c
    refine Bg<|wp_seq_k fun K1d h1d=>Af<|sb (Cm rfl rfl) fun z4b hz4b=>?_
    refine nrm ?_
    refine Ad<|h1d _ _<|wp_seq_k fun K2d h2d=>?_
    rcases bft z4b with e8a | e8a
    ·have p7g:=zP hz4b e8a
     have f8g:=ifP p7g hr2c
     refine wp_cond_true (Aj (evb rfl e8a))<|wp_skip<|h2d _ _<|wp_seq_k fun K3d h3d=>?_
     apply wp_block
     refine wp_seq_k fun K4d h4d=>Af<|sV (Aa rfl) ?_
     obtain ⟨u9g,h0h,f1h⟩:=Ab f8g
     obtain ⟨bb876,oo877,hA2h,ia3h,ib4h,hc879⟩:=RL.nth (n6c.ext X1c) h0h
     refine sV (Ay Ar As rfl rfl hA2h ia3h ib4h) ?_
     refine sV (Ag AV rfl hc879) ?_
     refine sV (Ac rfl) ?_
     refine sV (Ac rfl) ?_
     refine Ad<|h4d _ _<|wp_seq_k fun K5d h5d=>Af<|sV (Aa rfl) ?_
     refine sV (Aa rfl) ?_
     refine sV (Aa rfl) ?_
     refine sV (Aa rfl) ?_
     refine sV (JD (c:=x1.tmod 32) (by decide) rfl rfl rfl) ?_
     obtain ⟨_,h5h,f6h⟩:=Ab f1h
     have gd886:=AJ h5h
     refine sV (IA (c:=u9g.fdiv (2^min ((x1.tmod 32):Int).toNat IntKind.u32.bits)) gd886 rfl rfl rfl) ?_
     obtain ⟨u7l,h7h,f8h⟩:=Ab f6h
     obtain ⟨bb890,hA6d,hz8l,ia7d,ib8d,hc895⟩:=OW.nthc ow3b h7h
     refine sV (Ay Ar As rfl rfl hA6d ia7d ib8d) ?_
     refine Mp As rfl rfl ow3b hA6d ia7d (by rw [OW.len ow3b];exact ib8d) fun w3 B896 U9l ow9a=>?_
     have X9d:=xO X1c B896 (Nat.le_refl _)
     refine Ad<|h5d _ _<|wp_seq_k fun K0e h0e=>Af<|sV (Aa rfl) ?_
     refine sV (Bd (c:=wi64 (v2a+1)) rfl rfl rfl) ?_
     refine sV (Aa rfl) ?_
     refine sV (AD Ar rfl) ?_
     refine sb (Cm rfl rfl) fun z5b hz5b=>?_
     refine nrm ?_
     refine sV (Aa rfl) ?_
     obtain ⟨m1e,h2e,f9h⟩:=Ab f8h
     refine Ca 10 (fun l l' w'=>∃(t5a:Nat→Value),w3=w'∧l'=((((l.set 40 (t5a 0)).set 41 (t5a 1)).set 42 (t5a 2)).set 43 (.bool m1e))) ?_ ?_
     ·intro HJ912
      rcases bft z5b with e3a | e3a
      ·have p0i:=zP hz5b e3a
       have f1i:=ifP p0i h2e
       refine sV (Aa rfl) ?_ (hw:=wgT rfl e3a)
       refine sV (JD (c:=x1.tmod 32) (by decide) rfl rfl rfl) ?_ (hw:=wgT rfl e3a)
       refine sb (Fs rfl rfl) ?_ (hw:=wgT rfl e3a)
       intro z3c hz3c
       refine nrm ?_
       refine sV (AB (evb rfl e3a) rfl) ?_
       obtain rfl:z3c=decide (0<(x1.tmod 32)):=bz hz3c
       obtain rfl:=sj f1i
       exact HJ912 _ _ ⟨(tk [.int .i64 x1,.int .i64 (x1.tmod 32),.bool (decide (0<(x1.tmod 32)))]),(by trivial),(by simp only [S0,S1]<;>rfl)⟩
      ·have p2i:=zN hz5b e3a
       have f3i:=ifN p2i h2e
       refine sP ?_ (hw:=wgF rfl e3a)
       refine sP ?_ (hw:=wgF rfl e3a)
       refine sP ?_ (hw:=wgF rfl e3a)
       refine sV (AF (evb rfl e3a) rfl) ?_
       obtain rfl:=sj f3i
       exact HJ912 _ _ ⟨(tk [uu,uu,uu]),(by trivial),(by simp only [S0,S1]<;>rfl)⟩
     ·rintro l' _ ⟨t5a,rfl,hq'⟩ l'' hl
      rw [hq'] at hl
      clear hq'
      simp only [S0,S1] at hl
      subst hl
      refine Ad<|h0e _ _ ?_
      obtain ⟨m3e,h4e,f4i⟩:=Ab f9h
      refine Di (fun l l' w'=>∃(t1a:Nat→Value),Ext w w'∧OW 179 w.heap.size w' A4a (((List.length ((List.drop (((wi64 (x1.tdiv 32)):Int).toNat) x0).take (x0.length - (((wi64 (x1.tdiv 32)):Int).toNat))):Int):Int).toNat) (((List.length ((List.drop (((wi64 (x1.tdiv 32)):Int).toNat) x0).take (x0.length - (((wi64 (x1.tdiv 32)):Int).toNat))):Int):Int).toNat) m3e∧l'=(((((((((((((((l.set 44 (t1a 0)).set 45 (t1a 1)).set 46 (t1a 2)).set 47 (t1a 3)).set 48 (t1a 4)).set 49 (t1a 5)).set 50 (t1a 6)).set 51 (t1a 7)).set 52 (t1a 8)).set 53 (t1a 9)).set 54 (t1a 10)).set 55 (t1a 11)).set 56 (t1a 12)).set 57 (t1a 13)).set 58 (t1a 14))) ?_ ?_
      ·rcases bft m1e with e0b | e0b
       ·have p5i:=e0b
        have f6i:=ifP p5i h4e
        refine wp_cond_true (Aj (evb rfl e0b))<|Ei [15] 16 mo rfl fun w4 E1b S5e=>have X6e:=xtr X9d E1b;dA 0 rfl (fun _=>Aa rfl) ?_
        refine dA 1 rfl (fun _=>Aa rfl) ?_
        obtain ⟨u7e,h7i,f8i⟩:=Ab f6i
        obtain ⟨bb982,hA9i,hz0m,ia0j,ib1j,hc987⟩:=OW.nthc (ow9a.ext E1b) h7i
        refine dA 2 rfl (fun _=>Ay Ar As rfl rfl hA9i ia0j ib1j) ?_
        refine dV 3 rfl (fun _ hw=>Ag AV rfl (Dd hc987 hw)) S5e ?_
        refine dA 4 rfl (fun _=>Aa rfl) ?_
        refine dA 5 rfl (fun _=>Aa rfl) ?_
        refine dA 6 rfl (fun _=>Bd (c:=wi64 (v2a+1)) rfl rfl rfl) ?_
        obtain ⟨u6b,h2j,f3j⟩:=Ab f8i
        obtain ⟨bb991,oo992,hA4j,ia5j,ib6j,hc994⟩:=RL.nth (n6c.ext X6e) h2j
        refine dA 7 rfl (fun _=>Ay Ar As rfl rfl hA4j ia5j ib6j) ?_
        refine dV 8 rfl (fun _ hw=>Ag AV rfl (Dd hc994 hw)) S5e ?_
        refine dA 9 rfl (fun _=>Aa rfl) ?_
        refine dA 10 rfl (fun _=>JD (c:=x1.tmod 32) (by decide) rfl rfl rfl) ?_
        refine dA 11 rfl (fun _=>Bv (c:=wi64 (32 - (x1.tmod 32))) rfl rfl rfl) ?_
        obtain ⟨_,h7j,f8j⟩:=Ab f3j
        have gd999:=AJ h7j
        refine dA 12 rfl (fun _=>JI (c:=wu32 (u6b*2^min ((wi64 (32 - (x1.tmod 32))):Int).toNat IntKind.u32.bits)) gd999 rfl rfl rfl) ?_
        refine dA 13 rfl (fun _=>Mr rfl rfl) ?_
        obtain ⟨u1m,h9j,f0k⟩:=Ab f8j
        obtain ⟨bb1003,hA8e,hz2m,ia9e,ib0f,hc1008⟩:=OW.nthc (ow9a.ext E1b) h9j
        refine dA 14 rfl (fun _=>Ay Ar As rfl rfl hA8e ia9e ib0f) ?_
        refine dkO 15 rfl (by kernel_rfl) (by decide) (by rfl) As rfl rfl (ow9a.ext E1b) hA8e ia9e (by rw [OW.len (ow9a.ext E1b)];exact ib0f) fun w5 B1009 U3m ow1k=>?_
        have X2k:=xO X6e B1009 (Nat.le_refl _)
        refine CU (by kernel_rfl) ?_
        obtain rfl:=sj f0k
        exact ⟨_,rfl,(tk [.slice A4a (((List.length ((List.drop (((wi64 (x1.tdiv 32)):Int).toNat) x0).take (x0.length - (((wi64 (x1.tdiv 32)):Int).toNat))):Int):Int).toNat) (((List.length ((List.drop (((wi64 (x1.tdiv 32)):Int).toNat) x0).take (x0.length - (((wi64 (x1.tdiv 32)):Int).toNat))):Int):Int).toNat),.int .i64 v2a,.pointer (some ⟨bb982,0+(v2a:Int).toNat,none⟩),.int .u32 u7e,.slice A7b (List.length ((List.drop (((wi64 (x1.tdiv 32)):Int).toNat) x0).take (x0.length - (((wi64 (x1.tdiv 32)):Int).toNat)))) c8b,.int .i64 v2a,.int .i64 (wi64 (v2a+1)),.pointer (some ⟨bb991,oo992+((wi64 (v2a+1)):Int).toNat,none⟩),.int .u32 u6b,.int .i64 x1,.int .i64 (x1.tmod 32),.int .i64 (wi64 (32 - (x1.tmod 32))),.int .u32 (wu32 (u6b*2^min ((wi64 (32 - (x1.tmod 32))):Int).toNat IntKind.u32.bits)),.int .u32 (bor .u32 u7e (wu32 (u6b*2^min ((wi64 (32 - (x1.tmod 32))):Int).toNat IntKind.u32.bits))),.pointer (some ⟨bb1003,0+(v2a:Int).toNat,none⟩)]),X2k,ow1k,(by simp only [S0,S1]<;>rfl)⟩
       ·have p3k:=bF e0b
        have f4k:=ifN p3k h4e
        refine wp_cond_false (Aj (evb rfl e0b))<|wp_skip ?_
        obtain rfl:=sj f4k
        exact ⟨_,rfl,(tk [t0a 44,t0a 45,t0a 46,t0a 47,t0a 48,t0a 49,t0a 50,t0a 51,t0a 52,t0a 53,t0a 54,t0a 55,t0a 56,t0a 57,t0a 58]),X9d,ow9a,(by simp only [S0,S1]<;>rfl)⟩
      ·rintro l' w4 ⟨t1a,X5k,ow6k,hq'⟩ l'' hl
       rw [hq'] at hl
       clear hq'
       simp only [S0,S1] at hl
       subst hl
       refine h3d _ _<|Af<|sV (Bd (c:=wi64 (v2a+1)) rfl rfl rfl) ?_
       refine sV (Aa rfl) ?_
       refine Ad ?_
       exact ih6g _ _ ⟨(wi64 (v2a+1)),m3e,(tk [t5a 0,t5a 1,t5a 2]),X5k,ow6k,f4i,(Fr.mk (by kernel_rfl))⟩
    ·have p7k:=zN hz4b e8a
     have f8k:=ifN p7k hr2c
     refine wp_cond_false (Aj (evb rfl e8a))<|wp_exit ?_
     simp only [Exit.then,Exit.inBlock,↓reduceIte,Nat.reduceEqDiff]
     obtain rfl:=sj f8k
     exact ⟨_,rfl,X1c,ow3b,(Fr.mk (by kernel_rfl))⟩
  ·rintro _ w2 ⟨X1f,ow2f,⟨t0c,rfl⟩⟩ l'' hl
   simp only [gp,Nat.reduceAdd] at hl
   subst hl
   refine h8c _ _<|wp_seq_k fun K3f h3f=>Af<|sV (Aa rfl) ?_
   obtain ⟨r9k,h0l,f1l⟩:=Ab f5g
   refine sc (Ae Ju (by simp only [OW.len ow2f];rfl)) (Dm m9b A4a (((List.length ((List.drop (((wi64 (x1.tdiv 32)):Int).toNat) x0).take (x0.length - (((wi64 (x1.tdiv 32)):Int).toNat))):Int):Int).toNat) w2 (tbx X1f hT) (OW.rl ow2f) r9k h0l) ?_
   rintro _ w3 E2l ⟨A3l,c4l,rfl,n5l⟩
   refine nrm ?_
   have X6l:=xtr X1f E2l
   refine sV (Ac rfl) ?_
   refine Ad<|h3f _ _<|wp_ret ?_
   obtain rfl:=sj f1l
   exact fin rfl (Res.tmp rfl Res.nil) (Ak X6l ⟨A3l,c4l,rfl,n5l⟩)
theorem c_wide_Nat_short (x0:List Int) (x1:Int) (A1:Option Addr) (c2:Nat) (w:World) (hT:TB w) (n3:RLu w A1 c2 x0) (r:List Int × List Int) (hr:FP x0 x1=some r) :
  Calls Tryz.prog 237 #[.slice A1 x0.length c2,.int .u32 x1] w (Ret KG w r):=by
 unfold FP at hr
 go_enter Tryz.func237,Tryz.ntmps237
 refine wp_seq_k fun K4 h4=>Af<|sV (Ac rfl) ?_
 refine sV (Ac rfl) ?_
 refine Ad<|h4 _ _<|wp_seq_k fun K5 h5=>Af<|sV (Aa rfl) ?_
 refine sV (AD Ar rfl) ?_
 obtain ⟨_,h6,f7⟩:=Ab hr
 have gd8:=AJ h6
 refine Iv Ar Ez rfl rfl gd8 fun A9 w1 E9c ow0d=>?_
 refine nrm ?_
 refine sV (Ac rfl) ?_
 refine Ad<|h5 _ _<|wp_seq_k fun K3b h3b=>Af<|sV (Ac rfl) ?_
 refine Ad<|h3b _ _<|wp_seq_k fun K4b h4b=>wp_seq_k fun K5b h5b=>Af<|sV (Aa rfl) ?_
 refine sV (AD Ar rfl) ?_
 refine sV (Bv (c:=wi64 ((x0.length:Int) - 1)) rfl rfl rfl) ?_
 refine sV (Ac rfl) ?_
 refine Ad<|h5b _ _ ?_
 obtain ⟨m3a,h1d,f2d⟩:=Ab f7
 refine Di (fun l l' w'=>Ext w w'∧OW 179 w.heap.size w' A9 (((x0.length:Int):Int).toNat) (((x0.length:Int):Int).toNat) m3a.2∧Fr l' (fun t9a=>gp t9a 0 6 (.slice A9 (((x0.length:Int):Int).toNat) (((x0.length:Int):Int).toNat)::.int .u64 m3a.1::gp t9a 8 35 []))) ?_ ?_
 ·apply wp_block
  refine BA (fun l n6b l' w'=>∃(v0a:Int) (v1a:Int) (v4a:List Int),Ext w w'∧OW 179 w.heap.size w' A9 (((x0.length:Int):Int).toNat) (((x0.length:Int):Int).toNat) v4a∧BH x0 x1 n6b v0a v1a v4a=some m3a∧Fr l' (fun t0b=>.slice A1 x0.length c2::.int .u32 x1::gp t0b 2 4 (.slice A9 (((x0.length:Int):Int).toNat) (((x0.length:Int):Int).toNat)::.int .u64 v0a::.int .i64 v1a::gp t0b 9 34 []))) 18446744073709551616 ?_ ?_ ?_
  ·exact ⟨0,(wi64 ((x0.length:Int) - 1)),(List.replicate ((x0.length:Int):Int).toNat (0:Int)),E9c,ow0d,h1d,(Fr.mk (by kernel_rfl))⟩
  ·rintro l' w' ⟨v0a,v1a,v4a,_,_,hz,_⟩
   exact nomatch hz
  ·rintro n6b ih3d _ w2 ⟨v0a,v1a,v4a,X1b,ow6a,hr2b,⟨t0b,rfl⟩⟩ l'' hl
   simp only [gp,Nat.reduceAdd] at hl
   subst hl
   unfold BH at hr2b
   refine Bg<|wp_seq_k fun K7b h7b=>wp_seq_k fun K8b h8b=>Af<|sV (Aa rfl) ?_
   refine sb (EP rfl rfl) fun z7a hz7a=>?_
   refine nrm ?_
   refine Ad<|h8b _ _ ?_
   rcases bft z7a with e5a | e5a
   ·have p4d:=zP hz7a e5a
    have f5d:=ifP p4d hr2b
    refine wp_cond_true (Aj (evb rfl e5a))<|wp_skip<|h7b _ _<|wp_seq_k fun K9b h9b=>?_
    apply wp_block
    refine wp_seq_k fun K0c h0c=>Af<|sV (Aa rfl) ?_
    refine sV (JI (c:=wu64 (v0a*2^min (32:Int).toNat IntKind.u64.bits)) (by decide) rfl rfl rfl) ?_
    refine sV (Aa rfl) ?_
    refine sV (Aa rfl) ?_
    obtain ⟨u2a,h6d,f7d⟩:=Ab f5d
    obtain ⟨bb320,oo321,hA8d,ia9d,ib0e,hc323⟩:=RL.nth (n3.ext X1b) h6d
    refine sV (Ay Ar As rfl rfl hA8d ia9d ib0e) ?_
    refine sV (Ag AV rfl hc323) ?_
    refine sV (AQ (c:=wu64 u2a) AR AO rfl rfl) ?_
    refine sV (Mr rfl rfl) ?_
    refine sV (Ac rfl) ?_
    refine Ad<|h0c _ _<|Ei [12] 14 mo rfl fun w3 E8a S6g=>have X1e:=xtr X1b E8a;dA 0 rfl (fun _=>Aa rfl) ?_
    refine dA 1 rfl (fun _=>Aa rfl) ?_
    refine dA 2 rfl (fun _=>Aa rfl) ?_
    refine dA 3 rfl (fun _=>Aa rfl) ?_
    refine dA 4 rfl (fun _=>AQ (c:=wu64 x1) AR AO rfl rfl) ?_
    obtain ⟨_,h2e,f3e⟩:=Ab f7d
    have gd332:=AJ h2e
    refine dA 5 rfl (fun _=>HK (c:=wu64 ((bor .u64 (wu64 (v0a*2^min (32:Int).toNat IntKind.u64.bits)) (wu64 u2a)).tdiv (wu64 x1))) (decide_eq_true gd332) rfl rfl rfl) ?_
    refine dA 6 rfl (fun _=>AQ (c:=wu32 (wu64 ((bor .u64 (wu64 (v0a*2^min (32:Int).toNat IntKind.u64.bits)) (wu64 u2a)).tdiv (wu64 x1)))) AO AR rfl rfl) ?_
    refine dA 7 rfl (fun _=>Aa rfl) ?_
    refine dA 8 rfl (fun _=>Aa rfl) ?_
    refine dA 9 rfl (fun _=>AQ (c:=wu64 x1) AR AO rfl rfl) ?_
    obtain ⟨_,h4e,f5e⟩:=Ab f3e
    have gd335:=AJ h4e
    refine dA 10 rfl (fun _=>JD (c:=(bor .u64 (wu64 (v0a*2^min (32:Int).toNat IntKind.u64.bits)) (wu64 u2a)).tmod (wu64 x1)) (decide_eq_true gd335) rfl rfl rfl) ?_
    obtain ⟨u7g,h6e,f7e⟩:=Ab f5e
    obtain ⟨bb339,hA1c,hz8g,ia2c,ib3c,hc344⟩:=OW.nthc (ow6a.ext E8a) h6e
    refine dA 11 rfl (fun _=>Ay Ar As rfl rfl hA1c ia2c ib3c) ?_
    refine dkO 12 rfl (by kernel_rfl) (by decide) (by rfl) As rfl rfl (ow6a.ext E8a) hA1c ia2c (by rw [OW.len (ow6a.ext E8a)];exact ib3c) fun w4 B345 U9g ow8e=>?_
    have X9e:=xO X1e B345 (Nat.le_refl _)
    refine dA 13 rfl (fun _=>Ac rfl) ?_
    refine CU (by kernel_rfl) ?_
    refine h9b _ _<|Af<|sV (Aa rfl) ?_
    refine sV (Bv (c:=wi64 (v1a - 1)) rfl rfl rfl) ?_
    refine sV (Ac rfl) ?_
    refine Ad ?_
    exact ih3d _ _ ⟨((bor .u64 (wu64 (v0a*2^min (32:Int).toNat IntKind.u64.bits)) (wu64 u2a)).tmod (wu64 x1)),(wi64 (v1a - 1)),(List.set v4a (v1a:Int).toNat (wu32 (wu64 ((bor .u64 (wu64 (v0a*2^min (32:Int).toNat IntKind.u64.bits)) (wu64 u2a)).tdiv (wu64 x1))))),X9e,ow8e,f7e,(Fr.mk (by kernel_rfl))⟩
   ·have p0f:=zN hz7a e5a
    have f1f:=ifN p0f hr2b
    refine wp_cond_false (Aj (evb rfl e5a))<|wp_exit ?_
    simp only [Exit.then,Exit.inBlock,↓reduceIte,Nat.reduceEqDiff]
    obtain rfl:=sj f1f
    exact ⟨_,rfl,X1b,ow6a,(Fr.mk (by kernel_rfl))⟩
 ·rintro _ w2 ⟨X4c,ow5c,⟨t9a,rfl⟩⟩ l'' hl
  simp only [gp,Nat.reduceAdd] at hl
  subst hl
  refine h4b _ _<|wp_seq_k fun K6c h6c=>Af<|sV (Aa rfl) ?_
  obtain ⟨r2f,h3f,f4f⟩:=Ab f2d
  refine sc (Ae Ju (by simp only [OW.len ow5c];rfl)) (Dm m3a.2 A9 (((x0.length:Int):Int).toNat) w2 (tbx X4c hT) (OW.rl ow5c) r2f h3f) ?_
  rintro _ w3 E5f ⟨A6f,c7f,rfl,n8f⟩
  refine nrm ?_
  have X7c:=xtr X4c E5f
  refine sV (Aa rfl) ?_
  obtain ⟨r9f,h0g,f1g⟩:=Ab f4f
  refine sc (Ae en_265 (by rfl)) (c_wide_Of m3a.1 w3 (tbx X7c hT)  r9f h0g) ?_
  rintro _ w4 E8c ⟨A2g,c3g,rfl,n4g⟩
  refine nrm ?_
  have X5g:=xtr X7c E8c
  refine sV (Ac rfl) ?_
  refine sV (Ac rfl) ?_
  refine Ad<|h6c _ _<|wp_ret ?_
  obtain rfl:=sj f1g
  exact fin rfl (Res.tmp rfl (Res.tmp rfl Res.nil)) (Ak X5g ⟨A6f,c7f,A2g,c3g,rfl,(n8f.ext E8c),n4g⟩)
end Go.Proofs.Lf

