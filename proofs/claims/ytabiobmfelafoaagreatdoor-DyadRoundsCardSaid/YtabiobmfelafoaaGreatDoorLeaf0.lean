import Derived.Test.YtabiobmfelafoaaGreatDoorLeafDefs
namespace Go.Proofs.Lf
set_option linter.unusedVariables false
set_option linter.unusedSimpArgs false
set_option maxHeartbeats 4000000
open Go.RowKit Go.Sb Go.Proofs Go.Proofs.Sbn
theorem Dp (x0:List Int) (A1:Option Addr) (c2:Nat) (w:World) (hT:TB w) (n3:RLu w A1 c2 x0) (r:List Int) (hr:Bw x0=some r) :
  Calls Tryz.prog 236 #[.slice A1 x0.length c2] w (Ret HX w r):=by
 unfold Bw at hr
 go_enter Tryz.func236,Tryz.ntmps236
 refine wp_seq_k fun K4 h4=>Ae<|sV (Ac rfl) ?_
 refine Ad<|h4 _ _<|wp_seq_k fun K5 h5=>?_
 obtain ⟨m2b,h5c,f6c⟩:=Ab hr
 refine BZ (fun l l' w'=>∃(A9a:Option Addr) (c0b:Nat) (t4a:Nat→Value),w=w'∧RLu w' A9a c0b m2b∧l'=((((((((((((((((((l.set 0 (.slice A9a m2b.length c0b)).set 3 (t4a 0)).set 4 (t4a 1)).set 5 (t4a 2)).set 6 (t4a 3)).set 7 (t4a 4)).set 8 (t4a 5)).set 9 (t4a 6)).set 10 (t4a 7)).set 11 (t4a 8)).set 12 (t4a 9)).set 13 (t4a 10)).set 14 (t4a 11)).set 15 (t4a 12)).set 16 (t4a 13)).set 17 (t4a 14)).set 18 (t4a 15)).set 19 (t4a 16))) ?_ ?_
 ·apply wp_block
  refine AR (fun l n6b l' w'=>∃(v0a:List Int) (A5a:Option Addr) (c6a:Nat) (t1a:Nat→Value),w=w'∧RLu w' A5a c6a v0a∧CH x0 n6b v0a=some m2b∧l'=((((((((((((((((((l.set 0 (.slice A5a v0a.length c6a)).set 3 (t1a 0)).set 4 (t1a 1)).set 5 (t1a 2)).set 6 (t1a 3)).set 7 (t1a 4)).set 8 (t1a 5)).set 9 (t1a 6)).set 10 (t1a 7)).set 11 (t1a 8)).set 12 (t1a 9)).set 13 (t1a 10)).set 14 (t1a 11)).set 15 (t1a 12)).set 16 (t1a 13)).set 17 (t1a 14)).set 18 (t1a 15)).set 19 (t1a 16))) 18446744073709551616 ?_ ?_ ?_
  ·exact ⟨x0,A1,c2,(tk [uu,uu,uu,uu,uu,uu,uu,uu,uu,uu,uu,uu,uu,uu,uu,uu,uu]),(by trivial),n3,h5c,(by simp only [S0,S1]<;>rfl)⟩
  ·rintro l' w' ⟨v0a,A5a,c6a,t1a,_,_,hz,_⟩
   exact nomatch hz
  ·rintro n6b ih7c l' _ ⟨v0a,A5a,c6a,t1a,rfl,n3b,hr7b,hq'⟩ l'' hl
   rw [hq'] at hl
   clear hq'
   simp only [S0,S1] at hl
   subst hl
   unfold CH at hr7b
   refine Ba<|wp_seq_k fun K8b h8b=>wp_seq_k fun K9b h9b=>Ae<|sV (Aa rfl) ?_
   refine sV (Ax Aq rfl) ?_
   refine sb (Eu rfl rfl) fun z7a hz7a=>?_
   refine nrm ?_
   refine sV (Aa rfl) ?_
   obtain ⟨m1b,h0c,f1c⟩:=Ab hr7b
   refine BB 12 (fun l l' w'=>∃(t2a:Nat→Value),w=w'∧l'=((((((((l.set 7 (t2a 0)).set 8 (t2a 1)).set 9 (t2a 2)).set 10 (t2a 3)).set 11 (t2a 4)).set 12 (t2a 5)).set 13 (t2a 6)).set 14 (.bool m1b))) ?_ ?_
   ·intro HJ343
    rcases bft z7a with e3a | e3a
    ·have p8c:=zP hz7a e3a
     have f9c:=ifP p8c h0c
     refine sV (Aa rfl) ?_ (hw:=wgT rfl e3a)
     refine sV (Aa rfl) ?_ (hw:=wgT rfl e3a)
     refine sV (Ax Aq rfl) ?_ (hw:=wgT rfl e3a)
     refine sV (AV (c:=wi64 ((v0a.length:Int) - 1)) rfl rfl rfl) ?_ (hw:=wgT rfl e3a)
     obtain ⟨u4b,h0d,f1d⟩:=Ab f9c
     obtain ⟨bb352,oo353,hA2d,ia3d,ib4d,hc355⟩:=RL.nth n3b h0d
     refine sV (Ar Aq An rfl rfl hA2d ia3d ib4d) ?_ (hw:=wgT rfl e3a)
     refine sV (Ag AN rfl hc355) ?_ (hw:=wgT rfl e3a)
     refine sb (BE rfl rfl) ?_ (hw:=wgT rfl e3a)
     intro z5b hz5b
     refine nrm ?_
     refine sV (Aw (evb rfl e3a) rfl) ?_
     obtain rfl:z5b=decide (u4b=0):=bz hz5b
     obtain rfl:=sj f1d
     exact HJ343 _ _ ⟨(tk [.slice A5a v0a.length c6a,.slice A5a v0a.length c6a,.int .i64 (v0a.length:Int),.int .i64 (wi64 ((v0a.length:Int) - 1)),.pointer (some ⟨bb352,oo353+((wi64 ((v0a.length:Int) - 1)):Int).toNat,none⟩),.int .u32 u4b,.bool (decide (u4b=0))]),(by trivial),(by simp only [S0,S1]<;>rfl)⟩
    ·have p5d:=zN hz7a e3a
     have f6d:=ifN p5d h0c
     refine sP ?_ (hw:=wgF rfl e3a)
     refine sP ?_ (hw:=wgF rfl e3a)
     refine sP ?_ (hw:=wgF rfl e3a)
     refine sP ?_ (hw:=wgF rfl e3a)
     refine sP ?_ (hw:=wgF rfl e3a)
     refine sP ?_ (hw:=wgF rfl e3a)
     refine sP ?_ (hw:=wgF rfl e3a)
     refine sV (AB (evb rfl e3a) rfl) ?_
     obtain rfl:=sj f6d
     exact HJ343 _ _ ⟨(tk [uu,uu,uu,uu,uu,uu,uu]),(by trivial),(by simp only [S0,S1]<;>rfl)⟩
   ·rintro l' _ ⟨t2a,rfl,hq'⟩ l'' hl
    rw [hq'] at hl
    clear hq'
    simp only [S0,S1] at hl
    subst hl
    refine Ad<|h9b _ _ ?_
    rcases bft m1b with e8a | e8a
    ·have p7d:=e8a
     have f8d:=ifP p7d f1c
     refine wp_cond_true (Ai (evb rfl e8a))<|wp_skip<|h8b _ _ ?_
     apply wp_block
     refine Ae<|sV (Aa rfl) ?_
     refine sV (Aa rfl) ?_
     refine sV (Ax Aq rfl) ?_
     refine sV (AV (c:=wi64 ((v0a.length:Int) - 1)) rfl rfl rfl) ?_
     obtain ⟨_,h9d,f0e⟩:=Ab f8d
     have gd372:=Ay h9d
     refine KX (lo:=0) (hi:=((wi64 ((v0a.length:Int) - 1)):Int).toNat) Aq An rfl rfl ⟨.i64,by rw [Int.toNat_of_nonneg (a:=(wi64 ((v0a.length:Int) - 1))) (by omega)];rfl⟩ (by omega) (by omega) n3b fun A2c c3c n1e=>?_
     refine nrm ?_
     refine sV (Ac rfl) ?_
     refine Ad ?_
     exact ih7c _ _ ⟨((List.drop 0 v0a).take ((((wi64 ((v0a.length:Int) - 1)):Int).toNat) - 0)),A2c,c3c,(tk [.slice A5a v0a.length c6a,.int .i64 (v0a.length:Int),.bool z7a,.bool z7a,t2a 0,t2a 1,t2a 2,t2a 3,t2a 4,t2a 5,t2a 6,.bool m1b,.slice A5a v0a.length c6a,.slice A5a v0a.length c6a,.int .i64 (v0a.length:Int),.int .i64 (wi64 ((v0a.length:Int) - 1)),.slice A2c (List.length ((List.drop 0 v0a).take ((((wi64 ((v0a.length:Int) - 1)):Int).toNat) - 0))) c3c]),(by trivial),n1e,f0e,(by simp only [S0,S1]<;>rfl)⟩
    ·have p2e:=bF e8a
     have f3e:=ifN p2e f1c
     refine wp_cond_false (Ai (evb rfl e8a))<|wp_exit ?_
     simp only [Exit.then,Exit.inBlock,↓reduceIte,Nat.reduceEqDiff]
     obtain rfl:=sj f3e
     exact ⟨_,rfl,A5a,c6a,(tk [.slice A5a v0a.length c6a,.int .i64 (v0a.length:Int),.bool z7a,.bool z7a,t2a 0,t2a 1,t2a 2,t2a 3,t2a 4,t2a 5,t2a 6,.bool m1b,t1a 12,t1a 13,t1a 14,t1a 15,t1a 16]),(by trivial),n3b,(by simp only [S0,S1]<;>rfl)⟩
 ·rintro l' _ ⟨A9a,c0b,t4a,rfl,n4e,hq'⟩ l'' hl
  rw [hq'] at hl
  clear hq'
  simp only [S0,S1] at hl
  subst hl
  refine h5 _ _<|wp_seq_k fun K4c h4c=>Ae<|sV (Aa rfl) ?_
  refine sV (Ac rfl) ?_
  refine Ad<|h4c _ _<|wp_ret ?_
  obtain rfl:=sj f6c
  exact fin rfl (Res.tmp rfl Res.nil) (Ak (Ext.refl _) ⟨A9a,c0b,rfl,n4e⟩)
theorem c_wide_Of (x0:Int) (w:World) (hT:TB w) (r:List Int) (hr:Iy x0=some r) :
  Calls Tryz.prog 265 #[.int .u64 x0] w (Ret HX w r):=by
 unfold Iy at hr
 go_enter Tryz.func265,Tryz.ntmps265
 refine wp_seq_k fun K1 h1=>Ae<|sV (Ac rfl) ?_
 refine Ad<|h1 _ _<|wp_seq_k fun K2 h2=>Ae<|sV (Aa rfl) ?_
 refine sV (AG (c:=wu32 x0) AF AH rfl rfl) ?_
 refine sV (Aa rfl) ?_
 refine sV (Gu (c:=x0.fdiv (2^min (32:Int).toNat IntKind.u64.bits)) (by decide) rfl rfl rfl) ?_
 refine sV (AG (c:=wu32 (x0.fdiv (2^min (32:Int).toNat IntKind.u64.bits))) AF AH rfl rfl) ?_
 refine DI (vals:=[(0,.int .u32 (wu32 x0)),(1,.int .u32 (wu32 (x0.fdiv (2^min (32:Int).toNat IntKind.u64.bits))))]) (cs:=[.int .u32 (wu32 x0),.int .u32 (wu32 (x0.fdiv (2^min (32:Int).toNat IntKind.u64.bits)))]) Aq An FK (by rfl) (by decide) (by kernel_rfl) fun b4 w1 E3 g5 q6=>?_
 refine nrm ?_
 have n7:RLu w1 (some ⟨b4,0,none⟩) 2 [(wu32 x0),(wu32 (x0.fdiv (2^min (32:Int).toNat IntKind.u64.bits)))]:=(OW.lit (n0:=0) (n:=2) (xs:=[(wu32 x0),(wu32 (x0.fdiv (2^min (32:Int).toNat IntKind.u64.bits)))]) q6 (Nat.zero_le _) rfl (by decide)).rl
 obtain ⟨r8,h9,f0a⟩:=Ab hr
 refine sc (Af IG (by rfl)) (Dp ([(wu32 x0),(wu32 (x0.fdiv (2^min (32:Int).toNat IntKind.u64.bits)))]:List Int) (some ⟨b4,0,none⟩) 2 w1 (tbx E3 hT) n7 r8 h9) ?_
 rintro _ w2 E1a ⟨A2a,c3a,rfl,n4a⟩
 refine nrm ?_
 have X5a:=xtr E3 E1a
 refine sV (Ac rfl) ?_
 refine Ad<|h2 _ _<|wp_ret ?_
 obtain rfl:=sj f0a
 exact fin rfl (Res.tmp rfl Res.nil) (Ak X5a ⟨A2a,c3a,rfl,n4a⟩)
theorem DO (x0:List Int) (A1:Option Addr) (c2:Nat) (w:World) (hT:TB w) (n3:RLu w A1 c2 x0) (r:Int) (hr:Bz x0=some r) :
  Calls Tryz.prog 184 #[.slice A1 x0.length c2] w (Ret FQ w r):=by
 unfold Bz at hr
 go_enter Tryz.func184,Tryz.ntmps184
 refine wp_seq_k fun K4 h4=>Ae<|sV (Ac rfl) ?_
 refine Ad<|h4 _ _<|wp_seq_k fun K5 h5=>wp_seq_k fun K6 h6=>Ae<|sV (Aa rfl) ?_
 refine sV (Ax Aq rfl) ?_
 refine sb (BE rfl rfl) fun z7 hz7=>?_
 refine nrm ?_
 refine Ad<|h6 _ _ ?_
 rcases bft z7 with e0a | e0a
 ·have p4a:=zP hz7 e0a
  have f5a:=ifP p4a hr
  refine wp_cond_true (Ai (evb rfl e0a))<|wp_seq_k fun K1a h1a=>Ae<|sV (Ac rfl) ?_
  refine Ad<|h1a _ _<|wp_ret ?_
  obtain rfl:=sj f5a
  exact fin rfl (Res.tmp rfl Res.nil) (Ak (Ext.refl _) rfl)
 ·have p6a:=zN hz7 e0a
  have f7a:=ifN p6a hr
  refine wp_cond_false (Ai (evb rfl e0a))<|wp_skip<|h5 _ _<|wp_seq_k fun K2a h2a=>Ae<|sV (Aa rfl) ?_
  refine sV (Ax Aq rfl) ?_
  refine sV (HZ (c:=wi64 (32*(x0.length:Int))) rfl rfl rfl) ?_
  refine sV (Aa rfl) ?_
  refine sV (Aa rfl) ?_
  refine sV (Ax Aq rfl) ?_
  refine sV (AV (c:=wi64 ((x0.length:Int) - 1)) rfl rfl rfl) ?_
  obtain ⟨u8a,h9a,f0b⟩:=Ab f7a
  obtain ⟨bb23,oo24,hA1b,ia2b,ib3b,hc26⟩:=RL.nth n3 h9a
  refine sV (Ar Aq An rfl rfl hA1b ia2b ib3b) ?_
  refine sV (Ag AN rfl hc26) ?_
  obtain ⟨r3a,h4b,f32⟩:=Ab f0b
  refine sc (Af Mk (by rfl)) (ER u8a w hT  r3a h4b) ?_
  rintro _ w1 E5b rfl
  refine nrm ?_
  refine sV (AV (c:=wi64 ((wi64 (32*(x0.length:Int))) - r3a)) rfl rfl rfl) ?_
  refine sV (Ac rfl) ?_
  refine Ad<|h2a _ _<|wp_ret ?_
  obtain rfl:=sj f32
  exact fin rfl (Res.tmp rfl Res.nil) (Ak E5b rfl)
theorem Hm (x0:List Int) (A1:Option Addr) (c2:Nat) (w:World) (hT:TB w) (n3:RLu w A1 c2 x0) (r:Int) (hr:Cx x0=some r) :
  Calls Tryz.prog 213 #[.slice A1 x0.length c2] w (Ret FQ w r):=by
 unfold Cx at hr
 go_enter Tryz.func213,Tryz.ntmps213
 refine wp_seq_k fun K4 h4=>Ae<|sV (Ac rfl) ?_
 refine Ad<|h4 _ _<|wp_seq_k fun K5 h5=>Ae<|sV (Ac rfl) ?_
 refine Ad<|h5 _ _<|wp_seq_k fun K6 h6=>?_
 obtain ⟨m8a,h5c,f3b⟩:=Ab hr
 refine BZ (fun l l' w'=>∃(t3a:Nat→Value),w=w'∧l'=((((((((((((((l.set 3 (.int .i64 m8a)).set 4 (t3a 0)).set 5 (.slice A1 x0.length c2)).set 6 (.int .i64 (x0.length:Int))).set 7 (t3a 1)).set 8 (t3a 2)).set 9 (t3a 3)).set 10 (t3a 4)).set 11 (t3a 5)).set 12 (t3a 6)).set 13 (t3a 7)).set 14 (t3a 8)).set 15 (t3a 9)).set 16 (t3a 10))) ?_ ?_
 ·apply wp_block
  refine AR (fun l n4b l' w'=>∃(v4a:Int) (t0a:Nat→Value),w=w'∧CL x0 n4b v4a=some m8a∧l'=((((((((((((((l.set 3 (.int .i64 v4a)).set 4 (t0a 0)).set 5 (t0a 1)).set 6 (t0a 2)).set 7 (t0a 3)).set 8 (t0a 4)).set 9 (t0a 5)).set 10 (t0a 6)).set 11 (t0a 7)).set 12 (t0a 8)).set 13 (t0a 9)).set 14 (t0a 10)).set 15 (t0a 11)).set 16 (t0a 12))) 18446744073709551616 ?_ ?_ ?_
  ·exact ⟨0,(tk [uu,uu,uu,uu,uu,uu,uu,uu,uu,uu,uu,uu,uu]),(by trivial),h5c,(by simp only [S0,S1]<;>rfl)⟩
  ·rintro l' w' ⟨v4a,t0a,_,hz,_⟩
   exact nomatch hz
  ·rintro n4b ih6c l' _ ⟨v4a,t0a,rfl,hr5b,hq'⟩ l'' hl
   rw [hq'] at hl
   clear hq'
   simp only [S0,S1] at hl
   subst hl
   unfold CL at hr5b
   refine Ba<|wp_seq_k fun K6b h6b=>wp_seq_k fun K7b h7b=>Ae<|sV (Aa rfl) ?_
   refine sV (Aa rfl) ?_
   refine sV (Ax Aq rfl) ?_
   refine sb (CK rfl rfl) fun z5a hz5a=>?_
   refine nrm ?_
   refine sV (Aa rfl) ?_
   obtain ⟨m9a,h8b,f9b⟩:=Ab hr5b
   refine BB 11 (fun l l' w'=>∃(t1a:Nat→Value),w=w'∧l'=((((((l.set 9 (t1a 0)).set 10 (t1a 1)).set 11 (t1a 2)).set 12 (t1a 3)).set 13 (t1a 4)).set 14 (.bool m9a))) ?_ ?_
   ·intro HJ299
    rcases bft z5a with e2a | e2a
    ·have p7c:=zP hz5a e2a
     have f8c:=ifP p7c h8b
     refine sV (Aa rfl) ?_ (hw:=wgT rfl e2a)
     refine sV (Aa rfl) ?_ (hw:=wgT rfl e2a)
     obtain ⟨u1b,h9c,f0d⟩:=Ab f8c
     obtain ⟨bb308,oo309,hA1d,ia2d,ib3d,hc311⟩:=RL.nth n3 h9c
     refine sV (Ar Aq An rfl rfl hA1d ia2d ib3d) ?_ (hw:=wgT rfl e2a)
     refine sV (Ag AN rfl hc311) ?_ (hw:=wgT rfl e2a)
     refine sb (BE rfl rfl) ?_ (hw:=wgT rfl e2a)
     intro z2b hz2b
     refine nrm ?_
     refine sV (Aw (evb rfl e2a) rfl) ?_
     obtain rfl:z2b=decide (u1b=0):=bz hz2b
     obtain rfl:=sj f0d
     exact HJ299 _ _ ⟨(tk [.slice A1 x0.length c2,.int .i64 v4a,.pointer (some ⟨bb308,oo309+(v4a:Int).toNat,none⟩),.int .u32 u1b,.bool (decide (u1b=0))]),(by trivial),(by simp only [S0,S1]<;>rfl)⟩
    ·have p4d:=zN hz5a e2a
     have f5d:=ifN p4d h8b
     refine sP ?_ (hw:=wgF rfl e2a)
     refine sP ?_ (hw:=wgF rfl e2a)
     refine sP ?_ (hw:=wgF rfl e2a)
     refine sP ?_ (hw:=wgF rfl e2a)
     refine sP ?_ (hw:=wgF rfl e2a)
     refine sV (AB (evb rfl e2a) rfl) ?_
     obtain rfl:=sj f5d
     exact HJ299 _ _ ⟨(tk [uu,uu,uu,uu,uu]),(by trivial),(by simp only [S0,S1]<;>rfl)⟩
   ·rintro l' _ ⟨t1a,rfl,hq'⟩ l'' hl
    rw [hq'] at hl
    clear hq'
    simp only [S0,S1] at hl
    subst hl
    refine Ad<|h7b _ _ ?_
    rcases bft m9a with e6a | e6a
    ·have p6d:=e6a
     have f7d:=ifP p6d f9b
     refine wp_cond_true (Ai (evb rfl e6a))<|wp_skip<|h6b _ _ ?_
     apply wp_block
     refine Ae<|sV (Aa rfl) ?_
     refine sV (AO (c:=wi64 (v4a+1)) rfl rfl rfl) ?_
     refine sV (Ac rfl) ?_
     refine Ad ?_
     exact ih6c _ _ ⟨(wi64 (v4a+1)),(tk [.int .i64 v4a,.slice A1 x0.length c2,.int .i64 (x0.length:Int),.bool z5a,.bool z5a,t1a 0,t1a 1,t1a 2,t1a 3,t1a 4,.bool m9a,.int .i64 v4a,.int .i64 (wi64 (v4a+1))]),(by trivial),f7d,(by simp only [S0,S1]<;>rfl)⟩
    ·have p8d:=bF e6a
     have f9d:=ifN p8d f9b
     refine wp_cond_false (Ai (evb rfl e6a))<|wp_exit ?_
     simp only [Exit.then,Exit.inBlock,↓reduceIte,Nat.reduceEqDiff]
     obtain rfl:=sj f9d
     exact ⟨_,rfl,(tk [.int .i64 v4a,.bool z5a,.bool z5a,t1a 0,t1a 1,t1a 2,t1a 3,t1a 4,.bool m9a,t0a 11,t0a 12]),(by trivial),(by simp only [S0,S1]<;>rfl)⟩
 ·rintro l' _ ⟨t3a,rfl,hq'⟩ l'' hl
  rw [hq'] at hl
  clear hq'
  simp only [S0,S1] at hl
  subst hl
  refine h6 _ _<|wp_seq_k fun K0c h0c=>wp_seq_k fun K1c h1c=>Ae<|sV (Aa rfl) ?_
  refine sV (Aa rfl) ?_
  refine sV (Ax Aq rfl) ?_
  refine sb (BE rfl rfl) fun z0b hz0b=>?_
  refine nrm ?_
  refine Ad<|h1c _ _ ?_
  rcases bft z0b with e7a | e7a
  ·have p0e:=zP hz0b e7a
   have f1e:=ifP p0e f3b
   refine wp_cond_true (Ai (evb rfl e7a))<|wp_seq_k fun K2c h2c=>Ae<|sV (Ac rfl) ?_
   refine Ad<|h2c _ _<|wp_ret ?_
   obtain rfl:=sj f1e
   exact fin rfl (Res.tmp rfl Res.nil) (Ak (Ext.refl _) rfl)
  ·have p2e:=zN hz0b e7a
   have f3e:=ifN p2e f3b
   refine wp_cond_false (Ai (evb rfl e7a))<|wp_skip<|h0c _ _<|wp_seq_k fun K3c h3c=>Ae<|sV (Aa rfl) ?_
   refine sV (HZ (c:=wi64 (32*m8a)) rfl rfl rfl) ?_
   refine sV (Aa rfl) ?_
   refine sV (Aa rfl) ?_
   obtain ⟨u4e,h5e,f6e⟩:=Ab f3e
   obtain ⟨bb344,oo345,hA7e,ia8e,ib9e,hc347⟩:=RL.nth n3 h5e
   refine sV (Ar Aq An rfl rfl hA7e ia8e ib9e) ?_
   refine sV (Ag AN rfl hc347) ?_
   obtain ⟨r4c,h0f,f1f⟩:=Ab f6e
   refine sc (Af en_245 (by rfl)) (c_math_bits_TrailingZeros32 u4e w hT  r4c h0f) ?_
   rintro _ w1 E2f rfl
   refine nrm ?_
   refine sV (AO (c:=wi64 ((wi64 (32*m8a))+r4c)) rfl rfl rfl) ?_
   refine sV (Ac rfl) ?_
   refine Ad<|h3c _ _<|wp_ret ?_
   obtain rfl:=sj f1f
   exact fin rfl (Res.tmp rfl Res.nil) (Ak E2f rfl)
theorem FB (x0:List Int) (x1:List Int) (A1:Option Addr) (c2:Nat) (A4:Option Addr) (c5:Nat) (w:World) (hT:TB w) (n3:RLu w A1 c2 x0) (n6:RLu w A4 c5 x1) (r:Int) (hr:Ck x0 x1=some r) :
  Calls Tryz.prog 205 #[.slice A1 x0.length c2,.slice A4 x1.length c5] w (Ret FQ w r):=by
 unfold Ck at hr
 go_enter Tryz.func205,Tryz.ntmps205
 refine wp_seq_k fun K7 h7=>Ae<|sV (Ac rfl) ?_
 refine Ad<|h7 _ _<|wp_seq_k fun K8 h8=>wp_seq_k fun K9 h9=>Ae<|sV (Aa rfl) ?_
 refine sV (Ax Aq rfl) ?_
 refine sV (Aa rfl) ?_
 refine sV (Ax Aq rfl) ?_
 refine sb (Ik rfl rfl) fun z8a hz8a=>?_
 refine nrm ?_
 refine Ad<|h9 _ _ ?_
 rcases bft z8a with e2a | e2a
 ·have p2d:=zP hz8a e2a
  have f3d:=ifP p2d hr
  refine wp_cond_true (Ai (evb rfl e2a))<|wp_seq_k fun K4b h4b=>Ae<|sV (Aa rfl) ?_
  refine sV (Ax Aq rfl) ?_
  refine sV (Aa rfl) ?_
  refine sV (Ax Aq rfl) ?_
  refine sV (AV (c:=wi64 ((x0.length:Int) - (x1.length:Int))) rfl rfl rfl) ?_
  refine sV (Ac rfl) ?_
  refine Ad<|h4b _ _<|wp_ret ?_
  obtain rfl:=sj f3d
  exact fin rfl (Res.tmp rfl Res.nil) (Ak (Ext.refl _) rfl)
 ·have p4d:=zN hz8a e2a
  have f5d:=ifN p4d hr
  refine wp_cond_false (Ai (evb rfl e2a))<|wp_skip<|h8 _ _<|wp_seq_k fun K5b h5b=>wp_seq_k fun K6b h6b=>Ae<|sV (Aa rfl) ?_
  refine sV (Ax Aq rfl) ?_
  refine sV (AV (c:=wi64 ((x0.length:Int) - 1)) rfl rfl rfl) ?_
  refine sV (Ac rfl) ?_
  refine Ad<|h6b _ _ ?_
  apply wp_block
  refine AR (fun l n7b l' w'=>∃(v1a:Int) (t0a:Nat→Value),Ext w w'∧Ea x0 x1 n7b v1a=some r∧l'=((((((((((((((l.set 5 (.int .i64 v1a)).set 19 (t0a 0)).set 20 (t0a 1)).set 21 (t0a 2)).set 22 (t0a 3)).set 23 (t0a 4)).set 24 (t0a 5)).set 25 (t0a 6)).set 26 (t0a 7)).set 27 (t0a 8)).set 28 (t0a 9)).set 29 (t0a 10)).set 30 (t0a 11)).set 31 (t0a 12))) 18446744073709551616 ?_ ?_ ?_
  ·exact ⟨(wi64 ((x0.length:Int) - 1)),(tk [uu,uu,uu,uu,uu,uu,uu,uu,uu,uu,uu,uu,uu]),(Ext.refl _),f5d,(by simp only [S0,S1]<;>rfl)⟩
  ·rintro l' w' ⟨v1a,t0a,_,hz,_⟩
   exact nomatch hz
  ·rintro n7b ih6d l' w1 ⟨v1a,t0a,U1b,hr2b,hq'⟩ l'' hl
   rw [hq'] at hl
   clear hq'
   simp only [S0,S1] at hl
   subst hl
   unfold Ea at hr2b
   refine Ba<|wp_seq_k fun K8b h8b=>wp_seq_k fun K9b h9b=>Ae<|sV (Aa rfl) ?_
   refine sb (Fl rfl rfl) fun z3a hz3a=>?_
   refine nrm ?_
   refine Ad<|h9b _ _ ?_
   rcases bft z3a with e4a | e4a
   ·have p7d:=zP hz3a e4a
    have f8d:=ifP p7d hr2b
    refine wp_cond_true (Ai (evb rfl e4a))<|wp_skip<|h8b _ _<|wp_seq_k fun K0c h0c=>?_
    apply wp_block
    refine wp_seq_k fun K1c h1c=>EE [] 9 mo rfl fun w2 E2c S3c=>have X3b:=xtr U1b E2c;dA 0 rfl (fun _=>Aa rfl) ?_
    refine dA 1 rfl (fun _=>Aa rfl) ?_
    obtain ⟨u9d,h0e,f1e⟩:=Ab f8d
    obtain ⟨bb294,oo295,hA2e,ia3e,ib4e,hc297⟩:=RL.nth (n3.ext X3b) h0e
    refine dA 2 rfl (fun _=>Ar Aq An rfl rfl hA2e ia3e ib4e) ?_
    refine dV 3 rfl (fun _ hw=>Ag AN rfl (Cv hc297 hw)) S3c ?_
    refine dA 4 rfl (fun _=>Aa rfl) ?_
    refine dA 5 rfl (fun _=>Aa rfl) ?_
    obtain ⟨u5e,h6e,f4c⟩:=Ab f1e
    obtain ⟨bb303,oo304,hA7e,ia8e,ib9e,hc306⟩:=RL.nth (n6.ext X3b) h6e
    refine dA 6 rfl (fun _=>Ar Aq An rfl rfl hA7e ia8e ib9e) ?_
    refine dV 7 rfl (fun _ hw=>Ag AN rfl (Cv hc306 hw)) S3c ?_
    refine dab 8 rfl (by kernel_rfl) (fun _ _ _ h=>h) (by rfl) (fun _=>Ik rfl rfl) fun z5a hz5a=>?_
    refine dnrm ?_
    refine Dm (by kernel_rfl) ?_
    refine h1c _ _ ?_
    rcases bft z5a with e6a | e6a
    ·have p0f:=zP hz5a e6a
     have f1f:=ifP p0f f4c
     refine wp_cond_true (Ai (evb rfl e6a))<|wp_seq_k fun K5c h5c=>wp_seq_k fun K6c h6c=>EE [] 9 mo rfl fun w3 E2f S7c=>have X9a:=xtr X3b E2f;dA 0 rfl (fun _=>Aa rfl) ?_
     refine dA 1 rfl (fun _=>Aa rfl) ?_
     obtain ⟨u0h,h3f,f4f⟩:=Ab f1f
     obtain ⟨bb364,oo365,hA5f,ia6f,ib7f,hc367⟩:=RL.nth (n3.ext X9a) h3f
     refine dA 2 rfl (fun _=>Ar Aq An rfl rfl hA5f ia6f ib7f) ?_
     refine dV 3 rfl (fun _ hw=>Ag AN rfl (Cv hc367 hw)) S7c ?_
     refine dA 4 rfl (fun _=>Aa rfl) ?_
     refine dA 5 rfl (fun _=>Aa rfl) ?_
     obtain ⟨u1h,h8f,f8c⟩:=Ab f4f
     obtain ⟨bb373,oo374,hA9f,ia0g,ib1g,hc376⟩:=RL.nth (n6.ext X9a) h8f
     refine dA 6 rfl (fun _=>Ar Aq An rfl rfl hA9f ia0g ib1g) ?_
     refine dV 7 rfl (fun _ hw=>Ag AN rfl (Cv hc376 hw)) S7c ?_
     refine dab 8 rfl (by kernel_rfl) (fun _ _ _ h=>h) (by rfl) (fun _=>CK rfl rfl) fun z0b hz0b=>?_
     refine dnrm ?_
     refine Dm (by kernel_rfl) ?_
     refine h6c _ _ ?_
     rcases bft z0b with e7a | e7a
     ·have p2g:=zP hz0b e7a
      have f3g:=ifP p2g f8c
      refine wp_cond_true (Ai (evb rfl e7a))<|wp_seq_k fun K9c h9c=>Ae<|sV (Ac rfl) ?_
      refine Ad<|h9c _ _<|wp_ret ?_
      obtain rfl:=sj f3g
      exact fin rfl (Res.tmp rfl Res.nil) (Ak X9a rfl)
     ·have p4g:=zN hz0b e7a
      have f5g:=ifN p4g f8c
      refine wp_cond_false (Ai (evb rfl e7a))<|wp_skip<|h5c _ _<|wp_seq_k fun K0d h0d=>Ae<|sV (Ac rfl) ?_
      refine Ad<|h0d _ _<|wp_ret ?_
      obtain rfl:=sj f5g
      exact fin rfl (Res.tmp rfl Res.nil) (Ak X9a rfl)
    ·have p6g:=zN hz5a e6a
     have f7g:=ifN p6g f4c
     refine wp_cond_false (Ai (evb rfl e6a))<|wp_skip<|h0c _ _<|Ae<|sV (Aa rfl) ?_
     refine sV (AV (c:=wi64 (v1a - 1)) rfl rfl rfl) ?_
     refine sV (Ac rfl) ?_
     refine Ad ?_
     exact ih6d _ _ ⟨(wi64 (v1a - 1)),(tk [.int .i64 v1a,.bool z3a,.int .i64 v1a,.int .i64 (wi64 (v1a - 1)),.slice A1 x0.length c2,.int .i64 v1a,.pointer (some ⟨bb294,oo295+(v1a:Int).toNat,none⟩),.int .u32 u9d,.slice A4 x1.length c5,.int .i64 v1a,.pointer (some ⟨bb303,oo304+(v1a:Int).toNat,none⟩),.int .u32 u5e,.bool z5a]),(U1b.trans E2c),f7g,(by simp only [S0,S1]<;>rfl)⟩
   ·have p8g:=zN hz3a e4a
    have f9g:=ifN p8g hr2b
    refine wp_cond_false (Ai (evb rfl e4a))<|wp_exit ?_
    simp only [Exit.then,Exit.inBlock,↓reduceIte,Nat.reduceEqDiff]
    refine h5b _ _<|wp_seq_k fun K1d h1d=>Ae<|sV (Ac rfl) ?_
    refine Ad<|h1d _ _<|wp_ret ?_
    obtain rfl:=sj f9g
    exact fin rfl (Res.tmp rfl Res.nil) (Ak U1b rfl)
theorem Gl (x0:List Int) (x1:List Int) (A1:Option Addr) (c2:Nat) (A4:Option Addr) (c5:Nat) (w:World) (hT:TB w) (n3:RLu w A1 c2 x0) (n6:RLu w A4 c5 x1) (r:List Int) (hr:Cw x0 x1=some r) :
  Calls Tryz.prog 207 #[.slice A1 x0.length c2,.slice A4 x1.length c5] w (Ret HX w r):=by
 unfold Cw at hr
 go_enter Tryz.func207,Tryz.ntmps207
 refine wp_seq_k fun K7 h7=>Ae<|sV (Ac rfl) ?_
 refine Ad<|h7 _ _<|wp_seq_k fun K8 h8=>wp_seq_k fun K9 h9=>Ae<|sV (Aa rfl) ?_
 refine sV (Ax Aq rfl) ?_
 refine sV (Aa rfl) ?_
 refine sV (Ax Aq rfl) ?_
 refine sb (CK rfl rfl) fun z5b hz5b=>?_
 refine nrm ?_
 refine Ad<|h9 _ _ ?_
 obtain ⟨m2a,h9c,f5f⟩:=Ab hr
 refine BZ (fun l l' w'=>∃(A9a:Option Addr) (c0b:Nat) (A2b:Option Addr) (c3b:Nat) (t4b:Nat→Value),w=w'∧RLu w' A9a c0b m2a.1∧RLu w' A2b c3b m2a.2∧l'=((((l.set 0 (.slice A9a m2a.1.length c0b)).set 1 (.slice A2b m2a.2.length c3b)).set 14 (t4b 0)).set 15 (t4b 1))) ?_ ?_
 ·rcases bft z5b with e9b | e9b
  ·have p6f:=zP hz5b e9b
   have f7f:=ifP p6f h9c
   refine wp_cond_true (Ai (evb rfl e9b))<|Ae<|sV (Aa rfl) ?_
   refine sV (Aa rfl) ?_
   refine sV (Ac rfl) ?_
   refine sV (Ac rfl) ?_
   refine Ad ?_
   obtain rfl:=sj f7f
   exact ⟨_,rfl,A4,c5,A1,c2,(tk [.slice A4 x1.length c5,.slice A1 x0.length c2]),(by trivial),n6,n3,(by simp only [S0,S1]<;>rfl)⟩
  ·have p8f:=zN hz5b e9b
   have f9f:=ifN p8f h9c
   refine wp_cond_false (Ai (evb rfl e9b))<|wp_skip ?_
   obtain rfl:=sj f9f
   exact ⟨_,rfl,A1,c2,A4,c5,(tk [uu,uu]),(by trivial),n3,n6,(by simp only [S0,S1]<;>rfl)⟩
 ·rintro l' _ ⟨A9a,c0b,A2b,c3b,t4b,rfl,n0g,n1g,hq'⟩ l'' hl
  rw [hq'] at hl
  clear hq'
  simp only [S0,S1] at hl
  subst hl
  refine h8 _ _<|wp_seq_k fun K0d h0d=>Ae<|sV (Aa rfl) ?_
  refine sV (Ax Aq rfl) ?_
  refine sV (AO (c:=wi64 ((m2a.1.length:Int)+1)) rfl rfl rfl) ?_
  obtain ⟨_,h2g,f3g⟩:=Ab f5f
  have gd35:=Ay h2g
  refine Gx Aq CO rfl rfl gd35 fun A5c w1 E4g ow1d=>?_
  refine nrm ?_
  refine sV (Ac rfl) ?_
  refine Ad<|h0d _ _<|wp_seq_k fun K2d h2d=>Ae<|sV (Ac rfl) ?_
  refine Ad<|h2d _ _<|wp_seq_k fun K3d h3d=>wp_seq_k fun K4d h4d=>Ae<|sV (Aa rfl) ?_
  refine sV (Ax Aq rfl) ?_
  refine sV (Aa rfl) ?_
  refine Ad<|h4d _ _ ?_
  obtain ⟨m6a,h5g,f6g⟩:=Ab f3g
  refine BZ (fun l l' w'=>∃(A6c:Option Addr) (c7c:Nat) (t1a:Nat→Value),Ext w w'∧OW 179 w.heap.size w' A6c m6a.2.length c7c m6a.2∧l'=[.slice A9a m2a.1.length c0b,.slice A2b m2a.2.length c3b,uu,uu,.slice none 0 0,.slice A6c m6a.2.length c7c,.int .u64 m6a.1,t1a 0,t1a 1,.slice A1 x0.length c2,.int .i64 (x0.length:Int),.slice A4 x1.length c5,.int .i64 (x1.length:Int),.bool z5b,t4b 0,t4b 1,.slice A9a m2a.1.length c0b,.int .i64 (m2a.1.length:Int),.int .i64 (wi64 ((m2a.1.length:Int)+1)),t1a 2,.slice A9a m2a.1.length c0b,.int .i64 (m2a.1.length:Int),t1a 3,t1a 4,t1a 5,t1a 6,t1a 7,t1a 8,t1a 9,t1a 10,t1a 11,t1a 12,t1a 13,t1a 14,t1a 15,t1a 16,t1a 17,t1a 18,t1a 19,t1a 20,t1a 21,t1a 22,t1a 23,t1a 24,t1a 25,t1a 26,t1a 27,t1a 28,t1a 29,t1a 30,uu,uu,uu,uu,uu,uu]) ?_ ?_
  ·apply wp_block
   refine AR (fun l n5d l' w'=>∃(v7a:Int) (v4a:Int) (v1b:List Int) (A6b:Option Addr) (c7b:Nat) (t0a:Nat→Value),Ext w w'∧OW 179 w.heap.size w' A6b v1b.length c7b v1b∧Da x0 x1 m2a n5d v7a v4a v1b=some m6a∧l'=[.slice A9a m2a.1.length c0b,.slice A2b m2a.2.length c3b,uu,uu,.slice none 0 0,.slice A6b v1b.length c7b,.int .u64 v7a,t0a 0,t0a 1,.slice A1 x0.length c2,.int .i64 (x0.length:Int),.slice A4 x1.length c5,.int .i64 (x1.length:Int),.bool z5b,t4b 0,t4b 1,.slice A9a m2a.1.length c0b,.int .i64 (m2a.1.length:Int),.int .i64 (wi64 ((m2a.1.length:Int)+1)),.slice A5c ((0:Int).toNat) (((wi64 ((m2a.1.length:Int)+1)):Int).toNat),.slice A9a m2a.1.length c0b,.int .i64 (m2a.1.length:Int),.int .i64 v4a,t0a 2,t0a 3,t0a 4,t0a 5,t0a 6,t0a 7,t0a 8,t0a 9,t0a 10,t0a 11,t0a 12,t0a 13,t0a 14,t0a 15,t0a 16,t0a 17,t0a 18,t0a 19,t0a 20,t0a 21,t0a 22,t0a 23,t0a 24,t0a 25,t0a 26,t0a 27,t0a 28,uu,uu,uu,uu,uu,uu]) 18446744073709551616 ?_ ?_ ?_
   ·exact ⟨0,0,(List.replicate (0:Int).toNat (0:Int)),A5c,(((wi64 ((m2a.1.length:Int)+1)):Int).toNat),(tk [uu,uu,uu,uu,uu,uu,uu,uu,uu,uu,uu,uu,uu,uu,uu,uu,uu,uu,uu,uu,uu,uu,uu,uu,uu,uu,uu,uu,uu]),E4g,(OW.nn ow1d),h5g,(by simp only [OW.len ow1d]<;>rfl)⟩
   ·rintro l' w' ⟨v7a,v4a,v1b,A6b,c7b,t0a,_,_,hz,_⟩
    exact nomatch hz
   ·rintro n5d ih7g _ w2 ⟨v7a,v4a,v1b,A6b,c7b,t0a,X4c,ow6d,hr8c,rfl⟩ _ rfl
    unfold Da at hr8c
    refine Ba<|wp_seq_k fun K7d h7d=>Ae<|sb (CK rfl rfl) fun z8b hz8b=>?_
    refine nrm ?_
    refine Ad<|h7d _ _<|wp_seq_k fun K8d h8d=>?_
    rcases bft z8b with e0c | e0c
    ·have p8g:=zP hz8b e0c
     have f9g:=ifP p8g hr8c
     refine wp_cond_true (Ai (evb rfl e0c))<|wp_skip<|h8d _ _<|wp_seq_k fun K9d h9d=>?_
     apply wp_block
     refine wp_seq_k fun K0e h0e=>Ae<|sV (Aa rfl) ?_
     obtain ⟨u8a,h0h,f1h⟩:=Ab f9g
     obtain ⟨bb499,oo500,hA2h,ia3h,ib4h,hc502⟩:=RL.nth (n0g.ext X4c) h0h
     refine sV (Ar Aq An rfl rfl hA2h ia3h ib4h) ?_
     refine sV (Ag AN rfl hc502) ?_
     refine sV (Ac rfl) ?_
     refine sV (Ac rfl) ?_
     refine Ad<|h0e _ _<|wp_seq_k fun K1e h1e=>Ae<|sV (Aa rfl) ?_
     refine sV (Aa rfl) ?_
     refine sV (AG (c:=wu64 u8a) AH AF rfl rfl) ?_
     refine sV (AO (c:=wu64 (v7a+(wu64 u8a))) rfl rfl rfl) ?_
     refine sV (Ac rfl) ?_
     refine Ad<|h1e _ _<|wp_seq_k fun K2e h2e=>wp_seq_k fun K3e h3e=>Ae<|sV (Aa rfl) ?_
     refine sV (Aa rfl) ?_
     refine sV (Ax Aq rfl) ?_
     refine sb (CK rfl rfl) fun z1c hz1c=>?_
     refine nrm ?_
     refine Ad<|h3e _ _ ?_
     obtain ⟨m5a,h4e,f5h⟩:=Ab f1h
     refine BZ (fun l l' w'=>∃(t3a:Nat→Value),w2=w'∧l'=((((((((l.set 6 (.int .u64 m5a)).set 35 (t3a 0)).set 36 (t3a 1)).set 37 (t3a 2)).set 38 (t3a 3)).set 39 (t3a 4)).set 40 (t3a 5)).set 41 (t3a 6))) ?_ ?_
     ·rcases bft z1c with e2c | e2c
      ·have p6h:=zP hz1c e2c
       have f7h:=ifP p6h h4e
       refine wp_cond_true (Ai (evb rfl e2c))<|Ae<|sV (Aa rfl) ?_
       refine sV (Aa rfl) ?_
       refine sV (Aa rfl) ?_
       obtain ⟨u3c,h8h,f9h⟩:=Ab f7h
       obtain ⟨bb538,oo539,hA0i,ia1i,ib2i,hc541⟩:=RL.nth (n1g.ext X4c) h8h
       refine sV (Ar Aq An rfl rfl hA0i ia1i ib2i) ?_
       refine sV (Ag AN rfl hc541) ?_
       refine sV (AG (c:=wu64 u3c) AH AF rfl rfl) ?_
       refine sV (AO (c:=wu64 ((wu64 (v7a+(wu64 u8a)))+(wu64 u3c))) rfl rfl rfl) ?_
       refine sV (Ac rfl) ?_
       refine Ad ?_
       obtain rfl:=sj f9h
       exact ⟨_,rfl,(tk [.int .u64 (wu64 (v7a+(wu64 u8a))),.slice A2b m2a.2.length c3b,.int .i64 v4a,.pointer (some ⟨bb538,oo539+(v4a:Int).toNat,none⟩),.int .u32 u3c,.int .u64 (wu64 u3c),.int .u64 (wu64 ((wu64 (v7a+(wu64 u8a)))+(wu64 u3c)))]),(by trivial),(by simp only [S0,S1]<;>rfl)⟩
      ·have p3i:=zN hz1c e2c
       have f4i:=ifN p3i h4e
       refine wp_cond_false (Ai (evb rfl e2c))<|wp_skip ?_
       obtain rfl:=sj f4i
       exact ⟨_,rfl,(tk [t0a 14,t0a 15,t0a 16,t0a 17,t0a 18,t0a 19,t0a 20]),(by trivial),(by simp only [S0,S1]<;>rfl)⟩
     ·rintro l' _ ⟨t3a,rfl,hq'⟩ l'' hl
      rw [hq'] at hl
      clear hq'
      simp only [S0,S1] at hl
      subst hl
      refine h2e _ _<|wp_seq_k fun K5e h5e=>Ae<|sV (Aa rfl) ?_
      refine sV (Aa rfl) ?_
      refine sV (AG (c:=wu32 m5a) AF AH rfl rfl) ?_
      refine DI (vals:=[(0,.int .u32 (wu32 m5a))]) (cs:=[.int .u32 (wu32 m5a)]) Aq An FK (by rfl) (by decide) (by kernel_rfl) fun b6e w3 E7e g1l q5i=>?_
      refine nrm ?_
      have X8e:=xtr X4c E7e
      have n6i:RLu w3 (some ⟨b6e,0,none⟩) 1 [(wu32 m5a)]:=(OW.lit (n0:=0) (n:=1) (xs:=[(wu32 m5a)]) q5i (Nat.zero_le _) rfl (by decide)).rl
      obtain ⟨_,h7i,f8i⟩:=Ab f5h
      have gd554:=Ay h7i
      refine HN Aq CO rfl rfl rfl (ow6d.ext E7e) n6i gd554 X8e.size fun A9e c0f w4 B557 ow9i=>?_
      refine nrm ?_
      have X0j:=xO X8e B557 (Nat.le_refl _)
      refine sV (Ac rfl) ?_
      refine Ad<|h5e _ _<|Ae<|sV (Aa rfl) ?_
      refine sV (Gu (c:=m5a.fdiv (2^min (32:Int).toNat IntKind.u64.bits)) (by decide) rfl rfl rfl) ?_
      refine sV (Ac rfl) ?_
      refine Ad<|h9d _ _<|Ae<|sV (AO (c:=wi64 (v4a+1)) rfl rfl rfl) ?_
      refine sV (Aa rfl) ?_
      refine Ad ?_
      exact ih7g _ _ ⟨(m5a.fdiv (2^min (32:Int).toNat IntKind.u64.bits)),(wi64 (v4a+1)),(v1b++([(wu32 m5a)]:List Int)),A9e,c0f,(tk [.int .i64 v4a,.int .u32 u8a,.bool z8b,.int .i64 v4a,.pointer (some ⟨bb499,oo500+(v4a:Int).toNat,none⟩),.int .u32 u8a,.int .u64 v7a,.int .u32 u8a,.int .u64 (wu64 u8a),.int .u64 (wu64 (v7a+(wu64 u8a))),.int .i64 v4a,.slice A2b m2a.2.length c3b,.int .i64 (m2a.2.length:Int),.bool z1c,t3a 0,t3a 1,t3a 2,t3a 3,t3a 4,t3a 5,t3a 6,.slice A6b v1b.length c7b,.int .u64 m5a,.int .u32 (wu32 m5a),.slice (some ⟨b6e,0,none⟩) 1 1,.slice A9e (List.length (v1b++([(wu32 m5a)]:List Int))) c0f,.int .u64 m5a,.int .u64 (m5a.fdiv (2^min (32:Int).toNat IntKind.u64.bits)),.int .i64 (wi64 (v4a+1))]),X0j,(OW.nn ow9i),f8i,rfl⟩
    ·have p1j:=zN hz8b e0c
     have f2j:=ifN p1j hr8c
     refine wp_cond_false (Ai (evb rfl e0c))<|wp_exit ?_
     simp only [Exit.then,Exit.inBlock,↓reduceIte,Nat.reduceEqDiff]
     obtain rfl:=sj f2j
     exact ⟨_,rfl,A6b,c7b,(tk [t0a 0,t0a 1,.slice A5c ((0:Int).toNat) (((wi64 ((m2a.1.length:Int)+1)):Int).toNat),.int .i64 v4a,.bool z8b,t0a 3,t0a 4,t0a 5,t0a 6,t0a 7,t0a 8,t0a 9,t0a 10,t0a 11,t0a 12,t0a 13,t0a 14,t0a 15,t0a 16,t0a 17,t0a 18,t0a 19,t0a 20,t0a 21,t0a 22,t0a 23,t0a 24,t0a 25,t0a 26,t0a 27,t0a 28]),X4c,(OW.nn ow6d),rfl⟩
  ·rintro _ w2 ⟨A6c,c7c,t1a,X3j,ow4j,rfl⟩ _ rfl
   refine h3d _ _<|wp_seq_k fun K1f h1f=>Ae<|sV (Aa rfl) ?_
   refine sV (Aa rfl) ?_
   refine sV (AG (c:=wu32 m6a.1) AF AH rfl rfl) ?_
   refine DI (vals:=[(0,.int .u32 (wu32 m6a.1))]) (cs:=[.int .u32 (wu32 m6a.1)]) Aq An FK (by rfl) (by decide) (by kernel_rfl) fun b5j w3 E2f g2l q6j=>?_
   refine nrm ?_
   have X3f:=xtr X3j E2f
   have n7j:RLu w3 (some ⟨b5j,0,none⟩) 1 [(wu32 m6a.1)]:=(OW.lit (n0:=0) (n:=1) (xs:=[(wu32 m6a.1)]) q6j (Nat.zero_le _) rfl (by decide)).rl
   obtain ⟨_,h8j,f9j⟩:=Ab f6g
   have gd569:=Ay h8j
   refine HN Aq CO rfl rfl rfl (ow4j.ext E2f) n7j gd569 X3f.size fun A0k c1k w4 B572 ow2k=>?_
   refine nrm ?_
   have X4f:=xO X3f B572 (Nat.le_refl _)
   obtain ⟨r3k,h4k,f5k⟩:=Ab f9j
   refine sc (Af IG (by rfl)) (Dp (m6a.2++([(wu32 m6a.1)]:List Int)) A0k c1k w4 (tbx X4f hT) (OW.rl ow2k) r3k h4k) ?_
   rintro _ w5 E6k ⟨A7k,c8k,rfl,n9k⟩
   refine nrm ?_
   have X0l:=xtr X4f E6k
   refine sV (Ac rfl) ?_
   refine Ad<|h1f _ _<|wp_ret ?_
   obtain rfl:=sj f5k
   exact fin rfl (Res.tmp rfl Res.nil) (Ak X0l ⟨A7k,c8k,rfl,n9k⟩)
theorem Fx (x0:List Int) (x1:List Int) (A1:Option Addr) (c2:Nat) (A4:Option Addr) (c5:Nat) (w:World) (hT:TB w) (n3:RLu w A1 c2 x0) (n6:RLu w A4 c5 x1) (r:List Int) (hr:Cm x0 x1=some r) :
  Calls Tryz.prog 191 #[.slice A1 x0.length c2,.slice A4 x1.length c5] w (Ret HX w r):=by
 unfold Cm at hr
 go_enter Tryz.func191,Tryz.ntmps191
 refine wp_seq_k fun K7 h7=>Ae<|sV (Ac rfl) ?_
 refine Ad<|h7 _ _<|wp_seq_k fun K8 h8=>Ae<|sV (Aa rfl) ?_
 obtain ⟨r9,h5e,f6e⟩:=Ab hr
 refine sc (Af Mv (by rfl)) (Gv x0 A1 c2 w hT n3 r9 h5e) ?_
 rintro _ w1 E7e ⟨A4a,c5a,rfl,n8e⟩
 refine nrm ?_
 refine sV (Ac rfl) ?_
 refine Ad<|h8 _ _<|wp_seq_k fun K1c h1c=>Ae<|sV (Ac rfl) ?_
 refine Ad<|h1c _ _<|wp_seq_k fun K2c h2c=>wp_seq_k fun K3c h3c=>Ae<|sV (Aa rfl) ?_
 refine sV (Ax Aq rfl) ?_
 refine sV (Aa rfl) ?_
 refine Ad<|h3c _ _ ?_
 obtain ⟨m8b,h9e,f0f⟩:=Ab f6e
 refine BZ (fun l l' w'=>∃(t1a:Nat→Value),Ext w w'∧OW 179 w.heap.size w' A4a r9.length c5a m8b∧l'=[.slice A1 x0.length c2,.slice A4 x1.length c5,uu,uu,.slice none 0 0,.slice A4a r9.length c5a,t1a 0,t1a 1,t1a 2,t1a 3,.slice A1 x0.length c2,.slice A4a r9.length c5a,.slice A4a r9.length c5a,.int .i64 ((r9.length:Nat):Int),t1a 4,t1a 5,t1a 6,t1a 7,t1a 8,t1a 9,t1a 10,t1a 11,t1a 12,t1a 13,t1a 14,t1a 15,t1a 16,t1a 17,t1a 18,t1a 19,t1a 20,t1a 21,t1a 22,t1a 23,t1a 24,t1a 25,t1a 26,t1a 27,t1a 28,t1a 29,t1a 30,t1a 31,t1a 32,t1a 33,t1a 34,uu,uu]) ?_ ?_
 ·apply wp_block
  refine AR (fun l n4c l' w'=>∃(v7a:Int) (v2a:Int) (v0b:List Int) (t0a:Nat→Value),Ext w w'∧OW 179 w.heap.size w' A4a r9.length c5a v0b∧Dv x0 x1 r9 n4c v7a v2a v0b=some m8b∧l'=[.slice A1 x0.length c2,.slice A4 x1.length c5,uu,uu,.slice none 0 0,.slice A4a r9.length c5a,.int .u64 v7a,t0a 0,t0a 1,t0a 2,.slice A1 x0.length c2,.slice A4a r9.length c5a,.slice A4a r9.length c5a,.int .i64 ((r9.length:Nat):Int),.int .i64 v2a,t0a 3,t0a 4,t0a 5,t0a 6,t0a 7,t0a 8,t0a 9,t0a 10,t0a 11,t0a 12,t0a 13,t0a 14,t0a 15,t0a 16,t0a 17,t0a 18,t0a 19,t0a 20,t0a 21,t0a 22,t0a 23,t0a 24,t0a 25,t0a 26,t0a 27,t0a 28,t0a 29,t0a 30,t0a 31,t0a 32,uu,uu]) 18446744073709551616 ?_ ?_ ?_
  ·exact ⟨0,0,r9,(tk [uu,uu,uu,uu,uu,uu,uu,uu,uu,uu,uu,uu,uu,uu,uu,uu,uu,uu,uu,uu,uu,uu,uu,uu,uu,uu,uu,uu,uu,uu,uu,uu,uu]),E7e,n8e,h9e,rfl⟩
  ·rintro l' w' ⟨v7a,v2a,v0b,t0a,_,_,hz,_⟩
   exact nomatch hz
  ·rintro n4c ih1f _ w2 ⟨v7a,v2a,v0b,t0a,X9b,ow1b,hr0c,rfl⟩ _ rfl
   unfold Dv at hr0c
   refine Ba<|wp_seq_k fun K5c h5c=>Ae<|sb (CK rfl rfl) fun z9a hz9a=>?_
   refine nrm ?_
   refine Ad<|h5c _ _<|wp_seq_k fun K6c h6c=>?_
   rcases bft z9a with e2b | e2b
   ·have p2f:=zP hz9a e2b
    have f3f:=ifP p2f hr0c
    refine wp_cond_true (Ai (evb rfl e2b))<|wp_skip<|h6c _ _<|wp_seq_k fun K7c h7c=>?_
    apply wp_block
    refine wp_seq_k fun K8c h8c=>Ae<|sV (Aa rfl) ?_
    refine sV (Ac rfl) ?_
    refine Ad<|h8c _ _<|wp_seq_k fun K9c h9c=>Ae<|sV (Aa rfl) ?_
    refine sV (Ac rfl) ?_
    refine Ad<|h9c _ _<|wp_seq_k fun K0d h0d=>wp_seq_k fun K1d h1d=>Ae<|sV (Aa rfl) ?_
    refine sV (Aa rfl) ?_
    refine sV (Ax Aq rfl) ?_
    refine sb (CK rfl rfl) fun z3b hz3b=>?_
    refine nrm ?_
    refine Ad<|h1d _ _ ?_
    obtain ⟨m8a,h2d,f4f⟩:=Ab f3f
    refine BZ (fun l l' w'=>∃(t3a:Nat→Value),w2=w'∧l'=((((((((l.set 8 (.int .u64 m8a)).set 22 (t3a 0)).set 23 (t3a 1)).set 24 (t3a 2)).set 25 (t3a 3)).set 26 (t3a 4)).set 27 (t3a 5)).set 28 (t3a 6))) ?_ ?_
    ·rcases bft z3b with e4b | e4b
     ·have p5f:=zP hz3b e4b
      have f6f:=ifP p5f h2d
      refine wp_cond_true (Ai (evb rfl e4b))<|Ae<|sV (Aa rfl) ?_
      refine sV (Aa rfl) ?_
      refine sV (Aa rfl) ?_
      obtain ⟨u5b,h7f,f8f⟩:=Ab f6f
      obtain ⟨bb580,oo581,hA9f,ia0g,ib1g,hc583⟩:=RL.nth (n6.ext X9b) h7f
      refine sV (Ar Aq An rfl rfl hA9f ia0g ib1g) ?_
      refine sV (Ag AN rfl hc583) ?_
      refine sV (AG (c:=wu64 u5b) AH AF rfl rfl) ?_
      refine sV (AO (c:=wu64 (v7a+(wu64 u5b))) rfl rfl rfl) ?_
      refine sV (Ac rfl) ?_
      refine Ad ?_
      obtain rfl:=sj f8f
      exact ⟨_,rfl,(tk [.int .u64 v7a,.slice A4 x1.length c5,.int .i64 v2a,.pointer (some ⟨bb580,oo581+(v2a:Int).toNat,none⟩),.int .u32 u5b,.int .u64 (wu64 u5b),.int .u64 (wu64 (v7a+(wu64 u5b)))]),(by trivial),(by simp only [S0,S1]<;>rfl)⟩
     ·have p2g:=zN hz3b e4b
      have f3g:=ifN p2g h2d
      refine wp_cond_false (Ai (evb rfl e4b))<|wp_skip ?_
      obtain rfl:=sj f3g
      exact ⟨_,rfl,(tk [t0a 10,t0a 11,t0a 12,t0a 13,t0a 14,t0a 15,t0a 16]),(by trivial),(by simp only [S0,S1]<;>rfl)⟩
    ·rintro l' _ ⟨t3a,rfl,hq'⟩ l'' hl
     rw [hq'] at hl
     clear hq'
     simp only [S0,S1] at hl
     subst hl
     refine h0d _ _<|wp_seq_k fun K3d h3d=>Ae<|sV (Aa rfl) ?_
     refine sV (Aa rfl) ?_
     obtain ⟨u6a,h4g,f5g⟩:=Ab f4f
     obtain ⟨bb591,hA6g,hz8i,ia7g,ib8g,hc596⟩:=OW.nthc ow1b h4g
     refine sV (Ar Aq An rfl rfl hA6g ia7g ib8g) ?_
     refine sV (Ag AN rfl hc596) ?_
     refine sV (AG (c:=wu64 u6a) AH AF rfl rfl) ?_
     refine sV (Ac rfl) ?_
     refine Ad<|h3d _ _<|wp_seq_k fun K4d h4d=>Ae<|sV (Aa rfl) ?_
     refine sV (Aa rfl) ?_
     refine sV (Aa rfl) ?_
     refine sV (Aa rfl) ?_
     refine sV (AV (c:=wu64 ((wu64 u6a) - m8a)) rfl rfl rfl) ?_
     refine sV (AG (c:=wu32 (wu64 ((wu64 u6a) - m8a))) AF AH rfl rfl) ?_
     obtain ⟨u9i,h9g,f0h⟩:=Ab f5g
     obtain ⟨bb601,hA5d,hz0j,ia6d,ib7d,hc606⟩:=OW.nthc ow1b h9g
     refine sV (Ar Aq An rfl rfl hA5d ia6d ib7d) ?_
     refine JQ An rfl rfl ow1b hA5d ia6d (by rw [OW.len ow1b];exact ib7d) fun w3 B607 U1j ow1h=>?_
     have X2h:=xO X9b B607 (Nat.le_refl _)
     refine Ad<|h4d _ _<|wp_seq_k fun K8d h8d=>Ae<|sV (Ac rfl) ?_
     refine Ad<|h8d _ _<|wp_seq_k fun K9d h9d=>Ae<|sV (Aa rfl) ?_
     refine sV (Aa rfl) ?_
     refine sb (CK rfl rfl) fun z6b hz6b=>?_
     refine nrm ?_
     refine Ad<|h9d _ _ ?_
     obtain ⟨m0e,h1e,f3h⟩:=Ab f0h
     refine BZ (fun l l' w'=>w3=w'∧l'=(l.set 6 (.int .u64 m0e))) ?_ ?_
     ·rcases bft z6b with e7b | e7b
      ·have p4h:=zP hz6b e7b
       have f5h:=ifP p4h h1e
       refine wp_cond_true (Ai (evb rfl e7b))<|Ae<|sV (Ac rfl) ?_
       refine Ad ?_
       obtain rfl:=sj f5h
       exact ⟨_,rfl,(by trivial),(by simp only [S0,S1]<;>rfl)⟩
      ·have p6h:=zN hz6b e7b
       have f7h:=ifN p6h h1e
       refine wp_cond_false (Ai (evb rfl e7b))<|wp_skip ?_
       obtain rfl:=sj f7h
       exact ⟨_,rfl,(by trivial),(by simp only [S0,S1]<;>rfl)⟩
     ·rintro l' _ ⟨rfl,hq'⟩ l'' hl
      rw [hq'] at hl
      clear hq'
      simp only [S0,S1] at hl
      subst hl
      refine h7c _ _<|Ae<|sV (AO (c:=wi64 (v2a+1)) rfl rfl rfl) ?_
      refine sV (Aa rfl) ?_
      refine Ad ?_
      exact ih1f _ _ ⟨m0e,(wi64 (v2a+1)),(List.set v0b (v2a:Int).toNat (wu32 (wu64 ((wu64 u6a) - m8a)))),(tk [.int .i64 v2a,.int .u64 m8a,.int .u64 (wu64 u6a),.bool z9a,.int .i64 v2a,.int .u64 v7a,.int .i64 v2a,.slice A4 x1.length c5,.int .i64 (x1.length:Int),.bool z3b,t3a 0,t3a 1,t3a 2,t3a 3,t3a 4,t3a 5,t3a 6,.slice A4a r9.length c5a,.int .i64 v2a,.pointer (some ⟨bb591,0+(v2a:Int).toNat,none⟩),.int .u32 u6a,.int .u64 (wu64 u6a),.slice A4a r9.length c5a,.int .i64 v2a,.int .u64 (wu64 u6a),.int .u64 m8a,.int .u64 (wu64 ((wu64 u6a) - m8a)),.int .u32 (wu32 (wu64 ((wu64 u6a) - m8a))),.pointer (some ⟨bb601,0+(v2a:Int).toNat,none⟩),.int .u64 (wu64 u6a),.int .u64 m8a,.bool z6b,.int .i64 (wi64 (v2a+1))]),X2h,ow1h,f3h,rfl⟩
   ·have p8h:=zN hz9a e2b
    have f9h:=ifN p8h hr0c
    refine wp_cond_false (Ai (evb rfl e2b))<|wp_exit ?_
    simp only [Exit.then,Exit.inBlock,↓reduceIte,Nat.reduceEqDiff]
    obtain rfl:=sj f9h
    exact ⟨_,rfl,(tk [.int .u64 v7a,t0a 0,t0a 1,t0a 2,.int .i64 v2a,.bool z9a,t0a 4,t0a 5,t0a 6,t0a 7,t0a 8,t0a 9,t0a 10,t0a 11,t0a 12,t0a 13,t0a 14,t0a 15,t0a 16,t0a 17,t0a 18,t0a 19,t0a 20,t0a 21,t0a 22,t0a 23,t0a 24,t0a 25,t0a 26,t0a 27,t0a 28,t0a 29,t0a 30,t0a 31,t0a 32]),X9b,ow1b,rfl⟩
 ·rintro _ w2 ⟨t1a,X2e,ow3e,rfl⟩ _ rfl
  refine h2c _ _<|wp_seq_k fun K4e h4e=>Ae<|sV (Aa rfl) ?_
  obtain ⟨r0i,h1i,f2i⟩:=Ab f0f
  refine sc (Af IG (by simp only [OW.len ow3e];rfl)) (Dp m8b A4a c5a w2 (tbx X2e hT) (OW.rl ow3e) r0i h1i) ?_
  rintro _ w3 E3i ⟨A4i,c5i,rfl,n6i⟩
  refine nrm ?_
  have X7i:=xtr X2e E3i
  refine sV (Ac rfl) ?_
  refine Ad<|h4e _ _<|wp_ret ?_
  obtain rfl:=sj f2i
  exact fin rfl (Res.tmp rfl Res.nil) (Ak X7i ⟨A4i,c5i,rfl,n6i⟩)
theorem GU (x0:List Int) (x1:List Int) (A1:Option Addr) (c2:Nat) (A4:Option Addr) (c5:Nat) (w:World) (hT:TB w) (n3:RLu w A1 c2 x0) (n6:RLu w A4 c5 x1) (r:List Int) (hr:CU x0 x1=some r) :
  Calls Tryz.prog 241 #[.slice A1 x0.length c2,.slice A4 x1.length c5] w (Ret HX w r):=by
 unfold CU at hr
 go_enter Tryz.func241,Tryz.ntmps241
 refine wp_seq_k fun K7 h7=>Ae<|sV (Ac rfl) ?_
 refine Ad<|h7 _ _<|wp_seq_k fun K8 h8=>Ae<|sV (Aa rfl) ?_
 refine sV (Ax Aq rfl) ?_
 refine sV (Aa rfl) ?_
 refine sV (Ax Aq rfl) ?_
 refine sV (AO (c:=wi64 ((x0.length:Int)+(x1.length:Int))) rfl rfl rfl) ?_
 obtain ⟨_,h9,f4f⟩:=Ab hr
 have gd11:=Ay h9
 refine Gx Aq CO rfl rfl gd11 fun A7a w1 E5f ow6f=>?_
 refine nrm ?_
 refine sV (Ac rfl) ?_
 refine Ad<|h8 _ _<|wp_seq_k fun K6c h6c=>wp_seq_k fun K7c h7c=>Ae<|sV (Aa rfl) ?_
 refine sV (Ax Aq rfl) ?_
 refine sV (Aa rfl) ?_
 refine Ad<|h7c _ _ ?_
 obtain ⟨m0c,h7f,f8f⟩:=Ab f4f
 refine BZ (fun l l' w'=>∃(t4a:Nat→Value),Ext w w'∧OW 179 w.heap.size w' A7a (((wi64 ((x0.length:Int)+(x1.length:Int))):Int).toNat) (((wi64 ((x0.length:Int)+(x1.length:Int))):Int).toNat) m0c∧l'=[.slice A1 x0.length c2,.slice A4 x1.length c5,uu,uu,.slice none 0 0,.slice A7a (((wi64 ((x0.length:Int)+(x1.length:Int))):Int).toNat) (((wi64 ((x0.length:Int)+(x1.length:Int))):Int).toNat),t4a 0,t4a 1,t4a 2,t4a 3,t4a 4,.slice A1 x0.length c2,.int .i64 (x0.length:Int),.slice A4 x1.length c5,.int .i64 (x1.length:Int),.int .i64 (wi64 ((x0.length:Int)+(x1.length:Int))),.slice A7a (((wi64 ((x0.length:Int)+(x1.length:Int))):Int).toNat) (((wi64 ((x0.length:Int)+(x1.length:Int))):Int).toNat),.slice A1 x0.length c2,.int .i64 (x0.length:Int),t4a 5,t4a 6,t4a 7,t4a 8,t4a 9,t4a 10,t4a 11,t4a 12,t4a 13,t4a 14,t4a 15,t4a 16,t4a 17,t4a 18,t4a 19,t4a 20,t4a 21,t4a 22,t4a 23,t4a 24,t4a 25,t4a 26,t4a 27,t4a 28,t4a 29,t4a 30,t4a 31,t4a 32,t4a 33,t4a 34,t4a 35,t4a 36,t4a 37,t4a 38,t4a 39,t4a 40,t4a 41,t4a 42,t4a 43,t4a 44,t4a 45,t4a 46,t4a 47,t4a 48,t4a 49,t4a 50,uu,uu]) ?_ ?_
 ·apply wp_block
  refine AR (fun l n8c l' w'=>∃(v5a:Int) (v5b:List Int) (t0a:Nat→Value),Ext w w'∧OW 179 w.heap.size w' A7a (((wi64 ((x0.length:Int)+(x1.length:Int))):Int).toNat) (((wi64 ((x0.length:Int)+(x1.length:Int))):Int).toNat) v5b∧Dy x0 x1 n8c v5a v5b=some m0c∧l'=[.slice A1 x0.length c2,.slice A4 x1.length c5,uu,uu,.slice none 0 0,.slice A7a (((wi64 ((x0.length:Int)+(x1.length:Int))):Int).toNat) (((wi64 ((x0.length:Int)+(x1.length:Int))):Int).toNat),t0a 0,t0a 1,t0a 2,t0a 3,t0a 4,.slice A1 x0.length c2,.int .i64 (x0.length:Int),.slice A4 x1.length c5,.int .i64 (x1.length:Int),.int .i64 (wi64 ((x0.length:Int)+(x1.length:Int))),.slice A7a (((wi64 ((x0.length:Int)+(x1.length:Int))):Int).toNat) (((wi64 ((x0.length:Int)+(x1.length:Int))):Int).toNat),.slice A1 x0.length c2,.int .i64 (x0.length:Int),.int .i64 v5a,t0a 5,t0a 6,t0a 7,t0a 8,t0a 9,t0a 10,t0a 11,t0a 12,t0a 13,t0a 14,t0a 15,t0a 16,t0a 17,t0a 18,t0a 19,t0a 20,t0a 21,t0a 22,t0a 23,t0a 24,t0a 25,t0a 26,t0a 27,t0a 28,t0a 29,t0a 30,t0a 31,t0a 32,t0a 33,t0a 34,t0a 35,t0a 36,t0a 37,t0a 38,t0a 39,t0a 40,t0a 41,t0a 42,t0a 43,t0a 44,t0a 45,t0a 46,t0a 47,t0a 48,t0a 49,uu,uu]) 18446744073709551616 ?_ ?_ ?_
  ·exact ⟨0,(List.replicate ((wi64 ((x0.length:Int)+(x1.length:Int))):Int).toNat (0:Int)),(tk [uu,uu,uu,uu,uu,uu,uu,uu,uu,uu,uu,uu,uu,uu,uu,uu,uu,uu,uu,uu,uu,uu,uu,uu,uu,uu,uu,uu,uu,uu,uu,uu,uu,uu,uu,uu,uu,uu,uu,uu,uu,uu,uu,uu,uu,uu,uu,uu,uu,uu]),E5f,ow6f,h7f,rfl⟩
  ·rintro l' w' ⟨v5a,v5b,t0a,_,_,hz,_⟩
   exact nomatch hz
  ·rintro n8c ih9f _ w2 ⟨v5a,v5b,t0a,X1c,ow9c,hr2c,rfl⟩ _ rfl
   unfold Dy at hr2c
   refine Ba<|wp_seq_k fun K0d h0d=>Ae<|sb (CK rfl rfl) fun z2b hz2b=>?_
   refine nrm ?_
   refine Ad<|h0d _ _<|wp_seq_k fun K1d h1d=>?_
   rcases bft z2b with e6b | e6b
   ·have p0g:=zP hz2b e6b
    have f1g:=ifP p0g hr2c
    refine wp_cond_true (Ai (evb rfl e6b))<|wp_skip<|h1d _ _<|wp_seq_k fun K2d h2d=>?_
    obtain ⟨m3d,h2g,f3g⟩:=Ab f1g
    refine BZ (fun l l' w'=>∃(t1a:Nat→Value),Ext w w'∧OW 179 w.heap.size w' A7a (((wi64 ((x0.length:Int)+(x1.length:Int))):Int).toNat) (((wi64 ((x0.length:Int)+(x1.length:Int))):Int).toNat) m3d∧l'=[.slice A1 x0.length c2,.slice A4 x1.length c5,uu,uu,.slice none 0 0,.slice A7a (((wi64 ((x0.length:Int)+(x1.length:Int))):Int).toNat) (((wi64 ((x0.length:Int)+(x1.length:Int))):Int).toNat),.int .i64 v5a,t1a 0,t1a 1,t1a 2,t1a 3,.slice A1 x0.length c2,.int .i64 (x0.length:Int),.slice A4 x1.length c5,.int .i64 (x1.length:Int),.int .i64 (wi64 ((x0.length:Int)+(x1.length:Int))),.slice A7a (((wi64 ((x0.length:Int)+(x1.length:Int))):Int).toNat) (((wi64 ((x0.length:Int)+(x1.length:Int))):Int).toNat),.slice A1 x0.length c2,.int .i64 (x0.length:Int),.int .i64 v5a,.bool z2b,.int .i64 v5a,t1a 4,t1a 5,.slice A4 x1.length c5,.int .i64 (x1.length:Int),t1a 6,t1a 7,t1a 8,t1a 9,t1a 10,t1a 11,t1a 12,t1a 13,t1a 14,t1a 15,t1a 16,t1a 17,t1a 18,t1a 19,t1a 20,t1a 21,t1a 22,t1a 23,t1a 24,t1a 25,t1a 26,t1a 27,t1a 28,t1a 29,t1a 30,t1a 31,t1a 32,t1a 33,t1a 34,t1a 35,.slice A7a (((wi64 ((x0.length:Int)+(x1.length:Int))):Int).toNat) (((wi64 ((x0.length:Int)+(x1.length:Int))):Int).toNat),.int .i64 v5a,.slice A4 x1.length c5,.int .i64 (x1.length:Int),.int .i64 (wi64 (v5a+(x1.length:Int))),t1a 36,t1a 37,t1a 38,t0a 49,uu,uu]) ?_ ?_
    ·apply wp_block
     refine wp_seq_k fun K4d h4d=>Ae<|sV (Aa rfl) ?_
     obtain ⟨u6a,h4g,f5g⟩:=Ab h2g
     obtain ⟨bb4073,oo4074,hA6g,ia7g,ib8g,hc4076⟩:=RL.nth (n3.ext X1c) h4g
     refine sV (Ar Aq An rfl rfl hA6g ia7g ib8g) ?_
     refine sV (Ag AN rfl hc4076) ?_
     refine sV (Ac rfl) ?_
     refine sV (Ac rfl) ?_
     refine Ad<|h4d _ _<|wp_seq_k fun K5d h5d=>Ae<|sV (Ac rfl) ?_
     refine Ad<|h5d _ _<|wp_seq_k fun K6d h6d=>wp_seq_k fun K7d h7d=>Ae<|sV (Aa rfl) ?_
     refine sV (Ax Aq rfl) ?_
     refine sV (Aa rfl) ?_
     refine Ad<|h7d _ _ ?_
     obtain ⟨m3b,h9g,f0h⟩:=Ab f5g
     refine BZ (fun l l' w'=>∃(t2a:Nat→Value),Ext w w'∧OW 179 w.heap.size w' A7a (((wi64 ((x0.length:Int)+(x1.length:Int))):Int).toNat) (((wi64 ((x0.length:Int)+(x1.length:Int))):Int).toNat) m3b.2∧l'=[.slice A1 x0.length c2,.slice A4 x1.length c5,uu,uu,.slice none 0 0,.slice A7a (((wi64 ((x0.length:Int)+(x1.length:Int))):Int).toNat) (((wi64 ((x0.length:Int)+(x1.length:Int))):Int).toNat),.int .i64 v5a,.int .u32 u6a,.int .u64 m3b.1,t2a 0,t2a 1,.slice A1 x0.length c2,.int .i64 (x0.length:Int),.slice A4 x1.length c5,.int .i64 (x1.length:Int),.int .i64 (wi64 ((x0.length:Int)+(x1.length:Int))),.slice A7a (((wi64 ((x0.length:Int)+(x1.length:Int))):Int).toNat) (((wi64 ((x0.length:Int)+(x1.length:Int))):Int).toNat),.slice A1 x0.length c2,.int .i64 (x0.length:Int),.int .i64 v5a,.bool z2b,.int .i64 v5a,.pointer (some ⟨bb4073,oo4074+(v5a:Int).toNat,none⟩),.int .u32 u6a,.slice A4 x1.length c5,.int .i64 (x1.length:Int),t2a 2,t2a 3,t2a 4,t2a 5,t2a 6,t2a 7,t2a 8,t2a 9,t2a 10,t2a 11,t2a 12,t2a 13,t2a 14,t2a 15,t2a 16,t2a 17,t2a 18,t2a 19,t2a 20,t2a 21,t2a 22,t2a 23,t2a 24,t2a 25,t2a 26,t2a 27,t2a 28,t2a 29,t2a 30,t2a 31,t0a 41,t0a 42,t0a 43,t0a 44,t0a 45,t0a 46,t0a 47,t0a 48,t0a 49,uu,uu]) ?_ ?_
     ·apply wp_block
      refine AR (fun l n8d l' w'=>∃(v0b:Int) (v8a:Int) (v7b:List Int) (t3a:Nat→Value),Ext w w'∧OW 179 w.heap.size w' A7a (((wi64 ((x0.length:Int)+(x1.length:Int))):Int).toNat) (((wi64 ((x0.length:Int)+(x1.length:Int))):Int).toNat) v7b∧DA x0 x1 v5a u6a n8d v0b v8a v7b=some m3b∧l'=[.slice A1 x0.length c2,.slice A4 x1.length c5,uu,uu,.slice none 0 0,.slice A7a (((wi64 ((x0.length:Int)+(x1.length:Int))):Int).toNat) (((wi64 ((x0.length:Int)+(x1.length:Int))):Int).toNat),.int .i64 v5a,.int .u32 u6a,.int .u64 v0b,t3a 0,t3a 1,.slice A1 x0.length c2,.int .i64 (x0.length:Int),.slice A4 x1.length c5,.int .i64 (x1.length:Int),.int .i64 (wi64 ((x0.length:Int)+(x1.length:Int))),.slice A7a (((wi64 ((x0.length:Int)+(x1.length:Int))):Int).toNat) (((wi64 ((x0.length:Int)+(x1.length:Int))):Int).toNat),.slice A1 x0.length c2,.int .i64 (x0.length:Int),.int .i64 v5a,.bool z2b,.int .i64 v5a,.pointer (some ⟨bb4073,oo4074+(v5a:Int).toNat,none⟩),.int .u32 u6a,.slice A4 x1.length c5,.int .i64 (x1.length:Int),.int .i64 v8a,t3a 2,t3a 3,t3a 4,t3a 5,t3a 6,t3a 7,t3a 8,t3a 9,t3a 10,t3a 11,t3a 12,t3a 13,t3a 14,t3a 15,t3a 16,t3a 17,t3a 18,t3a 19,t3a 20,t3a 21,t3a 22,t3a 23,t3a 24,t3a 25,t3a 26,t3a 27,t3a 28,t3a 29,t3a 30,t0a 41,t0a 42,t0a 43,t0a 44,t0a 45,t0a 46,t0a 47,t0a 48,t0a 49,uu,uu]) 18446744073709551616 ?_ ?_ ?_
      ·exact ⟨0,0,v5b,(tk [t0a 3,t0a 4,t0a 12,t0a 13,t0a 14,t0a 15,t0a 16,t0a 17,t0a 18,t0a 19,t0a 20,t0a 21,t0a 22,t0a 23,t0a 24,t0a 25,t0a 26,t0a 27,t0a 28,t0a 29,t0a 30,t0a 31,t0a 32,t0a 33,t0a 34,t0a 35,t0a 36,t0a 37,t0a 38,t0a 39,t0a 40]),X1c,ow9c,h9g,rfl⟩
      ·rintro l' w' ⟨v0b,v8a,v7b,t3a,_,_,hz,_⟩
       exact nomatch hz
      ·rintro n8d ih1h _ w3 ⟨v0b,v8a,v7b,t3a,X3c,ow8b,hr4c,rfl⟩ _ rfl
       unfold DA at hr4c
       refine Ba<|wp_seq_k fun K9d h9d=>Ae<|sb (CK rfl rfl) fun z4b hz4b=>?_
       refine nrm ?_
       refine Ad<|h9d _ _<|wp_seq_k fun K0e h0e=>?_
       rcases bft z4b with e9b | e9b
       ·have p2h:=zP hz4b e9b
        have f3h:=ifP p2h hr4c
        refine wp_cond_true (Ai (evb rfl e9b))<|wp_skip<|h0e _ _<|wp_seq_k fun K1e h1e=>?_
        apply wp_block
        refine wp_seq_k fun K2e h2e=>Ae<|sV (Aa rfl) ?_
        obtain ⟨u9a,h4h,f5h⟩:=Ab f3h
        obtain ⟨bb4379,oo4380,hA6h,ia7h,ib8h,hc4382⟩:=RL.nth (n6.ext X3c) h4h
        refine sV (Ar Aq An rfl rfl hA6h ia7h ib8h) ?_
        refine sV (Ag AN rfl hc4382) ?_
        refine sV (Ac rfl) ?_
        refine sV (Ac rfl) ?_
        refine Ad<|h2e _ _<|wp_seq_k fun K3e h3e=>Ae<|sV (Aa rfl) ?_
        refine sV (Aa rfl) ?_
        refine sV (AG (c:=wu64 u6a) AH AF rfl rfl) ?_
        refine sV (Aa rfl) ?_
        refine sV (AG (c:=wu64 u9a) AH AF rfl rfl) ?_
        refine sV (HZ (c:=wu64 ((wu64 u6a)*(wu64 u9a))) rfl rfl rfl) ?_
        refine sV (Aa rfl) ?_
        refine sV (Aa rfl) ?_
        refine sV (Aa rfl) ?_
        refine sV (AO (c:=wi64 (v5a+v8a)) rfl rfl rfl) ?_
        obtain ⟨u1b,h9h,f0i⟩:=Ab f5h
        obtain ⟨bb4390,hA1i,hz7k,ia2i,ib3i,hc4395⟩:=OW.nthc ow8b h9h
        refine sV (Ar Aq An rfl rfl hA1i ia2i ib3i) ?_
        refine sV (Ag AN rfl hc4395) ?_
        refine sV (AG (c:=wu64 u1b) AH AF rfl rfl) ?_
        refine sV (AO (c:=wu64 ((wu64 ((wu64 u6a)*(wu64 u9a)))+(wu64 u1b))) rfl rfl rfl) ?_
        refine sV (AO (c:=wu64 (v0b+(wu64 ((wu64 ((wu64 u6a)*(wu64 u9a)))+(wu64 u1b))))) rfl rfl rfl) ?_
        refine sV (Ac rfl) ?_
        refine Ad<|h3e _ _<|wp_seq_k fun K4e h4e=>Ae<|sV (Aa rfl) ?_
        refine sV (Aa rfl) ?_
        refine sV (Aa rfl) ?_
        refine sV (AO (c:=wi64 (v5a+v8a)) rfl rfl rfl) ?_
        refine sV (Aa rfl) ?_
        refine sV (AG (c:=wu32 (wu64 (v0b+(wu64 ((wu64 ((wu64 u6a)*(wu64 u9a)))+(wu64 u1b)))))) AF AH rfl rfl) ?_
        obtain ⟨u8k,h4i,f5i⟩:=Ab f0i
        obtain ⟨bb4400,hA5e,hz9k,ia6e,ib7e,hc4405⟩:=OW.nthc ow8b h4i
        refine sV (Ar Aq An rfl rfl hA5e ia6e ib7e) ?_
        refine JQ An rfl rfl ow8b hA5e ia6e (by rw [OW.len ow8b];exact ib7e) fun w4 B4406 U0l ow6i=>?_
        have X7i:=xO X3c B4406 (Nat.le_refl _)
        refine Ad<|h4e _ _<|Ae<|sV (Aa rfl) ?_
        refine sV (Gu (c:=(wu64 (v0b+(wu64 ((wu64 ((wu64 u6a)*(wu64 u9a)))+(wu64 u1b))))).fdiv (2^min (32:Int).toNat IntKind.u64.bits)) (by decide) rfl rfl rfl) ?_
        refine sV (Ac rfl) ?_
        refine Ad<|h1e _ _<|Ae<|sV (AO (c:=wi64 (v8a+1)) rfl rfl rfl) ?_
        refine sV (Aa rfl) ?_
        refine Ad ?_
        exact ih1h _ _ ⟨((wu64 (v0b+(wu64 ((wu64 ((wu64 u6a)*(wu64 u9a)))+(wu64 u1b))))).fdiv (2^min (32:Int).toNat IntKind.u64.bits)),(wi64 (v8a+1)),(List.set v7b ((wi64 (v5a+v8a)):Int).toNat (wu32 (wu64 (v0b+(wu64 ((wu64 ((wu64 u6a)*(wu64 u9a)))+(wu64 u1b))))))),(tk [.int .i64 v8a,.int .u32 u9a,.bool z4b,.int .i64 v8a,.pointer (some ⟨bb4379,oo4380+(v8a:Int).toNat,none⟩),.int .u32 u9a,.int .u64 v0b,.int .u32 u6a,.int .u64 (wu64 u6a),.int .u32 u9a,.int .u64 (wu64 u9a),.int .u64 (wu64 ((wu64 u6a)*(wu64 u9a))),.slice A7a (((wi64 ((x0.length:Int)+(x1.length:Int))):Int).toNat) (((wi64 ((x0.length:Int)+(x1.length:Int))):Int).toNat),.int .i64 v5a,.int .i64 v8a,.int .i64 (wi64 (v5a+v8a)),.pointer (some ⟨bb4390,0+((wi64 (v5a+v8a)):Int).toNat,none⟩),.int .u32 u1b,.int .u64 (wu64 u1b),.int .u64 (wu64 ((wu64 ((wu64 u6a)*(wu64 u9a)))+(wu64 u1b))),.int .u64 (wu64 (v0b+(wu64 ((wu64 ((wu64 u6a)*(wu64 u9a)))+(wu64 u1b))))),.slice A7a (((wi64 ((x0.length:Int)+(x1.length:Int))):Int).toNat) (((wi64 ((x0.length:Int)+(x1.length:Int))):Int).toNat),.int .i64 v5a,.int .i64 v8a,.int .i64 (wi64 (v5a+v8a)),.int .u64 (wu64 (v0b+(wu64 ((wu64 ((wu64 u6a)*(wu64 u9a)))+(wu64 u1b))))),.int .u32 (wu32 (wu64 (v0b+(wu64 ((wu64 ((wu64 u6a)*(wu64 u9a)))+(wu64 u1b)))))),.pointer (some ⟨bb4400,0+((wi64 (v5a+v8a)):Int).toNat,none⟩),.int .u64 (wu64 (v0b+(wu64 ((wu64 ((wu64 u6a)*(wu64 u9a)))+(wu64 u1b))))),.int .u64 ((wu64 (v0b+(wu64 ((wu64 ((wu64 u6a)*(wu64 u9a)))+(wu64 u1b))))).fdiv (2^min (32:Int).toNat IntKind.u64.bits)),.int .i64 (wi64 (v8a+1))]),X7i,ow6i,f5i,rfl⟩
       ·have p8i:=zN hz4b e9b
        have f9i:=ifN p8i hr4c
        refine wp_cond_false (Ai (evb rfl e9b))<|wp_exit ?_
        simp only [Exit.then,Exit.inBlock,↓reduceIte,Nat.reduceEqDiff]
        obtain rfl:=sj f9i
        exact ⟨_,rfl,(tk [t3a 0,t3a 1,.int .i64 v8a,.bool z4b,t3a 3,t3a 4,t3a 5,t3a 6,t3a 7,t3a 8,t3a 9,t3a 10,t3a 11,t3a 12,t3a 13,t3a 14,t3a 15,t3a 16,t3a 17,t3a 18,t3a 19,t3a 20,t3a 21,t3a 22,t3a 23,t3a 24,t3a 25,t3a 26,t3a 27,t3a 28,t3a 29,t3a 30]),X3c,ow8b,rfl⟩
     ·rintro _ w3 ⟨t2a,X0j,ow5c,rfl⟩ _ rfl
      refine h6d _ _<|Ae<|sV (Aa rfl) ?_
      refine sV (Aa rfl) ?_
      refine sV (Aa rfl) ?_
      refine sV (Ax Aq rfl) ?_
      refine sV (AO (c:=wi64 (v5a+(x1.length:Int))) rfl rfl rfl) ?_
      refine sV (Aa rfl) ?_
      refine sV (AG (c:=wu32 m3b.1) AF AH rfl rfl) ?_
      obtain ⟨u1l,h1j,f2j⟩:=Ab f0h
      obtain ⟨bb4413,hA8e,hz2l,ia9e,ib0f,hc4418⟩:=OW.nthc ow5c h1j
      refine sV (Ar Aq An rfl rfl hA8e ia9e ib0f) ?_
      refine JQ An rfl rfl ow5c hA8e ia9e (by rw [OW.len ow5c];exact ib0f) fun w4 B4419 U3l ow3j=>?_
      have X4j:=xO X0j B4419 (Nat.le_refl _)
      refine Ad ?_
      obtain rfl:=sj f2j
      exact ⟨_,rfl,(tk [.int .u32 u6a,.int .u64 m3b.1,t2a 0,t2a 1,.pointer (some ⟨bb4073,oo4074+(v5a:Int).toNat,none⟩),.int .u32 u6a,t2a 2,t2a 3,t2a 4,t2a 5,t2a 6,t2a 7,t2a 8,t2a 9,t2a 10,t2a 11,t2a 12,t2a 13,t2a 14,t2a 15,t2a 16,t2a 17,t2a 18,t2a 19,t2a 20,t2a 21,t2a 22,t2a 23,t2a 24,t2a 25,t2a 26,t2a 27,t2a 28,t2a 29,t2a 30,t2a 31,.int .u64 m3b.1,.int .u32 (wu32 m3b.1),.pointer (some ⟨bb4413,0+((wi64 (v5a+(x1.length:Int))):Int).toNat,none⟩)]),X4j,ow3j,rfl⟩
    ·rintro _ w3 ⟨t1a,X5j,ow6j,rfl⟩ _ rfl
     refine h2d _ _<|Ae<|sV (AO (c:=wi64 (v5a+1)) rfl rfl rfl) ?_
     refine sV (Aa rfl) ?_
     refine Ad ?_
     exact ih9f _ _ ⟨(wi64 (v5a+1)),m3d,(tk [.int .i64 v5a,t1a 0,t1a 1,t1a 2,t1a 3,.bool z2b,.int .i64 v5a,t1a 4,t1a 5,.slice A4 x1.length c5,.int .i64 (x1.length:Int),t1a 6,t1a 7,t1a 8,t1a 9,t1a 10,t1a 11,t1a 12,t1a 13,t1a 14,t1a 15,t1a 16,t1a 17,t1a 18,t1a 19,t1a 20,t1a 21,t1a 22,t1a 23,t1a 24,t1a 25,t1a 26,t1a 27,t1a 28,t1a 29,t1a 30,t1a 31,t1a 32,t1a 33,t1a 34,t1a 35,.slice A7a (((wi64 ((x0.length:Int)+(x1.length:Int))):Int).toNat) (((wi64 ((x0.length:Int)+(x1.length:Int))):Int).toNat),.int .i64 v5a,.slice A4 x1.length c5,.int .i64 (x1.length:Int),.int .i64 (wi64 (v5a+(x1.length:Int))),t1a 36,t1a 37,t1a 38,.int .i64 (wi64 (v5a+1))]),X5j,ow6j,f3g,rfl⟩
   ·have p7j:=zN hz2b e6b
    have f8j:=ifN p7j hr2c
    refine wp_cond_false (Ai (evb rfl e6b))<|wp_exit ?_
    simp only [Exit.then,Exit.inBlock,↓reduceIte,Nat.reduceEqDiff]
    obtain rfl:=sj f8j
    exact ⟨_,rfl,(tk [t0a 0,t0a 1,t0a 2,t0a 3,t0a 4,.int .i64 v5a,.bool z2b,t0a 6,t0a 7,t0a 8,t0a 9,t0a 10,t0a 11,t0a 12,t0a 13,t0a 14,t0a 15,t0a 16,t0a 17,t0a 18,t0a 19,t0a 20,t0a 21,t0a 22,t0a 23,t0a 24,t0a 25,t0a 26,t0a 27,t0a 28,t0a 29,t0a 30,t0a 31,t0a 32,t0a 33,t0a 34,t0a 35,t0a 36,t0a 37,t0a 38,t0a 39,t0a 40,t0a 41,t0a 42,t0a 43,t0a 44,t0a 45,t0a 46,t0a 47,t0a 48,t0a 49]),X1c,ow9c,rfl⟩
 ·rintro _ w2 ⟨t4a,X1f,ow2f,rfl⟩ _ rfl
  refine h6c _ _<|wp_seq_k fun K3f h3f=>Ae<|sV (Aa rfl) ?_
  obtain ⟨r9j,h0k,f1k⟩:=Ab f8f
  refine sc (Af IG (by simp only [OW.len ow2f];rfl)) (Dp m0c A7a (((wi64 ((x0.length:Int)+(x1.length:Int))):Int).toNat) w2 (tbx X1f hT) (OW.rl ow2f) r9j h0k) ?_
  rintro _ w3 E2k ⟨A3k,c4k,rfl,n5k⟩
  refine nrm ?_
  have X6k:=xtr X1f E2k
  refine sV (Ac rfl) ?_
  refine Ad<|h3f _ _<|wp_ret ?_
  obtain rfl:=sj f1k
  exact fin rfl (Res.tmp rfl Res.nil) (Ak X6k ⟨A3k,c4k,rfl,n5k⟩)
theorem Dk (x0:List Int) (x1:Int) (A1:Option Addr) (c2:Nat) (w:World) (hT:TB w) (n3:RLu w A1 c2 x0) (r:List Int) (hr:Br x0 x1=some r) :
  Calls Tryz.prog 185 #[.slice A1 x0.length c2,.int .i64 x1] w (Ret HX w r):=by
 unfold Br at hr
 go_enter Tryz.func185,Tryz.ntmps185
 refine wp_seq_k fun K4 h4=>Ae<|sV (Ac rfl) ?_
 refine Ad<|h4 _ _<|wp_seq_k fun K5 h5=>wp_seq_k fun K6 h6=>Ae<|sV (Aa rfl) ?_
 refine sV (Ax Aq rfl) ?_
 refine sb (BE rfl rfl) fun z7 hz7=>?_
 refine nrm ?_
 refine Ad<|h6 _ _ ?_
 rcases bft z7 with e0b | e0b
 ·have p0e:=zP hz7 e0b
  have f1e:=ifP p0e hr
  refine wp_cond_true (Ai (evb rfl e0b))<|wp_seq_k fun K6b h6b=>Ae<|sV (Ac rfl) ?_
  refine Ad<|h6b _ _<|wp_ret ?_
  obtain rfl:=sj f1e
  exact fin rfl (Res.tmp rfl Res.nil) (Ak (Ext.refl _) ⟨none,0,rfl,(RL.nil _ _ _)⟩)
 ·have p2e:=zN hz7 e0b
  have f3e:=ifN p2e hr
  refine wp_cond_false (Ai (evb rfl e0b))<|wp_skip<|h5 _ _<|wp_seq_k fun K7b h7b=>Ae<|sV (Aa rfl) ?_
  refine sV (FP (c:=wi64 (x1.tdiv 32)) (by decide) rfl rfl rfl) ?_
  refine sV (Aa rfl) ?_
  refine sV (FP (c:=wi64 (x1.tdiv 32)) (by decide) rfl rfl rfl) ?_
  refine sV (Aa rfl) ?_
  refine sV (Ax Aq rfl) ?_
  refine sV (AO (c:=wi64 ((wi64 (x1.tdiv 32))+(x0.length:Int))) rfl rfl rfl) ?_
  refine sV (AO (c:=wi64 ((wi64 ((wi64 (x1.tdiv 32))+(x0.length:Int)))+1)) rfl rfl rfl) ?_
  obtain ⟨_,h4e,f5e⟩:=Ab f3e
  have gd22:=Ay h4e
  refine Gx Aq CO rfl rfl gd22 fun A8b w1 E6e ow9b=>?_
  refine nrm ?_
  refine sV (Ac rfl) ?_
  refine Ad<|h7b _ _<|wp_seq_k fun K0c h0c=>Ae<|sV (Ac rfl) ?_
  refine Ad<|h0c _ _<|wp_seq_k fun K1c h1c=>wp_seq_k fun K2c h2c=>Ae<|sV (Aa rfl) ?_
  refine sV (Ax Aq rfl) ?_
  refine sV (Aa rfl) ?_
  refine Ad<|h2c _ _ ?_
  obtain ⟨m4a,h7e,f8e⟩:=Ab f5e
  refine BZ (fun l l' w'=>∃(A2b:Option Addr) (c3b:Nat) (t1a:Nat→Value),Ext w w'∧OW 179 w.heap.size w' A2b m4a.2.length c3b m4a.2∧l'=(((((((((((((((((((((((l.set 5 (.slice A2b m4a.2.length c3b)).set 6 (.int .u64 m4a.1)).set 8 (t1a 0)).set 20 (t1a 1)).set 23 (t1a 2)).set 24 (t1a 3)).set 25 (t1a 4)).set 26 (t1a 5)).set 27 (t1a 6)).set 28 (t1a 7)).set 29 (t1a 8)).set 30 (t1a 9)).set 31 (t1a 10)).set 32 (t1a 11)).set 33 (t1a 12)).set 34 (t1a 13)).set 35 (t1a 14)).set 36 (t1a 15)).set 37 (t1a 16)).set 38 (t1a 17)).set 39 (t1a 18)).set 40 (t1a 19)).set 41 (t1a 20))) ?_ ?_
  ·apply wp_block
   refine AR (fun l n3c l' w'=>∃(v3a:Int) (v5a:Int) (v6a:List Int) (A7a:Option Addr) (c8a:Nat) (t0a:Nat→Value),Ext w w'∧OW 179 w.heap.size w' A7a v6a.length c8a v6a∧BW x0 x1 n3c v3a v5a v6a=some m4a∧l'=((((((((((((((((((((((l.set 5 (.slice A7a v6a.length c8a)).set 6 (.int .u64 v3a)).set 8 (t0a 0)).set 23 (.int .i64 v5a)).set 24 (t0a 1)).set 25 (t0a 2)).set 26 (t0a 3)).set 27 (t0a 4)).set 28 (t0a 5)).set 29 (t0a 6)).set 30 (t0a 7)).set 31 (t0a 8)).set 32 (t0a 9)).set 33 (t0a 10)).set 34 (t0a 11)).set 35 (t0a 12)).set 36 (t0a 13)).set 37 (t0a 14)).set 38 (t0a 15)).set 39 (t0a 16)).set 40 (t0a 17)).set 41 (t0a 18))) 18446744073709551616 ?_ ?_ ?_
   ·exact ⟨0,0,(List.replicate ((wi64 (x1.tdiv 32)):Int).toNat (0:Int)),A8b,(((wi64 ((wi64 ((wi64 (x1.tdiv 32))+(x0.length:Int)))+1)):Int).toNat),(tk [uu,uu,uu,uu,uu,uu,uu,uu,uu,uu,uu,uu,uu,uu,uu,uu,uu,uu,uu]),E6e,(OW.nn ow9b),h7e,(by simp only [S0,S1,OW.len ow9b]<;>rfl)⟩
   ·rintro l' w' ⟨v3a,v5a,v6a,A7a,c8a,t0a,_,_,hz,_⟩
    exact nomatch hz
   ·rintro n3c ih9e l' w2 ⟨v3a,v5a,v6a,A7a,c8a,t0a,X4b,ow4c,hr5b,hq'⟩ l'' hl
    rw [hq'] at hl
    clear hq'
    simp only [S0,S1] at hl
    subst hl
    unfold BW at hr5b
    refine Ba<|wp_seq_k fun K5c h5c=>Ae<|sb (CK rfl rfl) fun z9a hz9a=>?_
    refine nrm ?_
    refine Ad<|h5c _ _<|wp_seq_k fun K6c h6c=>?_
    rcases bft z9a with e1b | e1b
    ·have p0f:=zP hz9a e1b
     have f1f:=ifP p0f hr5b
     refine wp_cond_true (Ai (evb rfl e1b))<|wp_skip<|h6c _ _<|wp_seq_k fun K7c h7c=>?_
     apply wp_block
     refine wp_seq_k fun K8c h8c=>Ae ?_
     obtain ⟨u2a,h2f,f3f⟩:=Ab f1f
     obtain ⟨bb311,oo312,hA4f,ia5f,ib6f,hc314⟩:=RL.nth (n3.ext X4b) h2f
     refine sV (Ar Aq An rfl rfl hA4f ia5f ib6f) ?_
     refine sV (Ag AN rfl hc314) ?_
     refine sV (Ac rfl) ?_
     refine Ad<|h8c _ _<|wp_seq_k fun K9c h9c=>Ae<|sV (Aa rfl) ?_
     refine sV (Aa rfl) ?_
     refine sV (AG (c:=wu64 u2a) AH AF rfl rfl) ?_
     refine sV (Aa rfl) ?_
     refine sV (HH (c:=x1.tmod 32) (by decide) rfl rfl rfl) ?_
     obtain ⟨_,h7f,f8f⟩:=Ab f3f
     have gd321:=Ay h7f
     refine sV (HM (c:=wu64 ((wu64 u2a)*2^min ((x1.tmod 32):Int).toNat IntKind.u64.bits)) gd321 rfl rfl rfl) ?_
     refine sV (Lg rfl rfl) ?_
     refine sV (Ac rfl) ?_
     refine Ad<|h9c _ _<|wp_seq_k fun K0d h0d=>Ae<|sV (Aa rfl) ?_
     refine sV (Aa rfl) ?_
     refine sV (AG (c:=wu32 (bor .u64 v3a (wu64 ((wu64 u2a)*2^min ((x1.tmod 32):Int).toNat IntKind.u64.bits)))) AF AH rfl rfl) ?_
     refine DI (vals:=[(0,.int .u32 (wu32 (bor .u64 v3a (wu64 ((wu64 u2a)*2^min ((x1.tmod 32):Int).toNat IntKind.u64.bits)))))]) (cs:=[.int .u32 (wu32 (bor .u64 v3a (wu64 ((wu64 u2a)*2^min ((x1.tmod 32):Int).toNat IntKind.u64.bits))))]) Aq An FK (by rfl) (by decide) (by kernel_rfl) fun b1d w3 E2d g5i q9f=>?_
     refine nrm ?_
     have X3d:=xtr X4b E2d
     have n0g:RLu w3 (some ⟨b1d,0,none⟩) 1 [(wu32 (bor .u64 v3a (wu64 ((wu64 u2a)*2^min ((x1.tmod 32):Int).toNat IntKind.u64.bits))))]:=(OW.lit (n0:=0) (n:=1) (xs:=[(wu32 (bor .u64 v3a (wu64 ((wu64 u2a)*2^min ((x1.tmod 32):Int).toNat IntKind.u64.bits))))]) q9f (Nat.zero_le _) rfl (by decide)).rl
     obtain ⟨_,h1g,f2g⟩:=Ab f8f
     have gd331:=Ay h1g
     refine HN Aq CO rfl rfl rfl (ow4c.ext E2d) n0g gd331 X3d.size fun A4d c5d w4 B334 ow3g=>?_
     refine nrm ?_
     have X4g:=xO X3d B334 (Nat.le_refl _)
     refine sV (Ac rfl) ?_
     refine Ad<|h0d _ _<|Ae<|sV (Aa rfl) ?_
     refine sV (Gu (c:=(bor .u64 v3a (wu64 ((wu64 u2a)*2^min ((x1.tmod 32):Int).toNat IntKind.u64.bits))).fdiv (2^min (32:Int).toNat IntKind.u64.bits)) (by decide) rfl rfl rfl) ?_
     refine sV (Ac rfl) ?_
     refine Ad<|h7c _ _<|Ae<|sV (AO (c:=wi64 (v5a+1)) rfl rfl rfl) ?_
     refine sV (Aa rfl) ?_
     refine Ad ?_
     exact ih9e _ _ ⟨((bor .u64 v3a (wu64 ((wu64 u2a)*2^min ((x1.tmod 32):Int).toNat IntKind.u64.bits))).fdiv (2^min (32:Int).toNat IntKind.u64.bits)),(wi64 (v5a+1)),(v6a++([(wu32 (bor .u64 v3a (wu64 ((wu64 u2a)*2^min ((x1.tmod 32):Int).toNat IntKind.u64.bits))))]:List Int)),A4d,c5d,(tk [.int .u32 u2a,.bool z9a,.pointer (some ⟨bb311,oo312+(v5a:Int).toNat,none⟩),.int .u32 u2a,.int .u64 v3a,.int .u32 u2a,.int .u64 (wu64 u2a),.int .i64 x1,.int .i64 (x1.tmod 32),.int .u64 (wu64 ((wu64 u2a)*2^min ((x1.tmod 32):Int).toNat IntKind.u64.bits)),.int .u64 (bor .u64 v3a (wu64 ((wu64 u2a)*2^min ((x1.tmod 32):Int).toNat IntKind.u64.bits))),.slice A7a v6a.length c8a,.int .u64 (bor .u64 v3a (wu64 ((wu64 u2a)*2^min ((x1.tmod 32):Int).toNat IntKind.u64.bits))),.int .u32 (wu32 (bor .u64 v3a (wu64 ((wu64 u2a)*2^min ((x1.tmod 32):Int).toNat IntKind.u64.bits)))),.slice (some ⟨b1d,0,none⟩) 1 1,.slice A4d (List.length (v6a++([(wu32 (bor .u64 v3a (wu64 ((wu64 u2a)*2^min ((x1.tmod 32):Int).toNat IntKind.u64.bits))))]:List Int))) c5d,.int .u64 (bor .u64 v3a (wu64 ((wu64 u2a)*2^min ((x1.tmod 32):Int).toNat IntKind.u64.bits))),.int .u64 ((bor .u64 v3a (wu64 ((wu64 u2a)*2^min ((x1.tmod 32):Int).toNat IntKind.u64.bits))).fdiv (2^min (32:Int).toNat IntKind.u64.bits)),.int .i64 (wi64 (v5a+1))]),X4g,(OW.nn ow3g),f2g,(by simp only [S0,S1]<;>rfl)⟩
    ·have p5g:=zN hz9a e1b
     have f6g:=ifN p5g hr5b
     refine wp_cond_false (Ai (evb rfl e1b))<|wp_exit ?_
     simp only [Exit.then,Exit.inBlock,↓reduceIte,Nat.reduceEqDiff]
     obtain rfl:=sj f6g
     exact ⟨_,rfl,A7a,c8a,(tk [t0a 0,.slice A8b (((wi64 (x1.tdiv 32)):Int).toNat) (((wi64 ((wi64 ((wi64 (x1.tdiv 32))+(x0.length:Int)))+1)):Int).toNat),.int .i64 v5a,.bool z9a,t0a 2,t0a 3,t0a 4,t0a 5,t0a 6,t0a 7,t0a 8,t0a 9,t0a 10,t0a 11,t0a 12,t0a 13,t0a 14,t0a 15,t0a 16,t0a 17,t0a 18]),X4b,(OW.nn ow4c),(by simp only [S0,S1]<;>rfl)⟩
  ·rintro l' w2 ⟨A2b,c3b,t1a,X7g,ow8g,hq'⟩ l'' hl
   rw [hq'] at hl
   clear hq'
   simp only [S0,S1] at hl
   subst hl
   refine h1c _ _<|wp_seq_k fun K6d h6d=>Ae<|sV (Aa rfl) ?_
   refine sV (Aa rfl) ?_
   refine sV (AG (c:=wu32 m4a.1) AF AH rfl rfl) ?_
   refine DI (vals:=[(0,.int .u32 (wu32 m4a.1))]) (cs:=[.int .u32 (wu32 m4a.1)]) Aq An FK (by rfl) (by decide) (by kernel_rfl) fun b9g w3 E7d g6i q0h=>?_
   refine nrm ?_
   have X8d:=xtr X7g E7d
   have n1h:RLu w3 (some ⟨b9g,0,none⟩) 1 [(wu32 m4a.1)]:=(OW.lit (n0:=0) (n:=1) (xs:=[(wu32 m4a.1)]) q0h (Nat.zero_le _) rfl (by decide)).rl
   obtain ⟨_,h2h,f3h⟩:=Ab f8e
   have gd346:=Ay h2h
   refine HN Aq CO rfl rfl rfl (ow8g.ext E7d) n1h gd346 X8d.size fun A4h c5h w4 B349 ow6h=>?_
   refine nrm ?_
   have X9d:=xO X8d B349 (Nat.le_refl _)
   obtain ⟨r7h,h8h,f9h⟩:=Ab f3h
   refine sc (Af IG (by rfl)) (Dp (m4a.2++([(wu32 m4a.1)]:List Int)) A4h c5h w4 (tbx X9d hT) (OW.rl ow6h) r7h h8h) ?_
   rintro _ w5 E0i ⟨A1i,c2i,rfl,n3i⟩
   refine nrm ?_
   have X4i:=xtr X9d E0i
   refine sV (Ac rfl) ?_
   refine Ad<|h6d _ _<|wp_ret ?_
   obtain rfl:=sj f9h
   exact fin rfl (Res.tmp rfl Res.nil) (Ak X4i ⟨A1i,c2i,rfl,n3i⟩)
theorem Fs (x0:List Int) (x1:Int) (A1:Option Addr) (c2:Nat) (w:World) (hT:TB w) (n3:RLu w A1 c2 x0) (r:List Int) (hr:Cj x0 x1=some r) :
  Calls Tryz.prog 204 #[.slice A1 x0.length c2,.int .i64 x1] w (Ret HX w r):=by
 unfold Cj at hr
 go_enter Tryz.func204,Tryz.ntmps204
 refine wp_seq_k fun K4 h4=>Ae<|sV (Ac rfl) ?_
 refine Ad<|h4 _ _<|wp_seq_k fun K5 h5=>wp_seq_k fun K6 h6=>Ae<|sV (Aa rfl) ?_
 refine sV (FP (c:=wi64 (x1.tdiv 32)) (by decide) rfl rfl rfl) ?_
 refine sV (Aa rfl) ?_
 refine sV (Ax Aq rfl) ?_
 refine sb (Fl rfl rfl) fun z7 hz7=>?_
 refine nrm ?_
 refine Ad<|h6 _ _ ?_
 rcases bft z7 with e1b | e1b
 ·have p4f:=zP hz7 e1b
  have f5f:=ifP p4f hr
  refine wp_cond_true (Ai (evb rfl e1b))<|wp_seq_k fun K5c h5c=>Ae<|sV (Ac rfl) ?_
  refine Ad<|h5c _ _<|wp_ret ?_
  obtain rfl:=sj f5f
  exact fin rfl (Res.tmp rfl Res.nil) (Ak (Ext.refl _) ⟨none,0,rfl,(RL.nil _ _ _)⟩)
 ·have p6f:=zN hz7 e1b
  have f7f:=ifN p6f hr
  refine wp_cond_false (Ai (evb rfl e1b))<|wp_skip<|h5 _ _<|wp_seq_k fun K6c h6c=>Ae<|sV (Aa rfl) ?_
  refine sV (Aa rfl) ?_
  refine sV (FP (c:=wi64 (x1.tdiv 32)) (by decide) rfl rfl rfl) ?_
  obtain ⟨_,h8f,f9f⟩:=Ab f7f
  have gd22:=Ay h8f
  refine KX (lo:=((wi64 (x1.tdiv 32)):Int).toNat) (hi:=x0.length) Aq An rfl ⟨.i64,by rw [Int.toNat_of_nonneg (a:=(wi64 (x1.tdiv 32))) (by omega)];rfl⟩ rfl (by omega) (by omega) n3 fun A5a c6a n7c=>?_
  refine nrm ?_
  refine sV (Ac rfl) ?_
  refine Ad<|h6c _ _<|wp_seq_k fun K8c h8c=>Ae<|sV (Aa rfl) ?_
  refine sV (Ax Aq rfl) ?_
  obtain ⟨_,h0g,f1g⟩:=Ab f9f
  have gd29:=Ay h0g
  refine Gx Aq CO rfl rfl gd29 fun A7a w1 E2g ow3g=>?_
  refine nrm ?_
  refine sV (Ac rfl) ?_
  refine Ad<|h8c _ _<|wp_seq_k fun K9c h9c=>wp_seq_k fun K0d h0d=>Ae<|sV (Aa rfl) ?_
  refine sV (Ax Aq rfl) ?_
  refine sV (Aa rfl) ?_
  refine Ad<|h0d _ _ ?_
  obtain ⟨m0c,h4g,f5g⟩:=Ab f1g
  refine BZ (fun l l' w'=>∃(t1a:Nat→Value),Ext w w'∧OW 179 w.heap.size w' A7a (((List.length ((List.drop (((wi64 (x1.tdiv 32)):Int).toNat) x0).take (x0.length - (((wi64 (x1.tdiv 32)):Int).toNat))):Int):Int).toNat) (((List.length ((List.drop (((wi64 (x1.tdiv 32)):Int).toNat) x0).take (x0.length - (((wi64 (x1.tdiv 32)):Int).toNat))):Int):Int).toNat) m0c∧l'=[.slice A5a (List.length ((List.drop (((wi64 (x1.tdiv 32)):Int).toNat) x0).take (x0.length - (((wi64 (x1.tdiv 32)):Int).toNat)))) c6a,.int .i64 x1,uu,uu,.slice none 0 0,.slice A7a (((List.length ((List.drop (((wi64 (x1.tdiv 32)):Int).toNat) x0).take (x0.length - (((wi64 (x1.tdiv 32)):Int).toNat))):Int):Int).toNat) (((List.length ((List.drop (((wi64 (x1.tdiv 32)):Int).toNat) x0).take (x0.length - (((wi64 (x1.tdiv 32)):Int).toNat))):Int):Int).toNat),t1a 0,t1a 1,.int .i64 x1,.int .i64 (wi64 (x1.tdiv 32)),.slice A1 x0.length c2,.int .i64 (x0.length:Int),.bool z7,.slice A1 x0.length c2,.int .i64 x1,.int .i64 (wi64 (x1.tdiv 32)),.slice A5a (List.length ((List.drop (((wi64 (x1.tdiv 32)):Int).toNat) x0).take (x0.length - (((wi64 (x1.tdiv 32)):Int).toNat)))) c6a,.slice A5a (List.length ((List.drop (((wi64 (x1.tdiv 32)):Int).toNat) x0).take (x0.length - (((wi64 (x1.tdiv 32)):Int).toNat)))) c6a,.int .i64 (List.length ((List.drop (((wi64 (x1.tdiv 32)):Int).toNat) x0).take (x0.length - (((wi64 (x1.tdiv 32)):Int).toNat))):Int),.slice A7a (((List.length ((List.drop (((wi64 (x1.tdiv 32)):Int).toNat) x0).take (x0.length - (((wi64 (x1.tdiv 32)):Int).toNat))):Int):Int).toNat) (((List.length ((List.drop (((wi64 (x1.tdiv 32)):Int).toNat) x0).take (x0.length - (((wi64 (x1.tdiv 32)):Int).toNat))):Int):Int).toNat),.slice A5a (List.length ((List.drop (((wi64 (x1.tdiv 32)):Int).toNat) x0).take (x0.length - (((wi64 (x1.tdiv 32)):Int).toNat)))) c6a,.int .i64 (List.length ((List.drop (((wi64 (x1.tdiv 32)):Int).toNat) x0).take (x0.length - (((wi64 (x1.tdiv 32)):Int).toNat))):Int),t1a 2,t1a 3,t1a 4,t1a 5,t1a 6,t1a 7,t1a 8,t1a 9,t1a 10,t1a 11,t1a 12,t1a 13,t1a 14,t1a 15,t1a 16,t1a 17,t1a 18,t1a 19,t1a 20,t1a 21,t1a 22,t1a 23,t1a 24,t1a 25,t1a 26,t1a 27,t1a 28,t1a 29,t1a 30,t1a 31,t1a 32,t1a 33,t1a 34,t1a 35,t1a 36,t1a 37,t1a 38,t1a 39,uu,uu]) ?_ ?_
  ·apply wp_block
   refine AR (fun l n1d l' w'=>∃(v3a:Int) (v7b:List Int) (t0a:Nat→Value),Ext w w'∧OW 179 w.heap.size w' A7a (((List.length ((List.drop (((wi64 (x1.tdiv 32)):Int).toNat) x0).take (x0.length - (((wi64 (x1.tdiv 32)):Int).toNat))):Int):Int).toNat) (((List.length ((List.drop (((wi64 (x1.tdiv 32)):Int).toNat) x0).take (x0.length - (((wi64 (x1.tdiv 32)):Int).toNat))):Int):Int).toNat) v7b∧Dw x0 x1 n1d v3a v7b=some m0c∧l'=[.slice A5a (List.length ((List.drop (((wi64 (x1.tdiv 32)):Int).toNat) x0).take (x0.length - (((wi64 (x1.tdiv 32)):Int).toNat)))) c6a,.int .i64 x1,uu,uu,.slice none 0 0,.slice A7a (((List.length ((List.drop (((wi64 (x1.tdiv 32)):Int).toNat) x0).take (x0.length - (((wi64 (x1.tdiv 32)):Int).toNat))):Int):Int).toNat) (((List.length ((List.drop (((wi64 (x1.tdiv 32)):Int).toNat) x0).take (x0.length - (((wi64 (x1.tdiv 32)):Int).toNat))):Int):Int).toNat),t0a 0,t0a 1,.int .i64 x1,.int .i64 (wi64 (x1.tdiv 32)),.slice A1 x0.length c2,.int .i64 (x0.length:Int),.bool z7,.slice A1 x0.length c2,.int .i64 x1,.int .i64 (wi64 (x1.tdiv 32)),.slice A5a (List.length ((List.drop (((wi64 (x1.tdiv 32)):Int).toNat) x0).take (x0.length - (((wi64 (x1.tdiv 32)):Int).toNat)))) c6a,.slice A5a (List.length ((List.drop (((wi64 (x1.tdiv 32)):Int).toNat) x0).take (x0.length - (((wi64 (x1.tdiv 32)):Int).toNat)))) c6a,.int .i64 (List.length ((List.drop (((wi64 (x1.tdiv 32)):Int).toNat) x0).take (x0.length - (((wi64 (x1.tdiv 32)):Int).toNat))):Int),.slice A7a (((List.length ((List.drop (((wi64 (x1.tdiv 32)):Int).toNat) x0).take (x0.length - (((wi64 (x1.tdiv 32)):Int).toNat))):Int):Int).toNat) (((List.length ((List.drop (((wi64 (x1.tdiv 32)):Int).toNat) x0).take (x0.length - (((wi64 (x1.tdiv 32)):Int).toNat))):Int):Int).toNat),.slice A5a (List.length ((List.drop (((wi64 (x1.tdiv 32)):Int).toNat) x0).take (x0.length - (((wi64 (x1.tdiv 32)):Int).toNat)))) c6a,.int .i64 (List.length ((List.drop (((wi64 (x1.tdiv 32)):Int).toNat) x0).take (x0.length - (((wi64 (x1.tdiv 32)):Int).toNat))):Int),.int .i64 v3a,t0a 2,t0a 3,t0a 4,t0a 5,t0a 6,t0a 7,t0a 8,t0a 9,t0a 10,t0a 11,t0a 12,t0a 13,t0a 14,t0a 15,t0a 16,t0a 17,t0a 18,t0a 19,t0a 20,t0a 21,t0a 22,t0a 23,t0a 24,t0a 25,t0a 26,t0a 27,t0a 28,t0a 29,t0a 30,t0a 31,t0a 32,t0a 33,t0a 34,t0a 35,t0a 36,t0a 37,t0a 38,uu,uu]) 18446744073709551616 ?_ ?_ ?_
   ·exact ⟨0,(List.replicate ((List.length ((List.drop (((wi64 (x1.tdiv 32)):Int).toNat) x0).take (x0.length - (((wi64 (x1.tdiv 32)):Int).toNat))):Int):Int).toNat (0:Int)),(tk [uu,uu,uu,uu,uu,uu,uu,uu,uu,uu,uu,uu,uu,uu,uu,uu,uu,uu,uu,uu,uu,uu,uu,uu,uu,uu,uu,uu,uu,uu,uu,uu,uu,uu,uu,uu,uu,uu,uu]),E2g,ow3g,h4g,rfl⟩
   ·rintro l' w' ⟨v3a,v7b,t0a,_,_,hz,_⟩
    exact nomatch hz
   ·rintro n1d ih6g _ w2 ⟨v3a,v7b,t0a,X1c,ow8b,hr2c,rfl⟩ _ rfl
    unfold Dw at hr2c
    refine Ba<|wp_seq_k fun K2d h2d=>Ae<|sb (CK rfl rfl) fun z9a hz9a=>?_
    refine nrm ?_
    refine Ad<|h2d _ _<|wp_seq_k fun K3d h3d=>?_
    rcases bft z9a with e2b | e2b
    ·have p7g:=zP hz9a e2b
     have f8g:=ifP p7g hr2c
     refine wp_cond_true (Ai (evb rfl e2b))<|wp_skip<|h3d _ _<|wp_seq_k fun K4d h4d=>?_
     apply wp_block
     refine wp_seq_k fun K5d h5d=>Ae<|sV (Aa rfl) ?_
     obtain ⟨u3b,h9g,f0h⟩:=Ab f8g
     obtain ⟨bb845,oo846,hA1h,ia2h,ib3h,hc848⟩:=RL.nth (n7c.ext X1c) h9g
     refine sV (Ar Aq An rfl rfl hA1h ia2h ib3h) ?_
     refine sV (Ag AN rfl hc848) ?_
     refine sV (Ac rfl) ?_
     refine sV (Ac rfl) ?_
     refine Ad<|h5d _ _<|wp_seq_k fun K6d h6d=>Ae<|sV (Aa rfl) ?_
     refine sV (Aa rfl) ?_
     refine sV (Aa rfl) ?_
     refine sV (Aa rfl) ?_
     refine sV (HH (c:=x1.tmod 32) (by decide) rfl rfl rfl) ?_
     obtain ⟨_,h4h,f5h⟩:=Ab f0h
     have gd855:=Ay h4h
     refine sV (Gu (c:=u3b.fdiv (2^min ((x1.tmod 32):Int).toNat IntKind.u32.bits)) gd855 rfl rfl rfl) ?_
     obtain ⟨u6l,h6h,f7h⟩:=Ab f5h
     obtain ⟨bb859,hA7d,hz7l,ia8d,ib9d,hc864⟩:=OW.nthc ow8b h6h
     refine sV (Ar Aq An rfl rfl hA7d ia8d ib9d) ?_
     refine JQ An rfl rfl ow8b hA7d ia8d (by rw [OW.len ow8b];exact ib9d) fun w3 B865 U8l ow4b=>?_
     have X0e:=xO X1c B865 (Nat.le_refl _)
     refine Ad<|h6d _ _<|wp_seq_k fun K1e h1e=>Ae<|sV (Aa rfl) ?_
     refine sV (AO (c:=wi64 (v3a+1)) rfl rfl rfl) ?_
     refine sV (Aa rfl) ?_
     refine sV (Ax Aq rfl) ?_
     refine sb (CK rfl rfl) fun z0b hz0b=>?_
     refine nrm ?_
     refine sV (Aa rfl) ?_
     obtain ⟨m3c,h2e,f8h⟩:=Ab f7h
     refine BB 10 (fun l l' w'=>∃(t8a:Nat→Value),w3=w'∧l'=((((l.set 40 (t8a 0)).set 41 (t8a 1)).set 42 (t8a 2)).set 43 (.bool m3c))) ?_ ?_
     ·intro HJ881
      rcases bft z0b with e4a | e4a
      ·have p9h:=zP hz0b e4a
       have f0i:=ifP p9h h2e
       refine sV (Aa rfl) ?_ (hw:=wgT rfl e4a)
       refine sV (HH (c:=x1.tmod 32) (by decide) rfl rfl rfl) ?_ (hw:=wgT rfl e4a)
       refine sb (Eu rfl rfl) ?_ (hw:=wgT rfl e4a)
       intro z4c hz4c
       refine nrm ?_
       refine sV (Aw (evb rfl e4a) rfl) ?_
       obtain rfl:z4c=decide (0<(x1.tmod 32)):=bz hz4c
       obtain rfl:=sj f0i
       exact HJ881 _ _ ⟨(tk [.int .i64 x1,.int .i64 (x1.tmod 32),.bool (decide (0<(x1.tmod 32)))]),(by trivial),(by simp only [S0,S1]<;>rfl)⟩
      ·have p1i:=zN hz0b e4a
       have f2i:=ifN p1i h2e
       refine sP ?_ (hw:=wgF rfl e4a)
       refine sP ?_ (hw:=wgF rfl e4a)
       refine sP ?_ (hw:=wgF rfl e4a)
       refine sV (AB (evb rfl e4a) rfl) ?_
       obtain rfl:=sj f2i
       exact HJ881 _ _ ⟨(tk [uu,uu,uu]),(by trivial),(by simp only [S0,S1]<;>rfl)⟩
     ·rintro l' _ ⟨t8a,rfl,hq'⟩ l'' hl
      rw [hq'] at hl
      clear hq'
      simp only [S0,S1] at hl
      subst hl
      refine Ad<|h1e _ _ ?_
      obtain ⟨m3e,h4e,f3i⟩:=Ab f8h
      refine BZ (fun l l' w'=>∃(t2a:Nat→Value),Ext w w'∧OW 179 w.heap.size w' A7a (((List.length ((List.drop (((wi64 (x1.tdiv 32)):Int).toNat) x0).take (x0.length - (((wi64 (x1.tdiv 32)):Int).toNat))):Int):Int).toNat) (((List.length ((List.drop (((wi64 (x1.tdiv 32)):Int).toNat) x0).take (x0.length - (((wi64 (x1.tdiv 32)):Int).toNat))):Int):Int).toNat) m3e∧l'=(((((((((((((((l.set 44 (t2a 0)).set 45 (t2a 1)).set 46 (t2a 2)).set 47 (t2a 3)).set 48 (t2a 4)).set 49 (t2a 5)).set 50 (t2a 6)).set 51 (t2a 7)).set 52 (t2a 8)).set 53 (t2a 9)).set 54 (t2a 10)).set 55 (t2a 11)).set 56 (t2a 12)).set 57 (t2a 13)).set 58 (t2a 14))) ?_ ?_
      ·rcases bft m3c with e5b | e5b
       ·have p4i:=e5b
        have f5i:=ifP p4i h4e
        refine wp_cond_true (Ai (evb rfl e5b))<|EE [15] 16 mo rfl fun w4 E6b S5e=>have X6e:=xtr X0e E6b;dA 0 rfl (fun _=>Aa rfl) ?_
        refine dA 1 rfl (fun _=>Aa rfl) ?_
        obtain ⟨u7e,h6i,f7i⟩:=Ab f5i
        obtain ⟨bb948,hA8i,hz9l,ia9i,ib0j,hc953⟩:=OW.nthc (ow4b.ext E6b) h6i
        refine dA 2 rfl (fun _=>Ar Aq An rfl rfl hA8i ia9i ib0j) ?_
        refine dV 3 rfl (fun _ hw=>Ag AN rfl (Cv hc953 hw)) S5e ?_
        refine dA 4 rfl (fun _=>Aa rfl) ?_
        refine dA 5 rfl (fun _=>Aa rfl) ?_
        refine dA 6 rfl (fun _=>AO (c:=wi64 (v3a+1)) rfl rfl rfl) ?_
        obtain ⟨u9b,h1j,f2j⟩:=Ab f7i
        obtain ⟨bb957,oo958,hA3j,ia4j,ib5j,hc960⟩:=RL.nth (n7c.ext X6e) h1j
        refine dA 7 rfl (fun _=>Ar Aq An rfl rfl hA3j ia4j ib5j) ?_
        refine dV 8 rfl (fun _ hw=>Ag AN rfl (Cv hc960 hw)) S5e ?_
        refine dA 9 rfl (fun _=>Aa rfl) ?_
        refine dA 10 rfl (fun _=>HH (c:=x1.tmod 32) (by decide) rfl rfl rfl) ?_
        refine dA 11 rfl (fun _=>AV (c:=wi64 (32 - (x1.tmod 32))) rfl rfl rfl) ?_
        obtain ⟨_,h6j,f7j⟩:=Ab f2j
        have gd965:=Ay h6j
        refine dA 12 rfl (fun _=>HM (c:=wu32 (u9b*2^min ((wi64 (32 - (x1.tmod 32))):Int).toNat IntKind.u32.bits)) gd965 rfl rfl rfl) ?_
        refine dA 13 rfl (fun _=>Lg rfl rfl) ?_
        obtain ⟨u0m,h8j,f9j⟩:=Ab f7j
        obtain ⟨bb969,hA8e,hz1m,ia9e,ib0f,hc974⟩:=OW.nthc (ow4b.ext E6b) h8j
        refine dA 14 rfl (fun _=>Ar Aq An rfl rfl hA8e ia9e ib0f) ?_
        refine dkO 15 rfl (by kernel_rfl) (by decide) (by rfl) An rfl rfl (ow4b.ext E6b) hA8e ia9e (by rw [OW.len (ow4b.ext E6b)];exact ib0f) fun w5 B975 U2m ow0k=>?_
        have X1k:=xO X6e B975 (Nat.le_refl _)
        refine Dm (by kernel_rfl) ?_
        obtain rfl:=sj f9j
        exact ⟨_,rfl,(tk [.slice A7a (((List.length ((List.drop (((wi64 (x1.tdiv 32)):Int).toNat) x0).take (x0.length - (((wi64 (x1.tdiv 32)):Int).toNat))):Int):Int).toNat) (((List.length ((List.drop (((wi64 (x1.tdiv 32)):Int).toNat) x0).take (x0.length - (((wi64 (x1.tdiv 32)):Int).toNat))):Int):Int).toNat),.int .i64 v3a,.pointer (some ⟨bb948,0+(v3a:Int).toNat,none⟩),.int .u32 u7e,.slice A5a (List.length ((List.drop (((wi64 (x1.tdiv 32)):Int).toNat) x0).take (x0.length - (((wi64 (x1.tdiv 32)):Int).toNat)))) c6a,.int .i64 v3a,.int .i64 (wi64 (v3a+1)),.pointer (some ⟨bb957,oo958+((wi64 (v3a+1)):Int).toNat,none⟩),.int .u32 u9b,.int .i64 x1,.int .i64 (x1.tmod 32),.int .i64 (wi64 (32 - (x1.tmod 32))),.int .u32 (wu32 (u9b*2^min ((wi64 (32 - (x1.tmod 32))):Int).toNat IntKind.u32.bits)),.int .u32 (bor .u32 u7e (wu32 (u9b*2^min ((wi64 (32 - (x1.tmod 32))):Int).toNat IntKind.u32.bits))),.pointer (some ⟨bb969,0+(v3a:Int).toNat,none⟩)]),X1k,ow0k,(by simp only [S0,S1]<;>rfl)⟩
       ·have p2k:=bF e5b
        have f3k:=ifN p2k h4e
        refine wp_cond_false (Ai (evb rfl e5b))<|wp_skip ?_
        obtain rfl:=sj f3k
        exact ⟨_,rfl,(tk [t0a 23,t0a 24,t0a 25,t0a 26,t0a 27,t0a 28,t0a 29,t0a 30,t0a 31,t0a 32,t0a 33,t0a 34,t0a 35,t0a 36,t0a 37]),X0e,ow4b,(by simp only [S0,S1]<;>rfl)⟩
      ·rintro l' w4 ⟨t2a,X4k,ow5k,hq'⟩ l'' hl
       rw [hq'] at hl
       clear hq'
       simp only [S0,S1] at hl
       subst hl
       refine h4d _ _<|Ae<|sV (AO (c:=wi64 (v3a+1)) rfl rfl rfl) ?_
       refine sV (Aa rfl) ?_
       refine Ad ?_
       exact ih6g _ _ ⟨(wi64 (v3a+1)),m3e,(tk [.int .i64 v3a,.int .u32 u3b,.bool z9a,.int .i64 v3a,.pointer (some ⟨bb845,oo846+(v3a:Int).toNat,none⟩),.int .u32 u3b,.slice A7a (((List.length ((List.drop (((wi64 (x1.tdiv 32)):Int).toNat) x0).take (x0.length - (((wi64 (x1.tdiv 32)):Int).toNat))):Int):Int).toNat) (((List.length ((List.drop (((wi64 (x1.tdiv 32)):Int).toNat) x0).take (x0.length - (((wi64 (x1.tdiv 32)):Int).toNat))):Int):Int).toNat),.int .i64 v3a,.int .u32 u3b,.int .i64 x1,.int .i64 (x1.tmod 32),.int .u32 (u3b.fdiv (2^min ((x1.tmod 32):Int).toNat IntKind.u32.bits)),.pointer (some ⟨bb859,0+(v3a:Int).toNat,none⟩),.int .i64 v3a,.int .i64 (wi64 (v3a+1)),.slice A5a (List.length ((List.drop (((wi64 (x1.tdiv 32)):Int).toNat) x0).take (x0.length - (((wi64 (x1.tdiv 32)):Int).toNat)))) c6a,.int .i64 (List.length ((List.drop (((wi64 (x1.tdiv 32)):Int).toNat) x0).take (x0.length - (((wi64 (x1.tdiv 32)):Int).toNat))):Int),.bool z0b,.bool z0b,t8a 0,t8a 1,t8a 2,.bool m3c,t2a 0,t2a 1,t2a 2,t2a 3,t2a 4,t2a 5,t2a 6,t2a 7,t2a 8,t2a 9,t2a 10,t2a 11,t2a 12,t2a 13,t2a 14,.int .i64 (wi64 (v3a+1))]),X4k,ow5k,f3i,rfl⟩
    ·have p6k:=zN hz9a e2b
     have f7k:=ifN p6k hr2c
     refine wp_cond_false (Ai (evb rfl e2b))<|wp_exit ?_
     simp only [Exit.then,Exit.inBlock,↓reduceIte,Nat.reduceEqDiff]
     obtain rfl:=sj f7k
     exact ⟨_,rfl,(tk [t0a 0,t0a 1,.int .i64 v3a,.bool z9a,t0a 3,t0a 4,t0a 5,t0a 6,t0a 7,t0a 8,t0a 9,t0a 10,t0a 11,t0a 12,t0a 13,t0a 14,t0a 15,t0a 16,t0a 17,t0a 18,t0a 19,t0a 20,t0a 21,t0a 22,t0a 23,t0a 24,t0a 25,t0a 26,t0a 27,t0a 28,t0a 29,t0a 30,t0a 31,t0a 32,t0a 33,t0a 34,t0a 35,t0a 36,t0a 37,t0a 38]),X1c,ow8b,rfl⟩
  ·rintro _ w2 ⟨t1a,X1f,ow2f,rfl⟩ _ rfl
   refine h9c _ _<|wp_seq_k fun K3f h3f=>Ae<|sV (Aa rfl) ?_
   obtain ⟨r8k,h9k,f0l⟩:=Ab f5g
   refine sc (Af IG (by simp only [OW.len ow2f];rfl)) (Dp m0c A7a (((List.length ((List.drop (((wi64 (x1.tdiv 32)):Int).toNat) x0).take (x0.length - (((wi64 (x1.tdiv 32)):Int).toNat))):Int):Int).toNat) w2 (tbx X1f hT) (OW.rl ow2f) r8k h9k) ?_
   rintro _ w3 E1l ⟨A2l,c3l,rfl,n4l⟩
   refine nrm ?_
   have X5l:=xtr X1f E1l
   refine sV (Ac rfl) ?_
   refine Ad<|h3f _ _<|wp_ret ?_
   obtain rfl:=sj f0l
   exact fin rfl (Res.tmp rfl Res.nil) (Ak X5l ⟨A2l,c3l,rfl,n4l⟩)
theorem c_wide_Nat_short (x0:List Int) (x1:Int) (A1:Option Addr) (c2:Nat) (w:World) (hT:TB w) (n3:RLu w A1 c2 x0) (r:List Int × List Int) (hr:Fu x0 x1=some r) :
  Calls Tryz.prog 237 #[.slice A1 x0.length c2,.int .u32 x1] w (Ret JX w r):=by
 unfold Fu at hr
 go_enter Tryz.func237,Tryz.ntmps237
 refine wp_seq_k fun K4 h4=>Ae<|sV (Ac rfl) ?_
 refine sV (Ac rfl) ?_
 refine Ad<|h4 _ _<|wp_seq_k fun K5 h5=>Ae<|sV (Aa rfl) ?_
 refine sV (Ax Aq rfl) ?_
 obtain ⟨_,h6,f7⟩:=Ab hr
 have gd8:=Ay h6
 refine Gx Aq CO rfl rfl gd8 fun A9 w1 E9c ow0d=>?_
 refine nrm ?_
 refine sV (Ac rfl) ?_
 refine Ad<|h5 _ _<|wp_seq_k fun K3b h3b=>Ae<|sV (Ac rfl) ?_
 refine Ad<|h3b _ _<|wp_seq_k fun K4b h4b=>wp_seq_k fun K5b h5b=>Ae<|sV (Aa rfl) ?_
 refine sV (Ax Aq rfl) ?_
 refine sV (AV (c:=wi64 ((x0.length:Int) - 1)) rfl rfl rfl) ?_
 refine sV (Ac rfl) ?_
 refine Ad<|h5b _ _ ?_
 obtain ⟨m6a,h1d,f2d⟩:=Ab f7
 refine BZ (fun l l' w'=>∃(t1a:Nat→Value),Ext w w'∧OW 179 w.heap.size w' A9 (((x0.length:Int):Int).toNat) (((x0.length:Int):Int).toNat) m6a.2∧l'=[.slice A1 x0.length c2,.int .u32 x1,uu,uu,.slice none 0 0,.slice none 0 0,.slice A9 (((x0.length:Int):Int).toNat) (((x0.length:Int):Int).toNat),.int .u64 m6a.1,t1a 0,.slice A1 x0.length c2,.int .i64 (x0.length:Int),.slice A9 (((x0.length:Int):Int).toNat) (((x0.length:Int):Int).toNat),.slice A1 x0.length c2,.int .i64 (x0.length:Int),.int .i64 (wi64 ((x0.length:Int) - 1)),t1a 1,t1a 2,t1a 3,t1a 4,t1a 5,t1a 6,t1a 7,t1a 8,t1a 9,t1a 10,t1a 11,t1a 12,t1a 13,t1a 14,t1a 15,t1a 16,t1a 17,t1a 18,t1a 19,t1a 20,t1a 21,t1a 22,t1a 23,t1a 24,uu,uu,uu,uu]) ?_ ?_
 ·apply wp_block
  refine AR (fun l n6b l' w'=>∃(v2a:Int) (v3a:Int) (v7a:List Int) (t0a:Nat→Value),Ext w w'∧OW 179 w.heap.size w' A9 (((x0.length:Int):Int).toNat) (((x0.length:Int):Int).toNat) v7a∧BI x0 x1 n6b v2a v3a v7a=some m6a∧l'=[.slice A1 x0.length c2,.int .u32 x1,uu,uu,.slice none 0 0,.slice none 0 0,.slice A9 (((x0.length:Int):Int).toNat) (((x0.length:Int):Int).toNat),.int .u64 v2a,.int .i64 v3a,.slice A1 x0.length c2,.int .i64 (x0.length:Int),.slice A9 (((x0.length:Int):Int).toNat) (((x0.length:Int):Int).toNat),.slice A1 x0.length c2,.int .i64 (x0.length:Int),.int .i64 (wi64 ((x0.length:Int) - 1)),t0a 0,t0a 1,t0a 2,t0a 3,t0a 4,t0a 5,t0a 6,t0a 7,t0a 8,t0a 9,t0a 10,t0a 11,t0a 12,t0a 13,t0a 14,t0a 15,t0a 16,t0a 17,t0a 18,t0a 19,t0a 20,t0a 21,t0a 22,t0a 23,uu,uu,uu,uu]) 18446744073709551616 ?_ ?_ ?_
  ·exact ⟨0,(wi64 ((x0.length:Int) - 1)),(List.replicate ((x0.length:Int):Int).toNat (0:Int)),(tk [uu,uu,uu,uu,uu,uu,uu,uu,uu,uu,uu,uu,uu,uu,uu,uu,uu,uu,uu,uu,uu,uu,uu,uu]),E9c,ow0d,h1d,rfl⟩
  ·rintro l' w' ⟨v2a,v3a,v7a,t0a,_,_,hz,_⟩
   exact nomatch hz
  ·rintro n6b ih3d _ w2 ⟨v2a,v3a,v7a,t0a,X1b,ow9a,hr2b,rfl⟩ _ rfl
   unfold BI at hr2b
   refine Ba<|wp_seq_k fun K7b h7b=>wp_seq_k fun K8b h8b=>Ae<|sV (Aa rfl) ?_
   refine sb (Fl rfl rfl) fun z5a hz5a=>?_
   refine nrm ?_
   refine Ad<|h8b _ _ ?_
   rcases bft z5a with e8a | e8a
   ·have p4d:=zP hz5a e8a
    have f5d:=ifP p4d hr2b
    refine wp_cond_true (Ai (evb rfl e8a))<|wp_skip<|h7b _ _<|wp_seq_k fun K9b h9b=>?_
    apply wp_block
    refine wp_seq_k fun K0c h0c=>Ae<|sV (Aa rfl) ?_
    refine sV (HM (c:=wu64 (v2a*2^min (32:Int).toNat IntKind.u64.bits)) (by decide) rfl rfl rfl) ?_
    refine sV (Aa rfl) ?_
    refine sV (Aa rfl) ?_
    obtain ⟨u4a,h6d,f7d⟩:=Ab f5d
    obtain ⟨bb302,oo303,hA8d,ia9d,ib0e,hc305⟩:=RL.nth (n3.ext X1b) h6d
    refine sV (Ar Aq An rfl rfl hA8d ia9d ib0e) ?_
    refine sV (Ag AN rfl hc305) ?_
    refine sV (AG (c:=wu64 u4a) AH AF rfl rfl) ?_
    refine sV (Lg rfl rfl) ?_
    refine sV (Ac rfl) ?_
    refine Ad<|h0c _ _<|EE [12] 14 mo rfl fun w3 E0b S6g=>have X1e:=xtr X1b E0b;dA 0 rfl (fun _=>Aa rfl) ?_
    refine dA 1 rfl (fun _=>Aa rfl) ?_
    refine dA 2 rfl (fun _=>Aa rfl) ?_
    refine dA 3 rfl (fun _=>Aa rfl) ?_
    refine dA 4 rfl (fun _=>AG (c:=wu64 x1) AH AF rfl rfl) ?_
    obtain ⟨_,h2e,f3e⟩:=Ab f7d
    have gd314:=Ay h2e
    refine dA 5 rfl (fun _=>FP (c:=wu64 ((bor .u64 (wu64 (v2a*2^min (32:Int).toNat IntKind.u64.bits)) (wu64 u4a)).tdiv (wu64 x1))) (decide_eq_true gd314) rfl rfl rfl) ?_
    refine dA 6 rfl (fun _=>AG (c:=wu32 (wu64 ((bor .u64 (wu64 (v2a*2^min (32:Int).toNat IntKind.u64.bits)) (wu64 u4a)).tdiv (wu64 x1)))) AF AH rfl rfl) ?_
    refine dA 7 rfl (fun _=>Aa rfl) ?_
    refine dA 8 rfl (fun _=>Aa rfl) ?_
    refine dA 9 rfl (fun _=>AG (c:=wu64 x1) AH AF rfl rfl) ?_
    obtain ⟨_,h4e,f5e⟩:=Ab f3e
    have gd317:=Ay h4e
    refine dA 10 rfl (fun _=>HH (c:=(bor .u64 (wu64 (v2a*2^min (32:Int).toNat IntKind.u64.bits)) (wu64 u4a)).tmod (wu64 x1)) (decide_eq_true gd317) rfl rfl rfl) ?_
    obtain ⟨u7g,h6e,f7e⟩:=Ab f5e
    obtain ⟨bb321,hA1c,hz8g,ia2c,ib3c,hc326⟩:=OW.nthc (ow9a.ext E0b) h6e
    refine dA 11 rfl (fun _=>Ar Aq An rfl rfl hA1c ia2c ib3c) ?_
    refine dkO 12 rfl (by kernel_rfl) (by decide) (by rfl) An rfl rfl (ow9a.ext E0b) hA1c ia2c (by rw [OW.len (ow9a.ext E0b)];exact ib3c) fun w4 B327 U9g ow8e=>?_
    have X9e:=xO X1e B327 (Nat.le_refl _)
    refine dA 13 rfl (fun _=>Ac rfl) ?_
    refine Dm (by kernel_rfl) ?_
    refine h9b _ _<|Ae<|sV (Aa rfl) ?_
    refine sV (AV (c:=wi64 (v3a - 1)) rfl rfl rfl) ?_
    refine sV (Ac rfl) ?_
    refine Ad ?_
    exact ih3d _ _ ⟨((bor .u64 (wu64 (v2a*2^min (32:Int).toNat IntKind.u64.bits)) (wu64 u4a)).tmod (wu64 x1)),(wi64 (v3a - 1)),(List.set v7a (v3a:Int).toNat (wu32 (wu64 ((bor .u64 (wu64 (v2a*2^min (32:Int).toNat IntKind.u64.bits)) (wu64 u4a)).tdiv (wu64 x1))))),(tk [.int .i64 v3a,.bool z5a,.int .i64 v3a,.int .i64 (wi64 (v3a - 1)),.int .u64 v2a,.int .u64 (wu64 (v2a*2^min (32:Int).toNat IntKind.u64.bits)),.slice A1 x0.length c2,.int .i64 v3a,.pointer (some ⟨bb302,oo303+(v3a:Int).toNat,none⟩),.int .u32 u4a,.int .u64 (wu64 u4a),.int .u64 (bor .u64 (wu64 (v2a*2^min (32:Int).toNat IntKind.u64.bits)) (wu64 u4a)),.slice A9 (((x0.length:Int):Int).toNat) (((x0.length:Int):Int).toNat),.int .i64 v3a,.int .u64 (bor .u64 (wu64 (v2a*2^min (32:Int).toNat IntKind.u64.bits)) (wu64 u4a)),.int .u32 x1,.int .u64 (wu64 x1),.int .u64 (wu64 ((bor .u64 (wu64 (v2a*2^min (32:Int).toNat IntKind.u64.bits)) (wu64 u4a)).tdiv (wu64 x1))),.int .u32 (wu32 (wu64 ((bor .u64 (wu64 (v2a*2^min (32:Int).toNat IntKind.u64.bits)) (wu64 u4a)).tdiv (wu64 x1)))),.int .u64 (bor .u64 (wu64 (v2a*2^min (32:Int).toNat IntKind.u64.bits)) (wu64 u4a)),.int .u32 x1,.int .u64 (wu64 x1),.int .u64 ((bor .u64 (wu64 (v2a*2^min (32:Int).toNat IntKind.u64.bits)) (wu64 u4a)).tmod (wu64 x1)),.pointer (some ⟨bb321,0+(v3a:Int).toNat,none⟩)]),X9e,ow8e,f7e,rfl⟩
   ·have p0f:=zN hz5a e8a
    have f1f:=ifN p0f hr2b
    refine wp_cond_false (Ai (evb rfl e8a))<|wp_exit ?_
    simp only [Exit.then,Exit.inBlock,↓reduceIte,Nat.reduceEqDiff]
    obtain rfl:=sj f1f
    exact ⟨_,rfl,(tk [.int .i64 v3a,.int .i64 v3a,.bool z5a,t0a 2,t0a 3,t0a 4,t0a 5,t0a 6,t0a 7,t0a 8,t0a 9,t0a 10,t0a 11,t0a 12,t0a 13,t0a 14,t0a 15,t0a 16,t0a 17,t0a 18,t0a 19,t0a 20,t0a 21,t0a 22,t0a 23]),X1b,ow9a,rfl⟩
 ·rintro _ w2 ⟨t1a,X4c,ow5c,rfl⟩ _ rfl
  refine h4b _ _<|wp_seq_k fun K6c h6c=>Ae<|sV (Aa rfl) ?_
  obtain ⟨r2f,h3f,f4f⟩:=Ab f2d
  refine sc (Af IG (by simp only [OW.len ow5c];rfl)) (Dp m6a.2 A9 (((x0.length:Int):Int).toNat) w2 (tbx X4c hT) (OW.rl ow5c) r2f h3f) ?_
  rintro _ w3 E5f ⟨A6f,c7f,rfl,n8f⟩
  refine nrm ?_
  have X7c:=xtr X4c E5f
  refine sV (Aa rfl) ?_
  obtain ⟨r9f,h0g,f1g⟩:=Ab f4f
  refine sc (Af en_265 (by rfl)) (c_wide_Of m6a.1 w3 (tbx X7c hT)  r9f h0g) ?_
  rintro _ w4 E8c ⟨A2g,c3g,rfl,n4g⟩
  refine nrm ?_
  have X5g:=xtr X7c E8c
  refine sV (Ac rfl) ?_
  refine sV (Ac rfl) ?_
  refine Ad<|h6c _ _<|wp_ret ?_
  obtain rfl:=sj f1g
  exact fin rfl (Res.tmp rfl (Res.tmp rfl Res.nil)) (Ak X5g ⟨A6f,c7f,A2g,c3g,rfl,(n8f.ext E8c),n4g⟩)
end Go.Proofs.Lf

