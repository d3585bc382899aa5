import Derived.Test.YtabiobmfelafoaaGreatDoorGen3
namespace Go.Proofs
set_option linter.unusedVariables false
set_option linter.unusedSimpArgs false
set_option maxHeartbeats 4000000
open Go.RowKit Go.Sb Go.Proofs.Sbn
theorem c_sorobanref04_Fits (x0:Al) (A1:Option Addr) (c2:Nat) (w:World) (hT:TB w) (n3:RU w A1 c2 x0.Man.Abs) (r:Fg) (hr:Fo x0=some r) :
  Calls Tryz.prog 134 #[.agg #[.bool x0.Man.Neg,.slice A1 (sz x0.Man.Abs) c2,.int .i64 x0.Exp]] w (Ret rep_154 w r):=by
 unfold Fo at hr
 go_enter Tryz.func134,Tryz.ntmps134
 refine wp_seq_k fun K4 h4=>Ae<|Ch rfl rfl fun b5 w1 E6 g7 q8=>?_
 refine nrm ?_
 refine AE Nw fun b9 w2 E3a g4b q5a=>?_
 refine nrm ?_
 have g6a:=nlt E6.size g4b
 have X4a:=xtr E6 E3a
 refine Ad<|h4 _ _<|wp_seq_k fun K7a h7a=>wp_seq_k fun K8a h8a=>Ae<|sV (Ao BG rfl (q8.ext E3a) rfl) ?_
 obtain ⟨r5b,h6b,f9a⟩:=Ab hr
 refine sc (Af Oc (by rfl)) (Gm (⟨(⟨x0.Man.Neg,(limbs x0.Man.Abs)⟩:AQ),x0.Exp⟩:AC) A1 c2 w2 (tbx X4a hT) (n3.ext X4a) r5b h6b) ?_
 rintro _ w3 E1a rfl
 refine nrm ?_
 have X0b:=xtr X4a E1a
 refine sb (FD rfl) fun z2a hz2a=>?_
 refine nrm ?_
 refine Ad<|h8a _ _ ?_
 rcases bft z2a with e0a | e0a
 ·have p7b:=zP hz2a e0a
  have f8b:=ifP p7b f9a
  refine wp_cond_true (Ai (evb rfl e0a))<|wp_seq_k fun K1b h1b=>Ae<|sV (Bi (vals:=[(1,.int .i64 2)]) (cells:=[.bool false,.slice none 0 0,.int .i64 0,.int .i64 2]) (by rfl) (by kernel_rfl)) ?_
  refine AA Mq rfl rfl (q5a.ext E1a) rfl rfl rfl rfl (by simp only [SP0,SP1,S0,S1,Nat.reduceAdd];rfl) fun w4 U9b q0c=>?_
  have X1c:=belU X0b U9b g6a
  refine Ad<|h1b _ _<|wp_ret ?_
  obtain rfl:=sj f8b
  exact fin rfl (Res.cellN rfl NO q0c rfl rfl Res.nil) (Ak X1c ⟨none,0,rfl,(RU.nil _)⟩)
 ·have p2c:=zN hz2a e0a
  have f3c:=ifN p2c f9a
  refine wp_cond_false (Ai (evb rfl e0a))<|wp_skip<|h7a _ _<|wp_seq_k fun K2b h2b=>Ae<|sV (Ao BG rfl ((q8.ext E3a).ext E1a) rfl) ?_
  refine sV (Bi (vals:=[(0,.agg #[.bool x0.Man.Neg,.slice A1 (sz x0.Man.Abs) c2,.int .i64 x0.Exp])]) (cells:=[.bool x0.Man.Neg,.slice A1 (sz x0.Man.Abs) c2,.int .i64 x0.Exp,.int .i64 0]) (by rfl) (by kernel_rfl)) ?_
  refine AA Mq rfl rfl (q5a.ext E1a) rfl rfl rfl rfl (by simp only [SP0,SP1,S0,S1,Nat.reduceAdd];rfl) fun w4 U4c q5c=>?_
  have X3b:=belU X0b U4c g6a
  refine Ad<|h2b _ _<|wp_ret ?_
  obtain rfl:=sj f3c
  exact fin rfl (Res.cellN rfl NO q5c rfl rfl Res.nil) (Ak X3b ⟨A1,c2,rfl,(n3.ext X3b)⟩)
theorem idle_nat_caught:Ov Tryz.prog 222:=by
 intro b w
 refine Lb Tryz.func222 rfl [.pointer (some ⟨b,0,none⟩),uu,uu,uu,uu,uu,uu,uu,uu,uu,uu,uu,uu,uu,uu,uu,uu,uu,uu,uu] (by simp [Tryz.ntmps222]) fun c₀ cs hu=>?_
 apply wpS_seq
 refine OL hu rfl ?_
 simp only [S0,S1]
 refine wpS_of_wp<|wp_seq_k fun K1 h1=>Ae<|sV (Aa rfl) ?_
 refine sV (Ko LP rfl) ?_
 refine Ad<|h1 _ _<|wp_cond_false (Ai (evb rfl rfl))<|wp_skip ?_
 try simp only [Exit.inBlock]
 exact OK hu (by kernel_rfl) ⟨rfl,rfl,rfl⟩
theorem JC (x0:Nat) (A1:Option Addr) (c2:Nat) (w:World) (hT:TB w) (n3:RU w A1 c2 x0) (r:Bool) (hr:GC x0=some r) :
  Calls Tryz.prog 255 #[.slice A1 (sz x0) c2] w (Ret Fe w r):=by
 unfold GC at hr
 go_enter Tryz.func255,Tryz.ntmps255
 refine wp_seq_k fun K4 h4=>Ae<|sV (Ac rfl) ?_
 refine Ad<|h4 _ _<|wp_seq_k fun K5 h5=>Ae<|sV (Aa rfl) ?_
 obtain ⟨r6,h7,f8⟩:=Ab hr
 refine sc (Af MD (by rfl)) (Ht (limbs x0) A1 c2 w hT n3 r6 h7) ?_
 rintro _ w1 E9 rfl
 refine nrm ?_
 refine sb (FD rfl) fun z0a hz0a=>?_
 refine nrm ?_
 refine sV (Ac rfl) ?_
 refine Ad<|h5 _ _<|wp_ret ?_
 obtain rfl:z0a=decide (¬(r6=true)):=bz hz0a
 obtain rfl:=sj f8
 exact fin rfl (Res.tmp rfl Res.nil) (Ak E9 rfl)
theorem IF (x0:Bool) (x1:Int) (w:World) (hT:TB w) (r:Except Int (Unit)) (hr:HO x0 x1=some r) :
  Calls Tryz.prog 224 #[.bool x0,.int .i64 x1] w (RetE 258 KS w r):=by
 unfold HO at hr
 go_enter Tryz.func224,Tryz.ntmps224
 refine wp_seq_k fun K1 h1=>Ae<|sV (Aa rfl) ?_
 refine sb (FD rfl) fun z2 hz2=>?_
 refine nrm ?_
 refine Ad<|h1 _ _ ?_
 rcases bft z2 with e8 | e8
 ·have p0a:=zP hz2 e8
  have f1a:=ifP p0a hr
  refine wp_cond_true (Ai (evb rfl e8))<|Ae<|sV (Aa rfl) ?_
  refine sV (Bi (vals:=[(0,.int .i64 x1)]) (cells:=[.int .i64 x1]) (by rfl) (by kernel_rfl)) ?_
  refine sV (Ks ni_258 rfl) ?_
  refine NM rfl ?_
  obtain rfl:=sj f1a
  exact ⟨rfl,Ei (Ext.refl _)⟩
 ·have p9:=zN hz2 e8
  have f2a:=ifN p9 hr
  refine wp_cond_false (Ai (evb rfl e8))<|wp_skip ?_
  obtain rfl:=sj f2a
  exact Mp rfl Res.nil (Gs (Ext.refl _) rfl)
theorem Kz (x0:Nat) (A1:Option Addr) (c2:Nat) (w:World) (hT:TB w) (n3:RU w A1 c2 x0) (r:Except Int (Nat)) (hr:Hy x0=some r) :
  Calls Tryz.prog 225 #[.slice A1 (sz x0) c2] w (RetE 258 Jp w r):=by
 unfold Hy at hr
 go_enter Tryz.func225,Tryz.ntmps225
 refine wp_seq_k fun K4 h4=>Ae<|sV (Ac rfl) ?_
 refine Ad<|h4 _ _<|wp_seq_k fun K5 h5=>Ae<|sV (Aa rfl) ?_
 refine sV (Ax AU rfl) ?_
 refine sb (FZ rfl rfl) fun z6 hz6=>?_
 refine nrm ?_
 obtain rfl:z6=decide ((sz x0:Int)≤1024):=bz hz6
 rcases BR hr with ⟨r7,h8,f9⟩ | ⟨r7,h8,rfl⟩
 ·refine scO (Af Lv (by rfl)) (IF (decide ((sz x0:Int)≤1024)) 2 w hT  (.ok r7) h8) ?_
  rintro _ w1 E0a rfl
  refine nrm ?_
  refine Ad<|h5 _ _<|wp_seq_k fun K1a h1a=>Ae<|sV (Aa rfl) ?_
  obtain ⟨r2a,h3a,f4a⟩:=Ab f9
  refine sc (Af en_256 (by rfl)) (c_slices_Clone_nat_limbs x0 A1 c2 w1 (tbx E0a hT) (n3.ext E0a) r2a h3a) ?_
  rintro _ w2 E5a ⟨A6a,c7a,rfl,n8a⟩
  refine nrm ?_
  have X9a:=xtr E0a E5a
  refine sV (Ac rfl) ?_
  refine Ad<|h1a _ _<|wp_ret ?_
  obtain rfl:=sj f4a
  exact fin rfl (Res.tmp rfl Res.nil) (Gs X9a ⟨A6a,c7a,rfl,n8a⟩)
 ·refine scP (Af Lv (by rfl)) (IF (decide ((sz x0:Int)≤1024)) 2 w hT  (.error r7) h8) fun w1 E0a=>?_
  exact ⟨rfl,Ei E0a⟩
theorem c_slices_IndexFunc_Nat__2__nat_taken_1 (x0_0:Nat) (x0_1:Nat) (bp0:Nat) (A1:Option Addr) (c2:Nat) (A4:Option Addr) (c5:Nat) (w:World) (hT:TB w) (n3:RU w A1 c2 x0_0) (n6:RU w A4 c5 x0_1) (q7:Bx w bp0 23 [.slice A1 (sz x0_0) c2,.slice A4 (sz x0_1) c5]) (r:Int) (hr:BX x0_0 x0_1=some r) :
  Calls Tryz.prog 274 #[.slice (some ⟨bp0,0,none⟩) 2 2,.func (.func 255) #[] #[]] w (Ret FQ w r):=by
 unfold BX at hr
 go_enter Tryz.func274,Tryz.ntmps274
 refine wp_seq_k fun K8 h8=>Ae<|sV (Ac rfl) ?_
 refine Ad<|h8 _ _<|wp_seq_k fun K9 h9=>wp_seq_k fun K3a h3a=>Ae<|sV (Aa rfl) ?_
 refine sV (Ax LI rfl) ?_
 refine sV (Aa rfl) ?_
 refine Ad<|h3a _ _ ?_
 apply wp_block
 refine HQ<|Ba<|wp_seq_k fun K4a h4a=>Ae<|sV (Kx (v:=.bool true) (CK rfl rfl) (by rfl)) ?_
 refine Ad<|h4a _ _<|wp_seq_k fun K5a h5a=>wp_cond_true (Ai (evb rfl rfl))<|wp_skip<|h5a _ _<|wp_seq_k fun K6a h6a=>?_
 apply wp_block
 refine wp_seq_k fun K7a h7a=>Ae<|sV (Aa rfl) ?_
 refine sV (Ac rfl) ?_
 refine Ad<|h7a _ _<|wp_seq_k fun K8a h8a=>Ae<|sV (Aa rfl) ?_
 refine sV (Aa rfl) ?_
 refine sV (Aa rfl) ?_
 refine sV (IY (o':=0) LI Nj rfl rfl (by decide) (by decide) (by decide)) ?_
 refine sV (Ag CW rfl (Bx.cell q7 rfl)) ?_
 obtain ⟨r9a,h3c,f0b⟩:=Ab hr
 refine sc (Hs (first:=[]) (cap:=[]) (args:=[.slice A1 (sz x0_0) c2]) Nl (by rfl) (by rfl)) (JC x0_0 A1 c2 w hT n3 r9a h3c) ?_
 rintro _ w1 E0a rfl
 refine nrm ?_
 refine Ad<|h8a _ _ ?_
 rcases bft r9a with e1a | e1a
 ·have p4c:=e1a
  have f5c:=ifP p4c f0b
  refine wp_cond_true (Ai (evb rfl e1a))<|wp_seq_k fun K1b h1b=>Ae<|sV (Aa rfl) ?_
  refine sV (Ac rfl) ?_
  refine Ad<|h1b _ _<|wp_ret ?_
  obtain rfl:=sj f5c
  exact fin rfl (Res.tmp rfl Res.nil) (Ak E0a rfl)
 ·have p6c:=bF e1a
  have f7c:=ifN p6c f0b
  refine wp_cond_false (Ai (evb rfl e1a))<|wp_skip<|h6a _ _<|Ae<|sV (AO (c:=1) rfl rfl (by decide)) ?_
  refine sV (Aa rfl) ?_
  refine Ad<|Ba<|wp_seq_k fun K2b h2b=>Ae<|sV (Kx (v:=.bool true) (CK rfl rfl) (by rfl)) ?_
  refine Ad<|h2b _ _<|wp_seq_k fun K3b h3b=>wp_cond_true (Ai (evb rfl rfl))<|wp_skip<|h3b _ _<|wp_seq_k fun K4b h4b=>?_
  apply wp_block
  refine wp_seq_k fun K5b h5b=>Ae<|sV (Aa rfl) ?_
  refine sV (Ac rfl) ?_
  refine Ad<|h5b _ _<|wp_seq_k fun K6b h6b=>Ae<|sV (Aa rfl) ?_
  refine sV (Aa rfl) ?_
  refine sV (Aa rfl) ?_
  refine sV (IY (o':=1) LI Nj rfl rfl (by decide) (by decide) (by decide)) ?_
  refine sV (Ag CW rfl (Bx.cell (q7.ext E0a) rfl)) ?_
  obtain ⟨r7b,h8c,f8b⟩:=Ab f7c
  refine sc (Hs (first:=[]) (cap:=[]) (args:=[.slice A4 (sz x0_1) c5]) Nl (by rfl) (by rfl)) (JC x0_1 A4 c5 w1 (tbx E0a hT) (n6.ext E0a) r7b h8c) ?_
  rintro _ w2 E9c rfl
  refine nrm ?_
  have X9b:=xtr E0a E9c
  refine Ad<|h6b _ _ ?_
  rcases bft r7b with e2a | e2a
  ·have p0d:=e2a
   have f1d:=ifP p0d f8b
   refine wp_cond_true (Ai (evb rfl e2a))<|wp_seq_k fun K0c h0c=>Ae<|sV (Aa rfl) ?_
   refine sV (Ac rfl) ?_
   refine Ad<|h0c _ _<|wp_ret ?_
   obtain rfl:=sj f1d
   exact fin rfl (Res.tmp rfl Res.nil) (Ak X9b rfl)
  ·have p2d:=bF e2a
   have f3d:=ifN p2d f8b
   refine wp_cond_false (Ai (evb rfl e2a))<|wp_skip<|h4b _ _<|Ae<|sV (AO (c:=2) rfl rfl (by decide)) ?_
   refine sV (Aa rfl) ?_
   refine Ad<|Ba<|wp_seq_k fun K1c h1c=>Ae<|sV (Kx (v:=.bool false) (CK rfl rfl) (by rfl)) ?_
   refine Ad<|h1c _ _<|wp_seq_k fun K4d h4d=>wp_cond_false (Ai (evb rfl rfl))<|wp_exit ?_
   simp only [Exit.then,Exit.inBlock,↓reduceIte,Nat.reduceEqDiff]
   refine h9 _ _<|wp_seq_k fun K2c h2c=>Ae<|sV (Ac rfl) ?_
   refine Ad<|h2c _ _<|wp_ret ?_
   obtain rfl:=sj f3d
   exact fin rfl (Res.tmp rfl Res.nil) (Ak X9b rfl)
theorem c_slices_ContainsFunc_Nat__2__nat_taken_1 (x0_0:Nat) (x0_1:Nat) (bp0:Nat) (A1:Option Addr) (c2:Nat) (A4:Option Addr) (c5:Nat) (w:World) (hT:TB w) (n3:RU w A1 c2 x0_0) (n6:RU w A4 c5 x0_1) (q7:Bx w bp0 23 [.slice A1 (sz x0_0) c2,.slice A4 (sz x0_1) c5]) (r:Bool) (hr:BH x0_0 x0_1=some r) :
  Calls Tryz.prog 254 #[.slice (some ⟨bp0,0,none⟩) 2 2,.func (.func 255) #[] #[]] w (Ret Fe w r):=by
 unfold BH at hr
 go_enter Tryz.func254,Tryz.ntmps254
 refine wp_seq_k fun K8 h8=>Ae<|sV (Ac rfl) ?_
 refine Ad<|h8 _ _<|wp_seq_k fun K9 h9=>Ae<|sV (Aa rfl) ?_
 refine sV (Aa rfl) ?_
 obtain ⟨r1a,h2a,f3a⟩:=Ab hr
 refine sc (Af en_274 (by rfl)) (c_slices_IndexFunc_Nat__2__nat_taken_1 x0_0 x0_1 bp0 A1 c2 A4 c5 w hT n3 n6 q7 r1a h2a) ?_
 rintro _ w1 E4a rfl
 refine nrm ?_
 refine sb (Fl rfl rfl) fun z0a hz0a=>?_
 refine nrm ?_
 refine sV (Ac rfl) ?_
 refine Ad<|h9 _ _<|wp_ret ?_
 obtain rfl:z0a=decide (0≤r1a):=bz hz0a
 obtain rfl:=sj f3a
 exact fin rfl (Res.tmp rfl Res.nil) (Ak E4a rfl)
theorem Jb (x0_0:Nat) (x0_1:Nat) (bp0:Nat) (A1:Option Addr) (c2:Nat) (A4:Option Addr) (c5:Nat) (w:World) (hT:TB w) (n3:RU w A1 c2 x0_0) (n6:RU w A4 c5 x0_1) (q7:Bx w bp0 23 [.slice A1 (sz x0_0) c2,.slice A4 (sz x0_1) c5]) (r:Except Int (Unit)) (hr:Gi x0_0 x0_1=some r) :
  Calls Tryz.prog 223 #[.slice (some ⟨bp0,0,none⟩) 2 2] w (RetE 258 KS w r):=by
 unfold Gi at hr
 go_enter Tryz.func223,Tryz.ntmps223
 refine Ae<|sV (Aa rfl) ?_
 obtain ⟨r8,h9,f5a⟩:=Ab hr
 refine sc (Af en_254 (by rfl)) (c_slices_ContainsFunc_Nat__2__nat_taken_1 x0_0 x0_1 bp0 A1 c2 A4 c5 w hT n3 n6 q7 r8 h9) ?_
 rintro _ w1 E0a rfl
 refine nrm ?_
 refine sb (FD rfl) fun z1a hz1a=>?_
 refine nrm ?_
 obtain rfl:z1a=decide (¬(r8=true)):=bz hz1a
 rcases BR f5a with ⟨r2a,h3a,f6a⟩ | ⟨r2a,h3a,rfl⟩
 ·refine scO (Af Lv (by rfl)) (IF (decide (¬(r8=true))) 1 w1 (tbx E0a hT)  (.ok r2a) h3a) ?_
  rintro _ w2 E4a rfl
  refine nrm ?_
  have X7a:=xtr E0a E4a
  refine Ad ?_
  obtain rfl:=sj f6a
  exact Mp rfl Res.nil (Gs X7a rfl)
 ·refine scP (Af Lv (by rfl)) (IF (decide (¬(r8=true))) 1 w1 (tbx E0a hT)  (.error r2a) h3a) fun w2 E4a=>?_
  have X8a:=xtr E0a E4a
  exact ⟨rfl,Ei X8a⟩
theorem He (x0:Al) (x1:Int) (x2:Int) (x3:Al) (A1:Option Addr) (c2:Nat) (A4:Option Addr) (c5:Nat) (w:World) (hT:TB w) (n3:RU w A1 c2 x0.Man.Abs) (n6:RU w A4 c5 x3.Man.Abs) (r:Bool) (hr:Bv x0 x1 x2 x3=some r) :
  Calls Tryz.prog 50 #[.agg #[.bool x0.Man.Neg,.slice A1 (sz x0.Man.Abs) c2,.int .i64 x0.Exp],.int .i64 x1,.int .i64 x2,.agg #[.bool x3.Man.Neg,.slice A4 (sz x3.Man.Abs) c5,.int .i64 x3.Exp]] w (Ret Fe w r):=by
 unfold Bv at hr
 go_enter Tryz.func50,Tryz.ntmps50
 refine wp_seq_k fun K7 h7=>Ae<|Ch rfl rfl fun b8 w1 E9 g0h q1b=>?_
 refine nrm ?_
 refine Ch rfl rfl fun b1h w2 E9a g4d q5d=>?_
 refine nrm ?_
 have g2h:=nlt E9.size g4d
 have X2a:=xtr E9 E9a
 refine sV (Ac rfl) ?_
 refine Ad<|h7 _ _<|wp_seq_k fun K2b h2b=>wp_seq_k fun K3b h3b=>Ae<|sV (Aa rfl) ?_
 refine sb (Ik rfl rfl) fun z5a hz5a=>?_
 refine nrm ?_
 refine Ad<|h3b _ _ ?_
 rcases bft z5a with e3a | e3a
 ·have p6d:=zP hz5a e3a
  have f7d:=ifP p6d hr
  refine wp_cond_true (Ai (evb rfl e3a))<|wp_seq_k fun K4b h4b=>Ae<|sV (Aa rfl) ?_
  refine sV (Aa rfl) ?_
  refine sb (BE rfl rfl) fun z6a hz6a=>?_
  refine nrm ?_
  refine sV (Aa rfl) ?_
  obtain ⟨m8d,h5b,f9d⟩:=Ab f7d
  refine BB 8 (fun l l' w'=>∃(t6b:Value) (t7b:Value) (t8b:Value),UpdS [] w2 w'∧l'=((((l.set 16 t6b).set 17 t7b).set 18 t8b).set 19 (.bool m8d))) ?_ ?_
  ·intro HJ134
   rcases bft z6a with e1a | e1a
   ·have p0e:=zP hz6a e1a
    have f1e:=ifP p0e h5b
    refine sV (Ao BG rfl (q1b.ext E9a) rfl) ?_ (hw:=wgT rfl e1a)
    refine sV (Bi (vals:=[]) (cells:=[.bool false,.slice none 0 0,.int .i64 0]) (by rfl) (by kernel_rfl)) ?_ (hw:=wgT rfl e1a)
    obtain ⟨r9b,h2e,f3e⟩:=Ab f1e
    refine sc (Af KL (by rfl)) (De x0 (⟨(⟨false,0⟩:Aj),0⟩:Al) A1 c2 none 0 w2 (tbx X2a hT) (n3.ext X2a) (RU.nil _) r9b h2e) ?_ (hw:=wgT rfl e1a)
    rintro _ w3 E4e rfl
    refine nrm ?_
    refine sV (Aw (evb rfl e1a) rfl) ?_
    obtain rfl:=sj f3e
    exact HJ134 _ _ ⟨(.agg #[.bool x0.Man.Neg,.slice A1 (sz x0.Man.Abs) c2,.int .i64 x0.Exp]),(.agg #[.bool false,.slice none 0 0,.int .i64 0]),(.bool r9b),((UpdS.refl _ _).ext E4e),(by simp only [S0,S1]<;>rfl)⟩
   ·have p5e:=zN hz6a e1a
    have f6e:=ifN p5e h5b
    refine sP ?_ (hw:=wgF rfl e1a)
    refine sP ?_ (hw:=wgF rfl e1a)
    refine sP ?_ (hw:=wgF rfl e1a)
    refine sV (AB (evb rfl e1a) rfl) ?_
    obtain rfl:=sj f6e
    exact HJ134 _ _ ⟨uu,uu,uu,(UpdS.refl _ _),(by simp only [S0,S1]<;>rfl)⟩
  ·rintro l' w3 ⟨t6b,t7b,t8b,U7e,hq'⟩ l'' hl
   rw [hq'] at hl
   clear hq'
   simp only [S0,S1] at hl
   subst hl
   have X8e:=HU X2a U7e (X2a).size al0
   refine sV (Ac rfl) ?_
   refine Ad<|h4b _ _<|wp_ret ?_
   obtain rfl:=sj f9d
   exact fin rfl (Res.tmp rfl Res.nil) (Ak X8e rfl)
 ·have p9e:=zN hz5a e3a
  have f0f:=ifN p9e hr
  refine wp_cond_false (Ai (evb rfl e3a))<|wp_skip<|h2b _ _<|wp_seq_k fun K0c h0c=>Ae<|sV (Ao BG rfl q5d rfl) ?_
  obtain ⟨r4a,h1f,f2f⟩:=Ab f0f
  refine sc (Af en_134 (by rfl)) (c_sorobanref04_Fits x3 A4 c5 w2 (tbx X2a hT) (n6.ext X2a) r4a h1f) ?_
  rintro _ w3 E1c ⟨A2c,c3c,rfl,n3f⟩
  refine nrm ?_
  have X4c:=xtr X2a E1c
  refine AE Nw fun b4f w4 E5f g5c q6f=>?_
  refine nrm ?_
  have g3h:=nlt X4c.size g5c
  refine AA Mq rfl rfl q6f rfl rfl rfl rfl (by simp only [SP0,SP1,S0,S1,Nat.reduceAdd];rfl) fun w5 U7f q6c=>?_
  have F0b:=belU E5f U7f g5c
  have X7a:=xtr X4c F0b
  refine Ad<|h0c _ _<|wp_seq_k fun K7c h7c=>Ae<|sV (Aa rfl) ?_
  refine sV (Ah (o':=3) fa_154_1 rfl rfl) ?_
  refine sV (Ag EG rfl (Bx.cell q6c rfl)) ?_
  refine sb (BE rfl rfl) fun z8a hz8a=>?_
  refine nrm ?_
  refine sV (Aa rfl) ?_
  obtain ⟨m8f,h8c,f9f⟩:=Ab f2f
  refine BB 10 (fun l l' w'=>∃(t9c:Value) (t0d:Value) (t1d:Value) (t2d:Value),UpdS [] w5 w'∧l'=(((((l.set 27 t9c).set 28 t0d).set 29 t1d).set 30 t2d).set 31 (.bool m8f))) ?_ ?_
  ·intro HJ102
   rcases bft z8a with e0a | e0a
   ·have p0g:=zP hz8a e0a
    have f1g:=ifP p0g h8c
    have q2g:=((q1b.ext E9a).ext E1c).ext F0b
    refine sV (Ao BG rfl q2g rfl) ?_ (hw:=wgT rfl e0a)
    refine sV (Ah (o':=0) fa_154_0 rfl rfl) ?_ (hw:=wgT rfl e0a)
    refine sV (AL BG rfl q6c (by simp only [List.drop_zero,List.take_succ_cons,List.take_zero];rfl) rfl) ?_ (hw:=wgT rfl e0a)
    obtain ⟨r3d,h3g,f4g⟩:=Ab f1g
    refine sc (Af KL (by rfl)) (De x0 r4a.D A1 c2 A2c c3c w5 (tbx X7a hT) (n3.ext X7a) (n3f.ext F0b) r3d h3g) ?_ (hw:=wgT rfl e0a)
    rintro _ w6 E5g rfl
    refine nrm ?_
    refine sV (Aw (evb rfl e0a) rfl) ?_
    obtain rfl:=sj f4g
    exact HJ102 _ _ ⟨(.agg #[.bool x0.Man.Neg,.slice A1 (sz x0.Man.Abs) c2,.int .i64 x0.Exp]),(.pointer (some ⟨b4f,0,none⟩)),(.agg #[.bool r4a.D.Man.Neg,.slice A2c (sz r4a.D.Man.Abs) c3c,.int .i64 r4a.D.Exp]),(.bool r3d),((UpdS.refl _ _).ext E5g),(by simp only [S0,S1]<;>rfl)⟩
   ·have p6g:=zN hz8a e0a
    have f7g:=ifN p6g h8c
    refine sP ?_ (hw:=wgF rfl e0a)
    refine sP ?_ (hw:=wgF rfl e0a)
    refine sP ?_ (hw:=wgF rfl e0a)
    refine sP ?_ (hw:=wgF rfl e0a)
    refine sV (AB (evb rfl e0a) rfl) ?_
    obtain rfl:=sj f7g
    exact HJ102 _ _ ⟨uu,uu,uu,uu,(UpdS.refl _ _),(by simp only [S0,S1]<;>rfl)⟩
  ·rintro l' w6 ⟨t9c,t0d,t1d,t2d,U8g,hq'⟩ l'' hl
   rw [hq'] at hl
   clear hq'
   simp only [S0,S1] at hl
   subst hl
   have X9g:=HU X7a U8g (X7a).size al0
   refine sV (Ac rfl) ?_
   refine Ad<|h7c _ _<|wp_ret ?_
   obtain rfl:=sj f9f
   exact fin rfl (Res.tmp rfl Res.nil) (Ak X9g rfl)
end Go.Proofs

