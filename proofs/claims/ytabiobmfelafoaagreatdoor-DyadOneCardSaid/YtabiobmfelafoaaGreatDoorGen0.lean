import Derived.Test.YtabiobmfelafoaaGreatDoorLeafN
namespace Go.Proofs
set_option linter.unusedVariables false
set_option linter.unusedSimpArgs false
set_option maxHeartbeats 4000000
open Go.RowKit Go.Sb Go.Proofs.Sbn
theorem c_sorobanref03_ValidInt (x0:AL) (A1:Option Addr) (c2:Nat) (w:World) (hT:TB w) (n3:RLu w A1 c2 x0.Abs) (r:Bool) (hr:Ci x0=some r) :
  Calls Tryz.prog 61 #[.agg #[.bool x0.Neg,.slice A1 x0.Abs.length c2]] w (Ret Fy w r):=by
 unfold Ci at hr
 go_enter Tryz.func61,Tryz.ntmps61
 refine wp_seq_k fun K4 h4=>Af<|BT rfl rfl fun b5 w1 E6 g7 q8=>?_
 refine nrm ?_
 refine sV (Ac rfl) ?_
 refine Ad<|h4 _ _<|wp_seq_k fun K9 h9=>Af<|sV (Ai (o':=1) Dl rfl rfl) ?_
 refine sV (Ag EQ rfl (Bx.cell q8 rfl)) ?_
 obtain ⟨r9a,h2c,f3c⟩:=Ab hr
 refine sc (Ae en_143 (by rfl)) (GC x0.Abs A1 c2 w1 (tbx E6 hT) (n3.ext E6) r9a h2c) ?_
 rintro _ w2 E3a rfl
 refine nrm ?_
 have X4c:=xtr E6 E3a
 refine sV (Aa rfl) ?_
 obtain ⟨m5c,h0b,f6c⟩:=Ab f3c
 refine Ca 14 (fun l l' w'=>∃(t1b:Value) (t2b:Value) (t3b:Value) (t4b:Value) (t5b:Value) (t6b:Value) (t7b:Value) (t8b:Value) (t9b:Value),w2=w'∧l'=((((((((((l.set 7 t1b).set 8 t2b).set 9 t3b).set 10 t4b).set 11 t5b).set 12 t6b).set 13 t7b).set 14 t8b).set 15 t9b).set 16 (.bool m5c))) ?_ ?_
 ·intro HJ55
  rcases bft r9a with e0a | e0a
  ·have p7c:=e0a
   have f8c:=ifP p7c h0b
   refine sV (Ai (o':=0) Ia rfl rfl) ?_ (hw:=wgT rfl e0a)
   refine sV (Ag Ik rfl (Bx.cell (q8.ext E3a) rfl)) ?_ (hw:=wgT rfl e0a)
   refine sb (ER rfl) ?_ (hw:=wgT rfl e0a)
   intro z2a hz2a
   refine nrm ?_
   refine sV (Aa rfl) ?_ (hw:=wgT rfl e0a)
   obtain ⟨m0c,h1c,f9c⟩:=Ab f8c
   refine Ca 13 (fun l l' w'=>∃(t4a:Value) (t5a:Value) (t6a:Value) (t7a:Value),w2=w'∧l'=(((((l.set 11 t4a).set 12 t5a).set 13 t6a).set 14 t7a).set 15 (.bool m0c))) ?_ ?_
   ·intro HJ76
    rcases bft z2a with e1a | e1a
    ·have p0d:=zP hz2a e1a
     have f1d:=ifP p0d h1c
     refine sP ?_ (hw:=wgF rfl e1a)
     refine sP ?_ (hw:=wgF rfl e1a)
     refine sP ?_ (hw:=wgF rfl e1a)
     refine sP ?_ (hw:=wgF rfl e1a)
     refine sV (AB (evb rfl e1a) rfl) ?_ (hw:=wgT rfl e0a)
     obtain rfl:=sj f1d
     exact HJ76 _ _ ⟨uu,uu,uu,uu,rfl,(by simp only [S0,S1]<;>rfl)⟩
    ·have p2d:=zN hz2a e1a
     have f3d:=ifN p2d h1c
     refine sV (Ai (o':=1) Dl rfl rfl) ?_ (hw:=wgT rfl e1a)
     refine sV (Ag EQ rfl (Bx.cell (q8.ext E3a) rfl)) ?_ (hw:=wgT rfl e1a)
     refine sV (AD CA rfl) ?_ (hw:=wgT rfl e1a)
     refine sb (Fs rfl rfl) ?_ (hw:=wgT rfl e1a)
     intro z8a hz8a
     refine nrm ?_
     refine sV (AF (evb rfl e1a) rfl) ?_ (hw:=wgT rfl e0a)
     obtain rfl:z8a=decide (0<(x0.Abs.length:Int)):=bz hz8a
     obtain rfl:=sj f3d
     exact HJ76 _ _ ⟨(.pointer (some ⟨b5,1,none⟩)),(.slice A1 x0.Abs.length c2),(.int .i64 (x0.Abs.length:Int)),(.bool (decide (0<(x0.Abs.length:Int)))),rfl,(by simp only [S0,S1]<;>rfl)⟩
   ·rintro l' _ ⟨t4a,t5a,t6a,t7a,rfl,hq'⟩ l'' hl
    rw [hq'] at hl
    clear hq'
    simp only [S0,S1] at hl
    subst hl
    refine sV (AB (evb rfl e0a) rfl) ?_
    obtain rfl:=sj f9c
    exact HJ55 _ _ ⟨(.pointer (some ⟨b5,0,none⟩)),(.bool x0.Neg),(.bool z2a),(.bool z2a),t4a,t5a,t6a,t7a,(.bool m0c),rfl,(by simp only [S0,S1]<;>rfl)⟩
  ·have p4d:=bF e0a
   have f5d:=ifN p4d h0b
   refine sP ?_ (hw:=wgF rfl e0a)
   refine sP ?_ (hw:=wgF rfl e0a)
   refine sP ?_ (hw:=wgF rfl e0a)
   refine sP ?_ (hw:=wgF rfl e0a)
   refine sP ?_
   refine sP ?_
   refine sP ?_
   refine sP ?_
   refine sP ?_ (hw:=wgF rfl e0a)
   refine sV (AF (evb rfl e0a) rfl) ?_
   obtain rfl:=sj f5d
   exact HJ55 _ _ ⟨uu,uu,uu,uu,uu,uu,uu,uu,uu,rfl,(by simp only [S0,S1]<;>rfl)⟩
 ·rintro l' _ ⟨t1b,t2b,t3b,t4b,t5b,t6b,t7b,t8b,t9b,rfl,hq'⟩ l'' hl
  rw [hq'] at hl
  clear hq'
  simp only [S0,S1] at hl
  subst hl
  refine sV (Ac rfl) ?_
  refine Ad<|h9 _ _<|wp_ret ?_
  obtain rfl:=sj f6c
  exact fin rfl (Res.tmp rfl Res.nil) (Ak X4c rfl)
theorem c_sorobanref04_Valid (x0:Aq) (A1:Option Addr) (c2:Nat) (w:World) (hT:TB w) (n3:RLu w A1 c2 x0.Man.Abs) (r:Bool) (hr:CK x0=some r) :
  Calls Tryz.prog 45 #[.agg #[.bool x0.Man.Neg,.slice A1 x0.Man.Abs.length c2,.int .i64 x0.Exp]] w (Ret Fy w r):=by
 unfold CK at hr
 go_enter Tryz.func45,Tryz.ntmps45
 refine wp_seq_k fun K4 h4=>Af<|BT rfl rfl fun b5 w1 E6 g7 q8=>?_
 refine nrm ?_
 refine sV (Ac rfl) ?_
 refine Ad<|h4 _ _<|wp_seq_k fun K9 h9=>wp_seq_k fun K3b h3b=>Af<|sV (Ai (o':=0) Gd rfl rfl) ?_
 refine sV (AH FY rfl q8 (by simp only [List.drop_zero,List.take_succ_cons,List.take_zero];rfl) rfl) ?_
 obtain ⟨r0d,h1d,f4b⟩:=Ab hr
 refine sc (Ae en_61 (by rfl)) (c_sorobanref03_ValidInt x0.Man A1 c2 w1 (tbx E6 hT) (n3.ext E6) r0d h1d) ?_
 rintro _ w2 E2a rfl
 refine nrm ?_
 have X3a:=xtr E6 E2a
 refine sb (ER rfl) fun z6a hz6a=>?_
 refine nrm ?_
 refine Ad<|h3b _ _ ?_
 rcases bft z6a with e4a | e4a
 ·have p2d:=zP hz6a e4a
  have f3d:=ifP p2d f4b
  refine wp_cond_true (Aj (evb rfl e4a))<|wp_seq_k fun K5b h5b=>Af<|sV (Ac rfl) ?_
  refine Ad<|h5b _ _<|wp_ret ?_
  obtain rfl:=sj f3d
  exact fin rfl (Res.tmp rfl Res.nil) (Ak X3a rfl)
 ·have p4d:=zN hz6a e4a
  have f6b:=ifN p4d f4b
  refine wp_cond_false (Aj (evb rfl e4a))<|wp_skip<|h9 _ _<|wp_seq_k fun K7b h7b=>wp_seq_k fun K8b h8b=>Af<|sV (Ai (o':=0) Gd rfl rfl) ?_
  refine sV (Ai (o':=1) Dl rfl rfl) ?_
  refine sV (Ag EQ rfl (Bx.cell (q8.ext E2a) rfl)) ?_
  refine sV (AD CA rfl) ?_
  refine sb (Ce rfl rfl) fun z7a hz7a=>?_
  refine nrm ?_
  refine Ad<|h8b _ _ ?_
  rcases bft z7a with e5a | e5a
  ·have p5d:=zP hz7a e5a
   have f6d:=ifP p5d f6b
   refine wp_cond_true (Aj (evb rfl e5a))<|wp_seq_k fun K9b h9b=>Af<|sV (Ai (o':=2) FH rfl rfl) ?_
   refine sV (Ag Ey rfl (Bx.cell (q8.ext E2a) rfl)) ?_
   refine sb (Ce rfl rfl) fun z9a hz9a=>?_
   refine nrm ?_
   refine sV (Ac rfl) ?_
   refine Ad<|h9b _ _<|wp_ret ?_
   obtain rfl:z9a=decide (x0.Exp=0):=bz hz9a
   obtain rfl:=sj f6d
   exact fin rfl (Res.tmp rfl Res.nil) (Ak X3a rfl)
  ·have p7d:=zN hz7a e5a
   have f8d:=ifN p7d f6b
   refine wp_cond_false (Aj (evb rfl e5a))<|wp_skip<|h7b _ _<|wp_seq_k fun K0c h0c=>Af<|sV (Ai (o':=0) Gd rfl rfl) ?_
   refine sV (Ai (o':=1) Dl rfl rfl) ?_
   refine sV (Ag EQ rfl (Bx.cell (q8.ext E2a) rfl)) ?_
   obtain ⟨r9d,h0e,f1e⟩:=Ab f8d
   refine sc (Ae NP (by rfl)) (Gh x0.Man.Abs 0 A1 c2 w2 (tbx X3a hT) (n3.ext X3a) r9d h0e) ?_
   rintro _ w3 E0b rfl
   refine nrm ?_
   have X2e:=xtr X3a E0b
   refine sb (Ce rfl rfl) fun z8a hz8a=>?_
   refine nrm ?_
   refine sV (Aa rfl) ?_
   obtain ⟨m1c,h2c,f3e⟩:=Ab f1e
   refine Ca 10 (fun l l' w'=>∃(t3c:Value) (t4c:Value) (t5c:Value),w3=w'∧l'=((((l.set 21 t3c).set 22 t4c).set 23 t5c).set 24 (.bool m1c))) ?_ ?_
   ·intro HJ63
    rcases bft z8a with e0a | e0a
    ·have p4e:=zP hz8a e0a
     have f5e:=ifP p4e h2c
     refine sV (Ai (o':=2) FH rfl rfl) ?_ (hw:=wgT rfl e0a)
     refine sV (Ag Ey rfl (Bx.cell ((q8.ext E2a).ext E0b) rfl)) ?_ (hw:=wgT rfl e0a)
     refine sb (EP rfl rfl) ?_ (hw:=wgT rfl e0a)
     intro z1b hz1b
     refine nrm ?_
     refine sV (AB (evb rfl e0a) rfl) ?_
     obtain rfl:z1b=decide ((-1048576)≤x0.Exp):=bz hz1b
     obtain rfl:=sj f5e
     exact HJ63 _ _ ⟨(.pointer (some ⟨b5,2,none⟩)),(.int .i64 x0.Exp),(.bool (decide ((-1048576)≤x0.Exp))),rfl,(by simp only [S0,S1]<;>rfl)⟩
    ·have p6e:=zN hz8a e0a
     have f7e:=ifN p6e h2c
     refine sP ?_ (hw:=wgF rfl e0a)
     refine sP ?_ (hw:=wgF rfl e0a)
     refine sP ?_ (hw:=wgF rfl e0a)
     refine sV (AF (evb rfl e0a) rfl) ?_
     obtain rfl:=sj f7e
     exact HJ63 _ _ ⟨uu,uu,uu,rfl,(by simp only [S0,S1]<;>rfl)⟩
   ·rintro l' _ ⟨t3c,t4c,t5c,rfl,hq'⟩ l'' hl
    rw [hq'] at hl
    clear hq'
    simp only [S0,S1] at hl
    subst hl
    refine sV (Aa rfl) ?_
    obtain ⟨m8e,h6c,f9e⟩:=Ab f3e
    refine Ca 15 (fun l l' w'=>∃(t7c:Value) (t8c:Value) (t9c:Value),w3=w'∧l'=((((l.set 26 t7c).set 27 t8c).set 28 t9c).set 29 (.bool m8e))) ?_ ?_
    ·intro HJ83
     rcases bft m1c with e1a | e1a
     ·have p0f:=e1a
      have f1f:=ifP p0f h6c
      refine sV (Ai (o':=2) FH rfl rfl) ?_ (hw:=wgT rfl e1a)
      refine sV (Ag Ey rfl (Bx.cell ((q8.ext E2a).ext E0b) rfl)) ?_ (hw:=wgT rfl e1a)
      refine sb (IL rfl rfl) ?_ (hw:=wgT rfl e1a)
      intro z2b hz2b
      refine nrm ?_
      refine sV (AB (evb rfl e1a) rfl) ?_
      obtain rfl:z2b=decide (x0.Exp≤1048576):=bz hz2b
      obtain rfl:=sj f1f
      exact HJ83 _ _ ⟨(.pointer (some ⟨b5,2,none⟩)),(.int .i64 x0.Exp),(.bool (decide (x0.Exp≤1048576))),rfl,(by simp only [S0,S1]<;>rfl)⟩
     ·have p2f:=bF e1a
      have f3f:=ifN p2f h6c
      refine sP ?_ (hw:=wgF rfl e1a)
      refine sP ?_ (hw:=wgF rfl e1a)
      refine sP ?_ (hw:=wgF rfl e1a)
      refine sV (AF (evb rfl e1a) rfl) ?_
      obtain rfl:=sj f3f
      exact HJ83 _ _ ⟨uu,uu,uu,rfl,(by simp only [S0,S1]<;>rfl)⟩
    ·rintro l' _ ⟨t7c,t8c,t9c,rfl,hq'⟩ l'' hl
     rw [hq'] at hl
     clear hq'
     simp only [S0,S1] at hl
     subst hl
     refine sV (Ac rfl) ?_
     refine Ad<|h0c _ _<|wp_ret ?_
     obtain rfl:=sj f9e
     exact fin rfl (Res.tmp rfl Res.nil) (Ak X2e rfl)
theorem HL (x0:Bool) (x1:Nat) (A1:Option Addr) (c2:Nat) (w:World) (hT:TB w) (n3:RU w A1 c2 x1) (r:Ah) (hr:Cc x0 x1=some r) :
  Calls Tryz.prog 178 #[.bool x0,.slice A1 (sz x1) c2] w (Ret Lp w r):=by
 unfold Cc at hr
 go_enter Tryz.func178,Tryz.ntmps178
 refine wp_seq_k fun K4 h4=>Af<|Aw Kq fun b5 w1 E6 g7 q8=>?_
 refine nrm ?_
 refine Ad<|h4 _ _<|wp_seq_k fun K9 h9=>Af<|sV (Aa rfl) ?_
 refine sV (Aa rfl) ?_
 obtain ⟨m1a,h3a,f8a⟩:=Ab hr
 refine Ca 6 (fun l l' w'=>∃(t4a:Value) (t5a:Value) (t6a:Value),w1=w'∧l'=((((l.set 7 t4a).set 8 t5a).set 9 t6a).set 10 (.bool m1a))) ?_ ?_
 ·intro HJ23
  rcases bft x0 with e0a | e0a
  ·have p9a:=e0a
   have f0b:=ifP p9a h3a
   refine sV (Aa rfl) ?_ (hw:=wgT rfl e0a)
   refine sV (AD CA rfl) ?_ (hw:=wgT rfl e0a)
   refine sb (Fs rfl rfl) ?_ (hw:=wgT rfl e0a)
   intro z2a hz2a
   refine nrm ?_
   refine sV (AB (evb rfl e0a) rfl) ?_
   obtain rfl:z2a=decide (0<(sz x1:Int)):=bz hz2a
   obtain rfl:=sj f0b
   exact HJ23 _ _ ⟨(.slice A1 (sz x1) c2),(.int .i64 (sz x1:Int)),(.bool (decide (0<(sz x1:Int)))),rfl,(by simp only [S0,S1]<;>rfl)⟩
  ·have p1b:=bF e0a
   have f2b:=ifN p1b h3a
   refine sP ?_ (hw:=wgF rfl e0a)
   refine sP ?_ (hw:=wgF rfl e0a)
   refine sP ?_ (hw:=wgF rfl e0a)
   refine sV (AF (evb rfl e0a) rfl) ?_
   obtain rfl:=sj f2b
   exact HJ23 _ _ ⟨uu,uu,uu,rfl,(by simp only [S0,S1]<;>rfl)⟩
 ·rintro l' _ ⟨t4a,t5a,t6a,rfl,hq'⟩ l'' hl
  rw [hq'] at hl
  clear hq'
  simp only [S0,S1] at hl
  subst hl
  refine sV (Aa rfl) ?_
  refine sV (Bc (vals:=[(0,.bool m1a),(1,.slice A1 (sz x1) c2)]) (cells:=[.bool m1a,.slice A1 (sz x1) c2]) (by rfl) (by kernel_rfl)) ?_
  refine Ax IY rfl rfl q8 rfl rfl rfl rfl (by simp only [SP0,SP1,S0,S1,Nat.reduceAdd];rfl) fun w2 U3b q4b=>?_
  have F7a:=belU E6 U3b g7
  refine Ad<|h9 _ _<|wp_ret ?_
  obtain rfl:=sj f8a
  exact fin rfl (Res.cellN rfl FY q4b rfl rfl Res.nil) (Ak F7a ⟨A1,c2,rfl,(n3.ext F7a)⟩)
theorem Il (x0:Int) (w:World) (hT:TB w) (r:Ah) (hr:Ft x0=some r) :
  Calls Tryz.prog 96 #[.int .i64 x0] w (Ret Lp w r):=by
 unfold Ft at hr
 go_enter Tryz.func96,Tryz.ntmps96
 refine wp_seq_k fun K1 h1=>Af<|Aw Kq fun b2 w1 E3 g4 q5=>?_
 refine nrm ?_
 refine Ad<|h1 _ _<|wp_seq_k fun K6 h6=>wp_seq_k fun K7 h7=>Af<|sV (Aa rfl) ?_
 refine sb (Cm rfl rfl) fun z8 hz8=>?_
 refine nrm ?_
 refine Ad<|h7 _ _ ?_
 rcases bft z8 with e0a | e0a
 ·have p3b:=zP hz8 e0a
  have f4b:=ifP p3b hr
  refine wp_cond_true (Aj (evb rfl e0a))<|wp_seq_k fun K5a h5a=>Af<|sV (Aa rfl) ?_
  refine sV (Oc (c:=wi64 (-x0)) rfl rfl) ?_
  refine sV (AQ (c:=wu64 (wi64 (-x0))) it_3 AO rfl rfl) ?_
  obtain ⟨r6a,h5b,f6b⟩:=Ab f4b
  refine sc (Ae NH (by rfl)) (Gz (wu64 (wi64 (-x0))) w1 (tbx E3 hT)  r6a h5b) ?_
  rintro _ w2 E1a ⟨A7b,c8b,rfl,n9b⟩
  refine nrm ?_
  have X7a:=xtr E3 E1a
  obtain ⟨r0c,h1c,f2c⟩:=Ab f6b
  refine sc (Ae Ou (by rfl)) (HL true r6a A7b c8b w2 (tbx X7a hT) n9b r0c h1c) ?_
  rintro _ w3 E2a ⟨A3c,c4c,rfl,n5c⟩
  refine nrm ?_
  have X6c:=xtr X7a E2a
  refine Ax IY rfl rfl ((q5.ext E1a).ext E2a) rfl rfl rfl rfl (by simp only [SP0,SP1,S0,S1,Nat.reduceAdd];rfl) fun w4 U8a q7c=>?_
  have X8c:=belU X6c U8a g4
  refine Ad<|h5a _ _<|wp_ret ?_
  have n9c:=n5c.upd U8a ((q5.ext E1a).ext E2a) (by decide)
  obtain rfl:=sj f2c
  exact fin rfl (Res.cellN rfl FY q7c rfl rfl Res.nil) (Ak X8c ⟨A3c,c4c,rfl,n9c⟩)
 ·have p0d:=zN hz8 e0a
  have f1d:=ifN p0d hr
  refine wp_cond_false (Aj (evb rfl e0a))<|wp_skip<|h6 _ _<|wp_seq_k fun K9a h9a=>Af<|sV (Aa rfl) ?_
  refine sV (AQ (c:=wu64 x0) it_3 AO rfl rfl) ?_
  obtain ⟨r0b,h2d,f3d⟩:=Ab f1d
  refine sc (Ae NH (by rfl)) (Gz (wu64 x0) w1 (tbx E3 hT)  r0b h2d) ?_
  rintro _ w2 E3a ⟨A4d,c5d,rfl,n6d⟩
  refine nrm ?_
  have X1b:=xtr E3 E3a
  obtain ⟨r7d,h8d,f9d⟩:=Ab f3d
  refine sc (Ae Ou (by rfl)) (HL false r0b A4d c5d w2 (tbx X1b hT) n6d r7d h8d) ?_
  rintro _ w3 E4a ⟨A0e,c1e,rfl,n2e⟩
  refine nrm ?_
  have X3e:=xtr X1b E4a
  refine Ax IY rfl rfl ((q5.ext E3a).ext E4a) rfl rfl rfl rfl (by simp only [SP0,SP1,S0,S1,Nat.reduceAdd];rfl) fun w4 U2b q4e=>?_
  have X5e:=belU X3e U2b g4
  refine Ad<|h9a _ _<|wp_ret ?_
  have n6e:=n2e.upd U2b ((q5.ext E3a).ext E4a) (by decide)
  obtain rfl:=sj f9d
  exact fin rfl (Res.cellN rfl FY q4e rfl rfl Res.nil) (Ak X5e ⟨A0e,c1e,rfl,n6e⟩)
theorem BY (b b':Nat) (v0 v1 v2:Value) (u:Value) (n:Int) {w:World} (qa:Bx w b 27 [v0,v1,v2]) (qb:Bx w b' 33 [u]) :
  CallsD Tryz.prog 135 #[.pointer (some ⟨b,0,none⟩),.pointer (some ⟨b',0,none⟩)] (.panicking [entry 201 n]) w fun e u' w'=>e = .returned (.tuple #[])∧u' = .panicking [{ entry 201 n with recovered:=true }]∧(Upd2 b b' w w'∧Bx w' b 27 [.bool false,.slice none 0 0,.int .i64 0]∧Bx w' b' 33 [.int .i64 n]):=by
 refine Jf Tryz.func135 rfl [.pointer (some ⟨b,0,none⟩),.pointer (some ⟨b',0,none⟩),uu,uu,uu,uu,uu,uu,uu,uu,uu,uu,uu,uu,uu,uu,uu,uu,uu,uu,uu,uu,uu,uu,uu,uu] (by simp [Tryz.ntmps135]) fun c₀ cs hu=>?_
 apply wpS_seq
 refine Pv hu rfl ?_
 simp only [S0,S1]
 refine wpS_of_wp<|wp_seq_k fun K1 h1=>Af<|sV (Aa rfl) ?_
 refine sV (KV Kx rfl) ?_
 refine Ad<|h1 _ _<|wp_cond_true (Aj (evb rfl rfl))<|wp_seq_k fun K2 h2=>Af<|sV (Aa rfl) ?_
 refine sV (Kj Ml rfl) ?_
 refine sV (Aa rfl) ?_
 refine sV (Ap rfl rfl) ?_
 refine sV (Ap rfl rfl) ?_
 refine Aw MP fun b3 w1 E4 g5 q6=>?_
 refine nrm ?_
 have X7:=(Upd2.refl b b' w).ext E4
 refine Ax MJ rfl rfl q6 rfl rfl rfl rfl (by simp only [SP0,SP1,S0,S1,Nat.reduceAdd];rfl) fun w2 U8 q9=>?_
 have X3a:=X7.upd U8 (.inl g5)
 refine sV (Ac rfl) ?_
 refine Ad<|h2 _ _<|wp_seq_k fun K4a h4a=>wp_seq_k fun K5a h5a=>Af<|sV (Aa rfl) ?_
 refine sV (Lb rfl rfl rfl) ?_
 refine Ad<|h5a _ _<|wp_cond_false (Aj (evb rfl rfl))<|wp_skip<|h4a _ _<|wp_seq_k fun K6a h6a=>Af<|Aw FM fun b8c w3 E1a g2b q3b=>?_
 refine nrm ?_
 have g9c:=nlt X3a.size g2b
 have X4b:=X3a.ext E1a
 refine Ad<|h6a _ _<|Ei [6,8] 9 mo rfl fun w4 E0a S5b=>have X6b:=X4b.ext E0a;dA 0 rfl (fun _=>Aa rfl) ?_
 refine dA 1 rfl (fun _=>Aa rfl) ?_
 refine dV 2 rfl (fun _ hw=>Am Bk rfl ((q3b.ext E0a).ext hw) rfl) S5b ?_
 refine dA 3 rfl (fun _=>Ai (o':=0) KW rfl rfl) ?_
 refine dA 5 rfl (fun _=>Bn rfl) ?_
 refine IP #[true,true,true,true,true,true,true,false,false] 2 (fun l l' w'=>UpdS [b] w4 w'∧Bx w' b 27 [.bool false,.slice none 0 0,.int .i64 0]∧l'=(l.set 23 (.int .i64 n))) ?_ ?_
 ·intro HJ38
  refine GF 4 6 (by kernel_rfl) ?_ ?_
  ·refine opV 4 rfl (by rfl) (Ag Ck rfl (Bx.cell ((q9.ext E1a).ext E0a) rfl)) (dnrm ?_)
   refine CF 6 (by kernel_rfl) ?_
   ·have F7b:=belU E4 U8 g5
    refine opK 6 rfl (by decide) (by rfl) DU rfl rfl (((qa.ext F7b).ext E1a).ext E0a) rfl rfl rfl rfl (by simp only [SP0,SP1,S0,S1,Nat.reduceAdd];rfl) fun w5 U8b q9b=>?_
    exact Et (by kernel_rfl) (HJ38 _ _ ⟨((UpdS.refl _ _).upd U8b (.inl im0)),q9b,(by simp only [S0,S1]<;>rfl)⟩)
  ·have F7a:=belU E4 U8 g5
   refine opK 6 rfl (by decide) (by rfl) DU rfl rfl (((qa.ext F7a).ext E1a).ext E0a) rfl rfl rfl rfl (by simp only [SP0,SP1,S0,S1,Nat.reduceAdd];rfl) fun w5 U8a q0c=>?_
   refine CF 4 (by kernel_rfl) ?_
   ·have ne1c:=(Bx.neT ((q9.ext E1a).ext E0a) (((qa.ext F7a).ext E1a).ext E0a) (by decide))
    have q2c:=((q9.ext E1a).ext E0a).upd U8a ne1c
    refine opV 4 rfl (by rfl) (Ag Ck rfl (Bx.cell q2c rfl)) (dnrm ?_)
    exact Et (by kernel_rfl) (HJ38 _ _ ⟨((UpdS.refl _ _).upd U8a (.inl im0)),q0c,(by simp only [S0,S1]<;>rfl)⟩)
 ·rintro l' w5 ⟨U9a,q3c,hq'⟩ l'' hl
  rw [hq'] at hl
  clear hq'
  simp only [S0,S1] at hl
  subst hl
  have X4c:=X6b.updS U9a (alc (.inr (.inl rfl)) al0)
  refine dA 7 rfl (fun _=>Bn rfl) ?_
  have F2a:=belU E4 U8 g5
  have ne0b:=(Bx.neT (((qb.ext F2a).ext E1a).ext E0a) (((qa.ext F2a).ext E1a).ext E0a) (by decide))
  have q5c:=(((qb.ext F2a).ext E1a).ext E0a).updS U9a (nmc ne0b nm0)
  refine dk 8 rfl (by kernel_rfl) (by decide) (by rfl) GA rfl rfl q5c rfl rfl rfl rfl (by simp only [SP0,SP1,S0,S1,Nat.reduceAdd];rfl) fun w6 U1b q6c=>?_
  have X7c:=X4c.upd U1b (.inr (.inr rfl))
  refine CU (by kernel_rfl) ?_
  exact Pw (by kernel_rfl) ⟨rfl,rfl,X7c,(q3c.upd U1b (Ne.symm ne0b)),q6c⟩
theorem Fc:Pj Tryz.prog 135:=by
 intro ar b b' w ha
 subst ha
 refine Jf Tryz.func135 rfl [.pointer (some ⟨b,0,none⟩),.pointer (some ⟨b',0,none⟩),uu,uu,uu,uu,uu,uu,uu,uu,uu,uu,uu,uu,uu,uu,uu,uu,uu,uu,uu,uu,uu,uu,uu,uu] (by simp [Tryz.ntmps135]) fun c₀ cs hu=>?_
 apply wpS_seq
 refine Pl hu rfl ?_
 simp only [S0,S1]
 refine wpS_of_wp<|wp_seq_k fun K1 h1=>Af<|sV (Aa rfl) ?_
 refine sV (Jp Kx rfl) ?_
 refine Ad<|h1 _ _<|wp_cond_false (Aj (evb rfl rfl))<|wp_skip ?_
 exact Ol hu (by kernel_rfl) ⟨rfl,rfl,rfl⟩
theorem HZ (x0:AL) (A1:Option Addr) (c2:Nat) (w:World) (hT:TB w) (n3:RLu w A1 c2 x0.Abs) (r:Bool) (hr:BW x0=some r) :
  Calls Tryz.prog 151 #[.agg #[.bool x0.Neg,.slice A1 x0.Abs.length c2]] w (Ret Fy w r):=by
 unfold BW at hr
 go_enter Tryz.func151,Tryz.ntmps151
 refine wp_seq_k fun K4 h4=>Af<|BT rfl rfl fun b5 w1 E6 g7 q8=>?_
 refine nrm ?_
 refine sV (Ac rfl) ?_
 refine Ad<|h4 _ _<|wp_seq_k fun K9 h9=>Af<|sV (Ai (o':=1) Dl rfl rfl) ?_
 refine sV (Ag EQ rfl (Bx.cell q8 rfl)) ?_
 obtain ⟨r9a,h2c,f3c⟩:=Ab hr
 refine sc (Ae NR (by rfl)) (Ii x0.Abs A1 c2 w1 (tbx E6 hT) (n3.ext E6) r9a h2c) ?_
 rintro _ w2 E3a rfl
 refine nrm ?_
 have X4c:=xtr E6 E3a
 refine sV (Aa rfl) ?_
 obtain ⟨m5c,h0b,f6c⟩:=Ab f3c
 refine Ca 14 (fun l l' w'=>∃(t1b:Value) (t2b:Value) (t3b:Value) (t4b:Value) (t5b:Value) (t6b:Value) (t7b:Value) (t8b:Value) (t9b:Value),w2=w'∧l'=((((((((((l.set 7 t1b).set 8 t2b).set 9 t3b).set 10 t4b).set 11 t5b).set 12 t6b).set 13 t7b).set 14 t8b).set 15 t9b).set 16 (.bool m5c))) ?_ ?_
 ·intro HJ55
  rcases bft r9a with e0a | e0a
  ·have p7c:=e0a
   have f8c:=ifP p7c h0b
   refine sV (Ai (o':=0) Ia rfl rfl) ?_ (hw:=wgT rfl e0a)
   refine sV (Ag Ik rfl (Bx.cell (q8.ext E3a) rfl)) ?_ (hw:=wgT rfl e0a)
   refine sb (ER rfl) ?_ (hw:=wgT rfl e0a)
   intro z2a hz2a
   refine nrm ?_
   refine sV (Aa rfl) ?_ (hw:=wgT rfl e0a)
   obtain ⟨m0c,h1c,f9c⟩:=Ab f8c
   refine Ca 13 (fun l l' w'=>∃(t4a:Value) (t5a:Value) (t6a:Value) (t7a:Value),w2=w'∧l'=(((((l.set 11 t4a).set 12 t5a).set 13 t6a).set 14 t7a).set 15 (.bool m0c))) ?_ ?_
   ·intro HJ76
    rcases bft z2a with e1a | e1a
    ·have p0d:=zP hz2a e1a
     have f1d:=ifP p0d h1c
     refine sP ?_ (hw:=wgF rfl e1a)
     refine sP ?_ (hw:=wgF rfl e1a)
     refine sP ?_ (hw:=wgF rfl e1a)
     refine sP ?_ (hw:=wgF rfl e1a)
     refine sV (AB (evb rfl e1a) rfl) ?_ (hw:=wgT rfl e0a)
     obtain rfl:=sj f1d
     exact HJ76 _ _ ⟨uu,uu,uu,uu,rfl,(by simp only [S0,S1]<;>rfl)⟩
    ·have p2d:=zN hz2a e1a
     have f3d:=ifN p2d h1c
     refine sV (Ai (o':=1) Dl rfl rfl) ?_ (hw:=wgT rfl e1a)
     refine sV (Ag EQ rfl (Bx.cell (q8.ext E3a) rfl)) ?_ (hw:=wgT rfl e1a)
     refine sV (AD CA rfl) ?_ (hw:=wgT rfl e1a)
     refine sb (Fs rfl rfl) ?_ (hw:=wgT rfl e1a)
     intro z8a hz8a
     refine nrm ?_
     refine sV (AF (evb rfl e1a) rfl) ?_ (hw:=wgT rfl e0a)
     obtain rfl:z8a=decide (0<(x0.Abs.length:Int)):=bz hz8a
     obtain rfl:=sj f3d
     exact HJ76 _ _ ⟨(.pointer (some ⟨b5,1,none⟩)),(.slice A1 x0.Abs.length c2),(.int .i64 (x0.Abs.length:Int)),(.bool (decide (0<(x0.Abs.length:Int)))),rfl,(by simp only [S0,S1]<;>rfl)⟩
   ·rintro l' _ ⟨t4a,t5a,t6a,t7a,rfl,hq'⟩ l'' hl
    rw [hq'] at hl
    clear hq'
    simp only [S0,S1] at hl
    subst hl
    refine sV (AB (evb rfl e0a) rfl) ?_
    obtain rfl:=sj f9c
    exact HJ55 _ _ ⟨(.pointer (some ⟨b5,0,none⟩)),(.bool x0.Neg),(.bool z2a),(.bool z2a),t4a,t5a,t6a,t7a,(.bool m0c),rfl,(by simp only [S0,S1]<;>rfl)⟩
  ·have p4d:=bF e0a
   have f5d:=ifN p4d h0b
   refine sP ?_ (hw:=wgF rfl e0a)
   refine sP ?_ (hw:=wgF rfl e0a)
   refine sP ?_ (hw:=wgF rfl e0a)
   refine sP ?_ (hw:=wgF rfl e0a)
   refine sP ?_
   refine sP ?_
   refine sP ?_
   refine sP ?_
   refine sP ?_ (hw:=wgF rfl e0a)
   refine sV (AF (evb rfl e0a) rfl) ?_
   obtain rfl:=sj f5d
   exact HJ55 _ _ ⟨uu,uu,uu,uu,uu,uu,uu,uu,uu,rfl,(by simp only [S0,S1]<;>rfl)⟩
 ·rintro l' _ ⟨t1b,t2b,t3b,t4b,t5b,t6b,t7b,t8b,t9b,rfl,hq'⟩ l'' hl
  rw [hq'] at hl
  clear hq'
  simp only [S0,S1] at hl
  subst hl
  refine sV (Ac rfl) ?_
  refine Ad<|h9 _ _<|wp_ret ?_
  obtain rfl:=sj f6c
  exact fin rfl (Res.tmp rfl Res.nil) (Ak X4c rfl)
theorem AN (x0:Bool) (x1:Int) (w:World) (hT:TB w) (r:Except Int (Unit)) (hr:Bj x0 x1=some r) :
  Calls Tryz.prog 102 #[.bool x0,.int .i64 x1] w (RetE 201 Ki w r):=by
 unfold Bj at hr
 go_enter Tryz.func102,Tryz.ntmps102
 refine wp_seq_k fun K1 h1=>Af<|sV (Aa rfl) ?_
 refine sb (ER rfl) fun z2 hz2=>?_
 refine nrm ?_
 refine Ad<|h1 _ _ ?_
 rcases bft z2 with e8 | e8
 ·have p0a:=zP hz2 e8
  have f1a:=ifP p0a hr
  refine wp_cond_true (Aj (evb rfl e8))<|Af<|sV (Aa rfl) ?_
  refine sV (Bc (vals:=[(0,.int .i64 x1)]) (cells:=[.int .i64 x1]) (by rfl) (by kernel_rfl)) ?_
  refine sV (JY Ml rfl) ?_
  refine Nv rfl ?_
  obtain rfl:=sj f1a
  exact ⟨rfl,BP (Ext.refl _)⟩
 ·have p9:=zN hz2 e8
  have f2a:=ifN p9 hr
  refine wp_cond_false (Aj (evb rfl e8))<|wp_skip ?_
  obtain rfl:=sj f2a
  exact Mb rfl Res.nil (DT (Ext.refl _) rfl)
theorem Kf (x0:Ah) (A1:Option Addr) (c2:Nat) (w:World) (hT:TB w) (n3:RU w A1 c2 x0.Abs) (r:Ah) (hr:Ic x0=some r) :
  Calls Tryz.prog 137 #[.agg #[.bool x0.Neg,.slice A1 (sz x0.Abs) c2]] w (Ret KH w r):=by
 unfold Ic at hr
 go_enter Tryz.func137,Tryz.ntmps137
 refine wp_seq_k fun K4 h4=>Af<|BT rfl rfl fun b5 w1 E6 g7 q8=>?_
 refine nrm ?_
 refine Aw Hl fun b9 w2 E0a g1a q4a=>?_
 refine nrm ?_
 have g8a:=nlt E6.size g1a
 refine Ad<|h4 _ _<|wp_seq_k fun K2a h2a=>Af<|sV (Ai (o':=0) Ia rfl rfl) ?_
 refine sV (Ag Ik rfl (Bx.cell (q8.ext E0a) rfl)) ?_
 refine sV (Ai (o':=1) Dl rfl rfl) ?_
 refine sV (Ag EQ rfl (Bx.cell (q8.ext E0a) rfl)) ?_
 refine sV (Bc (vals:=[(0,.bool x0.Neg),(1,.slice A1 (sz x0.Abs) c2)]) (cells:=[.bool x0.Neg,.slice A1 (sz x0.Abs) c2]) (by rfl) (by kernel_rfl)) ?_
 refine Ax Gt rfl rfl q4a rfl rfl rfl rfl (by simp only [SP0,SP1,S0,S1,Nat.reduceAdd];rfl) fun w3 U5a q6a=>?_
 have F7a:=belU E0a U5a g1a
 have X3a:=xtr E6 F7a
 refine Ad<|h2a _ _<|wp_ret ?_
 obtain rfl:=sj hr
 exact fin rfl (Res.cellN rfl DS q6a rfl rfl Res.nil) (Ak X3a ⟨A1,c2,rfl,(n3.ext X3a)⟩)
theorem FE (x0:Ah) (x1:Int) (A1:Option Addr) (c2:Nat) (w:World) (hT:TB w) (n3:RU w A1 c2 x0.Abs) (r:An) (hr:Cj x0 x1=some r) :
  Calls Tryz.prog 152 #[.agg #[.bool x0.Neg,.slice A1 (sz x0.Abs) c2],.int .i64 x1] w (Ret HW w r):=by
 unfold Cj at hr
 go_enter Tryz.func152,Tryz.ntmps152
 refine wp_seq_k fun K4 h4=>Af<|BT rfl rfl fun b5 w1 E6 g7 q8=>?_
 refine nrm ?_
 refine Aw Ba fun b9 w2 E0a g3b q4b=>?_
 refine nrm ?_
 have g2c:=nlt E6.size g3b
 have X9a:=xtr E6 E0a
 refine Ad<|h4 _ _<|wp_seq_k fun K5b h5b=>wp_seq_k fun K6b h6b=>Af<|sV (Ai (o':=1) Bs rfl rfl) ?_
 refine sV (Ag CQ rfl (Bx.cell (q8.ext E0a) rfl)) ?_
 refine sV (AD Ar rfl) ?_
 refine sb (Ce rfl rfl) fun z6a hz6a=>?_
 refine nrm ?_
 refine Ad<|h6b _ _ ?_
 rcases bft z6a with e1a | e1a
 ·have p3c:=zP hz6a e1a
  have f32:=ifP p3c hr
  refine wp_cond_true (Aj (evb rfl e1a))<|wp_seq_k fun K7b h7b=>Af<|sV (Bc (vals:=[]) (cells:=[.bool false,.slice none 0 0,.int .i64 0]) (by rfl) (by kernel_rfl)) ?_
  refine Ax BX rfl rfl q4b rfl rfl rfl rfl (by simp only [SP0,SP1,S0,S1,Nat.reduceAdd];rfl) fun w3 U4c q5c=>?_
  have F6c:=belU E0a U4c g3b
  have X7c:=xtr E6 F6c
  refine Ad<|h7b _ _<|wp_ret ?_
  obtain rfl:=sj f32
  exact fin rfl (Res.cellN rfl AE q5c rfl rfl Res.nil) (Ak X7c ⟨none,0,rfl,(RU.nil _)⟩)
 ·have p8c:=zN hz6a e1a
  have f9c:=ifN p8c hr
  refine wp_cond_false (Aj (evb rfl e1a))<|wp_skip<|h5b _ _<|wp_seq_k fun K8b h8b=>Af<|sV (Ai (o':=1) Bs rfl rfl) ?_
  refine sV (Ag CQ rfl (Bx.cell (q8.ext E0a) rfl)) ?_
  obtain ⟨r2a,h0d,f1d⟩:=Ab f9c
  refine sc (Ae en_213 (by rfl)) (HQ x0.Abs A1 c2 w2 (tbx X9a hT) (n3.ext X9a) r2a h0d) ?_
  rintro _ w3 E7a rfl
  refine nrm ?_
  have X2d:=xtr X9a E7a
  refine sV (Ac rfl) ?_
  refine Ad<|h8b _ _<|wp_seq_k fun K9b h9b=>Ei [11] 12 mo rfl fun w4 E8a S0b=>have X1b:=xtr X2d E8a;dA 0 rfl (fun _=>Ai (o':=0) EC rfl rfl) ?_
  refine dV 1 rfl (fun _ hw=>Ag Ik rfl (Bx.cell ((((q8.ext E0a).ext E7a).ext E8a).ext hw) rfl)) S0b ?_
  refine dA 2 rfl (fun _=>Ai (o':=1) Bs rfl rfl) ?_
  refine dV 3 rfl (fun _ hw=>Ag CQ rfl (Bx.cell ((((q8.ext E0a).ext E7a).ext E8a).ext hw) rfl)) S0b ?_
  refine dA 4 rfl (fun _=>Aa rfl) ?_
  refine dA 7 rfl (fun _=>Aa rfl) ?_
  refine dA 8 rfl (fun _=>Aa rfl) ?_
  refine dA 9 rfl (fun _=>Bd (c:=wi64 (x1+r2a)) rfl rfl rfl) ?_
  obtain ⟨r3a,h3d,f4d⟩:=Ab f1d
  refine dc 5 rfl (by kernel_rfl) (by rfl) (Ae Mj (by rfl)) (FT x0.Abs r2a A1 c2 w4 (tbx X1b hT) (n3.ext X1b) r3a h3d) ?_
  rintro _ w5 E2b ⟨A4a,c5a,rfl,n5d⟩
  refine dnrm ?_
  have X6d:=xtr X1b E2b
  have S9d:=S0b.trans E2b
  refine dA 6 rfl (fun _=>Bc (vals:=[(0,.bool x0.Neg),(1,.slice A4a (sz r3a) c5a)]) (cells:=[.bool x0.Neg,.slice A4a (sz r3a) c5a]) (by rfl) (by kernel_rfl)) ?_
  refine dA 10 rfl (fun _=>Bc (vals:=[(0,.agg #[.bool x0.Neg,.slice A4a (sz r3a) c5a]),(1,.int .i64 (wi64 (x1+r2a)))]) (cells:=[.bool x0.Neg,.slice A4a (sz r3a) c5a,.int .i64 (wi64 (x1+r2a))]) (by rfl) (by kernel_rfl)) ?_
  have q0c:=((q4b.ext E7a).ext E8a).ext E2b
  refine dk 11 rfl (by kernel_rfl) (by decide) (by rfl) BX rfl rfl q0c rfl rfl rfl rfl (by simp only [SP0,SP1,S0,S1,Nat.reduceAdd];rfl) fun w6 U1c q7d=>?_
  have X8d:=belU X6d U1c g2c
  refine CU (by kernel_rfl) ?_
  refine h9b _ _<|wp_ret ?_
  obtain rfl:=sj f4d
  exact fin rfl (Res.cellN rfl AE q7d rfl rfl Res.nil) (Ak X8d ⟨A4a,c5a,rfl,(n5d.upd U1c q0c (by decide))⟩)
theorem c_wide_Int_Out (x0:Ah) (A1:Option Addr) (c2:Nat) (w:World) (hT:TB w) (n3:RU w A1 c2 x0.Abs) (r:Ah) (hr:HE x0=some r) :
  Calls Tryz.prog 202 #[.agg #[.bool x0.Neg,.slice A1 (sz x0.Abs) c2]] w (Ret Lp w r):=by
 unfold HE at hr
 go_enter Tryz.func202,Tryz.ntmps202
 refine wp_seq_k fun K4 h4=>Af<|BT rfl rfl fun b5 w1 E6 g7 q8=>?_
 refine nrm ?_
 refine Aw Kq fun b9 w2 E1a g4a q2b=>?_
 refine nrm ?_
 have g1c:=nlt E6.size g4a
 refine Ad<|h4 _ _<|wp_seq_k fun K5a h5a=>Af<|sV (Ai (o':=0) EC rfl rfl) ?_
 refine sV (Ag Ik rfl (Bx.cell (q8.ext E1a) rfl)) ?_
 refine sV (Aa rfl) ?_
 obtain ⟨m2a,h6a,f3b⟩:=Ab hr
 refine Ca 8 (fun l l' w'=>∃(t7a:Value) (t8a:Value) (t9a:Value) (t0b:Value),w2=w'∧l'=(((((l.set 6 t7a).set 7 t8a).set 8 t9a).set 9 t0b).set 10 (.bool m2a))) ?_ ?_
 ·intro HJ30
  rcases bft x0.Neg with e0a | e0a
  ·have p4b:=e0a
   have f5b:=ifP p4b h6a
   refine sV (Ai (o':=1) Bs rfl rfl) ?_ (hw:=wgT rfl e0a)
   refine sV (Ag CQ rfl (Bx.cell (q8.ext E1a) rfl)) ?_ (hw:=wgT rfl e0a)
   refine sV (AD Ar rfl) ?_ (hw:=wgT rfl e0a)
   refine sb (Fs rfl rfl) ?_ (hw:=wgT rfl e0a)
   intro z3a hz3a
   refine nrm ?_
   refine sV (AB (evb rfl e0a) rfl) ?_
   obtain rfl:z3a=decide (0<(sz x0.Abs:Int)):=bz hz3a
   obtain rfl:=sj f5b
   exact HJ30 _ _ ⟨(.pointer (some ⟨b5,1,none⟩)),(.slice A1 (sz x0.Abs) c2),(.int .i64 (sz x0.Abs:Int)),(.bool (decide (0<(sz x0.Abs:Int)))),rfl,(by simp only [S0,S1]<;>rfl)⟩
  ·have p6b:=bF e0a
   have f7b:=ifN p6b h6a
   refine sP ?_ (hw:=wgF rfl e0a)
   refine sP ?_ (hw:=wgF rfl e0a)
   refine sP ?_ (hw:=wgF rfl e0a)
   refine sP ?_ (hw:=wgF rfl e0a)
   refine sV (AF (evb rfl e0a) rfl) ?_
   obtain rfl:=sj f7b
   exact HJ30 _ _ ⟨uu,uu,uu,uu,rfl,(by simp only [S0,S1]<;>rfl)⟩
 ·rintro l' _ ⟨t7a,t8a,t9a,t0b,rfl,hq'⟩ l'' hl
  rw [hq'] at hl
  clear hq'
  simp only [S0,S1] at hl
  subst hl
  refine sV (Ai (o':=1) Bs rfl rfl) ?_
  refine sV (Ag CQ rfl (Bx.cell (q8.ext E1a) rfl)) ?_
  refine sV (Bc (vals:=[(0,.bool m2a),(1,.slice A1 (sz x0.Abs) c2)]) (cells:=[.bool m2a,.slice A1 (sz x0.Abs) c2]) (by rfl) (by kernel_rfl)) ?_
  refine Ax IY rfl rfl q2b rfl rfl rfl rfl (by simp only [SP0,SP1,S0,S1,Nat.reduceAdd];rfl) fun w3 U8b q9b=>?_
  have F0c:=belU E1a U8b g4a
  have X1b:=xtr E6 F0c
  refine Ad<|h5a _ _<|wp_ret ?_
  obtain rfl:=sj f3b
  exact fin rfl (Res.cellN rfl FY q9b rfl rfl Res.nil) (Ak X1b ⟨A1,c2,rfl,(n3.ext X1b)⟩)
theorem Dc (x0:An) (A1:Option Addr) (c2:Nat) (w:World) (hT:TB w) (n3:RU w A1 c2 x0.m.Abs) (r:Except Int (Al)) (hr:Dg x0=some r) :
  Calls Tryz.prog 136 #[.agg #[.bool x0.m.Neg,.slice A1 (sz x0.m.Abs) c2,.int .i64 x0.e]] w (RetE 201 NF w r):=by
 unfold Dg at hr
 go_enter Tryz.func136,Tryz.ntmps136
 refine wp_seq_k fun K4 h4=>Af<|BT rfl rfl fun b5 w1 E6 g7 q8=>?_
 refine nrm ?_
 refine Aw FM fun b9 w2 E3a g8d q0c=>?_
 refine nrm ?_
 have g9d:=nlt E6.size g8d
 have X7a:=xtr E6 E3a
 refine Ad<|h4 _ _<|wp_seq_k fun K1c h1c=>Af<|sV (Ai (o':=0) BZ rfl rfl) ?_
 refine sV (Ai (o':=1) Bs rfl rfl) ?_
 refine sV (Ag CQ rfl (Bx.cell (q8.ext E3a) rfl)) ?_
 refine sV (AD Ar rfl) ?_
 refine sb (IL rfl rfl) fun z8a hz8a=>?_
 refine nrm ?_
 refine sV (Aa rfl) ?_
 obtain ⟨m2c,h3c,f0e⟩:=Ab hr
 refine Ca 10 (fun l l' w'=>∃(t4c:Value) (t5c:Value) (t6c:Value),w2=w'∧l'=((((l.set 9 t4c).set 10 t5c).set 11 t6c).set 12 (.bool m2c))) ?_ ?_
 ·intro HJ30
  rcases bft z8a with e0a | e0a
  ·have p1e:=zP hz8a e0a
   have f2e:=ifP p1e h3c
   refine sV (Ai (o':=2) DE rfl rfl) ?_ (hw:=wgT rfl e0a)
   refine sV (Ag Ey rfl (Bx.cell (q8.ext E3a) rfl)) ?_ (hw:=wgT rfl e0a)
   refine sb (IL rfl rfl) ?_ (hw:=wgT rfl e0a)
   intro z9a hz9a
   refine nrm ?_
   refine sV (AB (evb rfl e0a) rfl) ?_
   obtain rfl:z9a=decide (x0.e≤1048576):=bz hz9a
   obtain rfl:=sj f2e
   exact HJ30 _ _ ⟨(.pointer (some ⟨b5,2,none⟩)),(.int .i64 x0.e),(.bool (decide (x0.e≤1048576))),rfl,(by simp only [S0,S1]<;>rfl)⟩
  ·have p3e:=zN hz8a e0a
   have f4e:=ifN p3e h3c
   refine sP ?_ (hw:=wgF rfl e0a)
   refine sP ?_ (hw:=wgF rfl e0a)
   refine sP ?_ (hw:=wgF rfl e0a)
   refine sV (AF (evb rfl e0a) rfl) ?_
   obtain rfl:=sj f4e
   exact HJ30 _ _ ⟨uu,uu,uu,rfl,(by simp only [S0,S1]<;>rfl)⟩
 ·rintro l' _ ⟨t4c,t5c,t6c,rfl,hq'⟩ l'' hl
  rw [hq'] at hl
  clear hq'
  simp only [S0,S1] at hl
  subst hl
  refine sV (Aa rfl) ?_
  obtain ⟨m0b,h7c,f5e⟩:=Ab f0e
  refine Ca 15 (fun l l' w'=>∃(t8c:Value) (t9c:Value) (t0d:Value),w2=w'∧l'=((((l.set 14 t8c).set 15 t9c).set 16 t0d).set 17 (.bool m0b))) ?_ ?_
  ·intro HJ50
   rcases bft m2c with e1a | e1a
   ·have p6e:=e1a
    have f7e:=ifP p6e h7c
    refine sV (Ai (o':=2) DE rfl rfl) ?_ (hw:=wgT rfl e1a)
    refine sV (Ag Ey rfl (Bx.cell (q8.ext E3a) rfl)) ?_ (hw:=wgT rfl e1a)
    refine sb (EP rfl rfl) ?_ (hw:=wgT rfl e1a)
    intro z1b hz1b
    refine nrm ?_
    refine sV (AB (evb rfl e1a) rfl) ?_
    obtain rfl:z1b=decide ((-1048576)≤x0.e):=bz hz1b
    obtain rfl:=sj f7e
    exact HJ50 _ _ ⟨(.pointer (some ⟨b5,2,none⟩)),(.int .i64 x0.e),(.bool (decide ((-1048576)≤x0.e))),rfl,(by simp only [S0,S1]<;>rfl)⟩
   ·have p8e:=bF e1a
    have f9e:=ifN p8e h7c
    refine sP ?_ (hw:=wgF rfl e1a)
    refine sP ?_ (hw:=wgF rfl e1a)
    refine sP ?_ (hw:=wgF rfl e1a)
    refine sV (AF (evb rfl e1a) rfl) ?_
    obtain rfl:=sj f9e
    exact HJ50 _ _ ⟨uu,uu,uu,rfl,(by simp only [S0,S1]<;>rfl)⟩
  ·rintro l' _ ⟨t8c,t9c,t0d,rfl,hq'⟩ l'' hl
   rw [hq'] at hl
   clear hq'
   simp only [S0,S1] at hl
   subst hl
   rcases AG f5e with ⟨r2b,h3b,f0f⟩ | ⟨r2b,h3b,rfl⟩
   ·refine scO (Ae Dh (by rfl)) (AN m0b 2 w2 (tbx X7a hT)  (.ok r2b) h3b) ?_
    rintro _ w3 E2a rfl
    refine nrm ?_
    have X4b:=xtr X7a E2a
    refine Ad<|h1c _ _<|wp_seq_k fun K1d h1d=>Af<|sV (Ai (o':=0) BZ rfl rfl) ?_
    refine sV (Ai (o':=1) Bs rfl rfl) ?_
    refine sV (Ag CQ rfl (Bx.cell ((q8.ext E3a).ext E2a) rfl)) ?_
    obtain ⟨r2d,h1f,f2f⟩:=Ab f0f
    refine sc (Ae Nl (by rfl)) (c_slices_Clone_wide_Nat x0.m.Abs A1 c2 w3 (tbx X4b hT) (n3.ext X4b) r2d h1f) ?_
    rintro _ w4 E4a ⟨A3f,c4f,rfl,n5f⟩
    refine nrm ?_
    have X6f:=xtr X4b E4a
    refine sV (Ai (o':=0) BZ rfl rfl) ?_
    refine sV (Ai (o':=1) Bs rfl rfl) ?_
    refine Ax sz_115 rfl rfl (((q8.ext E3a).ext E2a).ext E4a) rfl rfl rfl rfl (by simp only [SP0,SP1,S0,S1,Nat.reduceAdd];rfl) fun w5 U5b q3d=>?_
    have X7f:=belU X6f U5b g7
    refine Ad<|h1d _ _<|wp_seq_k fun K4d h4d=>Ei [6] 7 mo rfl fun w6 E5a S6b=>have X5d:=xtr X7f E5a;dA 0 rfl (fun _=>Ai (o':=0) BZ rfl rfl) ?_
    refine dV 1 rfl (fun _ hw=>AH DS rfl ((q3d.ext E5a).ext hw) (by simp only [List.drop_zero,List.take_succ_cons,List.take_zero];rfl) rfl) S6b ?_
    refine dA 3 rfl (fun _=>Ai (o':=2) DE rfl rfl) ?_
    refine dV 4 rfl (fun _ hw=>Ag Ey rfl (Bx.cell ((q3d.ext E5a).ext hw) rfl)) S6b ?_
    have n8f:=(n5f.upd U5b (((q8.ext E3a).ext E2a).ext E4a) (by decide)).ext E5a
    obtain ⟨r6a,h9f,f0g⟩:=Ab f2f
    refine dc 2 rfl (by kernel_rfl) (by rfl) (Ae en_202 (by rfl)) (c_wide_Int_Out (⟨x0.m.Neg,r2d⟩:Ah) A3f c4f w6 (tbx X5d hT) n8f r6a h9f) ?_
    rintro _ w7 E7b ⟨A8b,c9b,rfl,n1g⟩
    refine dnrm ?_
    have X2g:=xtr X5d E7b
    have S7g:=S6b.trans E7b
    refine dA 5 rfl (fun _=>Bc (vals:=[(0,.agg #[.bool r6a.Neg,.slice A8b (sz r6a.Abs) c9b]),(1,.int .i64 x0.e)]) (cells:=[.bool r6a.Neg,.slice A8b (sz r6a.Abs) c9b,.int .i64 x0.e]) (by rfl) (by kernel_rfl)) ?_
    have ne3g:=(Bx.neT ((q0c.ext E2a).ext E4a) (((q8.ext E3a).ext E2a).ext E4a) (by decide))
    have q6d:=((((q0c.ext E2a).ext E4a).upd U5b ne3g).ext E5a).ext E7b
    refine dk 6 rfl (by kernel_rfl) (by decide) (by rfl) DU rfl rfl q6d rfl rfl rfl rfl (by simp only [SP0,SP1,S0,S1,Nat.reduceAdd];rfl) fun w8 U7d q4g=>?_
    have X5g:=belU X2g U7d g9d
    refine CU (by kernel_rfl) ?_
    refine h4d _ _<|wp_ret ?_
    obtain rfl:=sj f0g
    exact fin rfl (Res.cellN rfl Bk q4g rfl rfl Res.nil) (DT X5g ⟨A8b,c9b,rfl,(n1g.upd U7d q6d (by decide))⟩)
   ·refine scP (Ae Dh (by rfl)) (AN m0b 2 w2 (tbx X7a hT)  (.error r2b) h3b) fun w3 E2a=>?_
    have X6g:=xtr X7a E2a
    exact ⟨rfl,BP X6g⟩
theorem LB (x0:AL) (x1:Int) (A1:Option Addr) (c2:Nat) (w:World) (hT:TB w) (n3:RLu w A1 c2 x0.Abs) (r:Al × Int) (hr:GN x0 x1=some r) :
  Calls Tryz.prog 60 #[.agg #[.bool x0.Neg,.slice A1 x0.Abs.length c2],.int .i64 x1] w (Ret Lu w r):=by
 unfold GN at hr
 obtain ⟨q0,hq0,hr0⟩:=Ab hr
 unfold Jr at hq0
 go_enter_defers Tryz.func60,Tryz.ntmps60
 refine wp_seq_k fun K4 h4=>Af<|BT rfl rfl fun b5 w1 E6 g7 q8=>?_
 refine nrm ?_
 refine Aw FM fun b9 w2 E8a g0f q9a=>?_
 refine nrm ?_
 have g0b:=nlt E6.size g0f
 have X7c:=xtr E6 E8a
 refine Aw Iw fun b8b w3 E3a g1f q4a=>?_
 refine nrm ?_
 have g1b:=nlt X7c.size g1f
 have X9b:=xtr X7c E3a
 refine Ad<|h4 _ _<|wp_seq_k fun K8c h8c=>Af<|Ha (vs:=[.pointer (some ⟨b9,0,none⟩),.pointer (some ⟨b8b,0,none⟩)]) (by rfl) (by rfl)<|Ad<|h8c _ _<|wp_seq_k fun K9c h9c=>Af<|sV (Am FY rfl ((q8.ext E8a).ext E3a) rfl) ?_
 obtain ⟨r0c,h2f,f3f⟩:=Ab hq0
 refine sc (Ae MT (by rfl)) (HZ x0 A1 c2 w3 (tbx X9b hT) (n3.ext X9b) r0c h2f) ?_
 rintro _ w4 E1a rfl
 refine nrm ?_
 have X2b:=xtr X9b E1a
 rcases AG f3f with ⟨r3b,h1c,f0d⟩ | ⟨r3b,h1c,rfl⟩
 ·refine scO (Ae Dh (by rfl)) (AN r0c 1 w4 (tbx X2b hT)  (.ok r3b) h1c) ?_
  rintro _ w5 E0a rfl
  refine nrm ?_
  have X4b:=xtr X2b E0a
  refine Ad<|h9c _ _<|wp_seq_k fun K1d h1d=>wp_seq_k fun K2d h2d=>Af<|sV (Ai (o':=1) Dl rfl rfl) ?_
  have q3d:=(((q8.ext E8a).ext E3a).ext E1a).ext E0a
  refine sV (Ag EQ rfl (Bx.cell q3d rfl)) ?_
  refine sV (AD CA rfl) ?_
  refine sb (Ce rfl rfl) fun z5b hz5b=>?_
  refine nrm ?_
  refine Ad<|h2d _ _ ?_
  rcases bft z5b with e7a | e7a
  ·have p4f:=zP hz5b e7a
   have f5f:=ifP p4f f0d
   refine wp_cond_true (Aj (evb rfl e7a))<|wp_seq_k fun K4d h4d=>Af<|sV (Bc (vals:=[]) (cells:=[.bool false,.slice none 0 0,.int .i64 0]) (by rfl) (by kernel_rfl)) ?_
   have q5d:=((q9a.ext E3a).ext E1a).ext E0a
   refine Ax DU rfl rfl q5d rfl rfl rfl rfl (by simp only [SP0,SP1,S0,S1,Nat.reduceAdd];rfl) fun w6 U6d q6f=>?_
   have X7f:=belU X4b U6d g0b
   have ne7d:=(Bx.neT ((q4a.ext E1a).ext E0a) q5d (by decide))
   have q8f:=((q4a.ext E1a).ext E0a).upd U6d ne7d
   refine Ax GA rfl rfl q8f rfl rfl rfl rfl (by simp only [SP0,SP1,S0,S1,Nat.reduceAdd];rfl) fun w7 U8d q9f=>?_
   have X0g:=belU X7f U8d g1b
   refine Ad<|h4d _ _<|wp_ret ?_
   obtain rfl:=sj f5f
   obtain rfl:=sj hr0
   exact LH Fc HC rfl (Res.cellN rfl Bk (q6f.upd U8d (Ne.symm ne7d)) rfl rfl (Res.cell1 rfl Ck (Bx.cell q9f rfl) Res.nil)) (Ak X0g ⟨none,0,rfl,(RU.nil _)⟩)
  ·have p1g:=zN hz5b e7a
   have f2g:=ifN p1g f0d
   refine wp_cond_false (Aj (evb rfl e7a))<|wp_skip<|h1d _ _<|wp_seq_k fun K9d h9d=>Af<|sV (Ac rfl) ?_
   refine Ad<|h9d _ _<|wp_seq_k fun K0e h0e=>Af<|sV (Am FY rfl q3d rfl) ?_
   obtain ⟨m1e,h3g,f4g⟩:=Ab f2g
   have hx2e:=BD h3g
   have n5g:RU w5 A1 c2 m1e:=by unfold RU;rw [hx2e];exact (n3.ext X4b)
   obtain ⟨r3e,h6g,f7g⟩:=Ab f4g
   refine sc (Ae NE (by simp only [sz,hx2e];rfl)) (Kf (⟨x0.Neg,m1e⟩:Ah) A1 c2 w5 (tbx X4b hT) n5g r3e h6g) ?_
   rintro _ w6 E5a ⟨A8g,c9g,rfl,n0h⟩
   refine nrm ?_
   have X4e:=xtr X4b E5a
   refine sV (Aa rfl) ?_
   refine sV (Oc (c:=(-1099511627776)) rfl (by decide)) ?_
   refine sV (Aa rfl) ?_
   refine sV (Aa rfl) ?_
   refine sV (OA rfl rfl) ?_
   refine sV (NT rfl rfl) ?_
   obtain ⟨r2c,h1h,f2h⟩:=Ab f7g
   refine sc (Ae Ky (by rfl)) (FE r3e (max (-1099511627776) (min x1 1099511627776)) A8g c9g w6 (tbx X4e hT) n0h r2c h1h) ?_
   rintro _ w7 E6a ⟨A5e,c6e,rfl,n7e⟩
   refine nrm ?_
   have X6b:=xtr X4e E6a
   rcases AG f2h with ⟨r7b,h3c,f3h⟩ | ⟨r7b,h3c,rfl⟩
   ·refine scO (Ae Jh (by rfl)) (Dc r2c A5e c6e w7 (tbx X6b hT) n7e (.ok r7b) h3c) ?_
    rintro _ w8 E2a ⟨A4h,c5h,rfl,n6h⟩
    refine nrm ?_
    have X7h:=xtr X6b E2a
    have q4c:=(((((q9a.ext E3a).ext E1a).ext E0a).ext E5a).ext E6a).ext E2a
    refine Ax DU rfl rfl q4c rfl rfl rfl rfl (by simp only [SP0,SP1,S0,S1,Nat.reduceAdd];rfl) fun w9 U5c q8h=>?_
    have X9h:=belU X7h U5c g0b
    have ne8e:=(Bx.neT (((((q4a.ext E1a).ext E0a).ext E5a).ext E6a).ext E2a) q4c (by decide))
    have q9e:=(((((q4a.ext E1a).ext E0a).ext E5a).ext E6a).ext E2a).upd U5c ne8e
    refine Ax GA rfl rfl q9e rfl rfl rfl rfl (by simp only [SP0,SP1,S0,S1,Nat.reduceAdd];rfl) fun w8a U6c q0i=>?_
    have X1i:=belU X9h U6c g1b
    refine Ad<|h0e _ _<|wp_ret ?_
    have n2i:=(n6h.upd U5c q4c (by decide)).upd U6c q9e (by decide)
    obtain rfl:=sj f3h
    obtain rfl:=sj hr0
    exact LH Fc HC rfl (Res.cellN rfl Bk (q8h.upd U6c (Ne.symm ne8e)) rfl rfl (Res.cell1 rfl Ck (Bx.cell q0i rfl) Res.nil)) (Ak X1i ⟨A4h,c5h,rfl,n2i⟩)
   ·refine scP (Ae Jh (by rfl)) (Dc r2c A5e c6e w7 (tbx X6b hT) n7e (.error r7b) h3c) fun w8 E2a=>?_
    have X3i:=xtr X6b E2a
    have q4i:=(((((q9a.ext E3a).ext E1a).ext E0a).ext E5a).ext E6a).ext E2a
    have q5i:=((((q4a.ext E1a).ext E0a).ext E5a).ext E6a).ext E2a
    refine HR HC (BY b9 b8b (.bool false:Value) (.slice none 0 0:Value) (.int .i64 0:Value) (.int .i64 0:Value) r7b q4i q5i) rfl ?_
    rintro w9 ⟨u9,q9,q9'⟩
    obtain rfl:=sj hr0
    exact ⟨_,(Res.cellN rfl Bk q9 rfl rfl (Res.cell1 rfl Ck (Bx.cell q9' rfl) Res.nil)),Ak (u9.toExt X3i g0b g1b) ⟨none,0,rfl,RU.nil _⟩⟩
 ·refine scP (Ae Dh (by rfl)) (AN r0c 1 w4 (tbx X2b hT)  (.error r3b) h1c) fun w5 E0a=>?_
  have X6i:=xtr X2b E0a
  have q7i:=((q9a.ext E3a).ext E1a).ext E0a
  refine HR HC (BY b9 b8b (.bool false:Value) (.slice none 0 0:Value) (.int .i64 0:Value) (.int .i64 0:Value) r3b q7i ((q4a.ext E1a).ext E0a)) rfl ?_
  rintro w9 ⟨u9,q9,q9'⟩
  obtain rfl:=sj hr0
  exact ⟨_,(Res.cellN rfl Bk q9 rfl rfl (Res.cell1 rfl Ck (Bx.cell q9' rfl) Res.nil)),Ak (u9.toExt X6i g0b g1b) ⟨none,0,rfl,RU.nil _⟩⟩
theorem c_sorobanref04_Of (x0:Ah) (x1:Int) (A1:Option Addr) (c2:Nat) (w:World) (hT:TB w) (n3:RU w A1 c2 x0.Abs) (r:Al) (hr:DI x0 x1=some r) :
  Calls Tryz.prog 62 #[.agg #[.bool x0.Neg,.slice A1 (sz x0.Abs) c2],.int .i64 x1] w (Ret NF w r):=by
 unfold DI at hr
 go_enter Tryz.func62,Tryz.ntmps62
 refine wp_seq_k fun K4 h4=>Af<|BT rfl rfl fun b5 w1 E6 g7 q8=>?_
 refine nrm ?_
 refine Aw FM fun b9 w2 E0a g3b q4b=>?_
 refine nrm ?_
 have g2c:=nlt E6.size g3b
 have X9a:=xtr E6 E0a
 refine Ad<|h4 _ _<|wp_seq_k fun K5b h5b=>wp_seq_k fun K6b h6b=>Af<|sV (Ai (o':=1) Dl rfl rfl) ?_
 refine sV (Ag EQ rfl (Bx.cell (q8.ext E0a) rfl)) ?_
 refine sV (AD CA rfl) ?_
 refine sb (Ce rfl rfl) fun z6a hz6a=>?_
 refine nrm ?_
 refine Ad<|h6b _ _ ?_
 rcases bft z6a with e1a | e1a
 ·have p3c:=zP hz6a e1a
  have f32:=ifP p3c hr
  refine wp_cond_true (Aj (evb rfl e1a))<|wp_seq_k fun K7b h7b=>Af<|sV (Bc (vals:=[]) (cells:=[.bool false,.slice none 0 0,.int .i64 0]) (by rfl) (by kernel_rfl)) ?_
  refine Ax DU rfl rfl q4b rfl rfl rfl rfl (by simp only [SP0,SP1,S0,S1,Nat.reduceAdd];rfl) fun w3 U4c q5c=>?_
  have F6c:=belU E0a U4c g3b
  have X7c:=xtr E6 F6c
  refine Ad<|h7b _ _<|wp_ret ?_
  obtain rfl:=sj f32
  exact fin rfl (Res.cellN rfl Bk q5c rfl rfl Res.nil) (Ak X7c ⟨none,0,rfl,(RU.nil _)⟩)
 ·have p8c:=zN hz6a e1a
  have f9c:=ifN p8c hr
  refine wp_cond_false (Aj (evb rfl e1a))<|wp_skip<|h5b _ _<|wp_seq_k fun K8b h8b=>Af<|sV (Ai (o':=1) Dl rfl rfl) ?_
  refine sV (Ag EQ rfl (Bx.cell (q8.ext E0a) rfl)) ?_
  obtain ⟨r2a,h0d,f1d⟩:=Ab f9c
  refine sc (Ae en_153 (by rfl)) (GD x0.Abs A1 c2 w2 (tbx X9a hT) (n3.ext X9a) r2a h0d) ?_
  rintro _ w3 E7a rfl
  refine nrm ?_
  have X2d:=xtr X9a E7a
  refine sV (Ac rfl) ?_
  refine Ad<|h8b _ _<|wp_seq_k fun K9b h9b=>Ei [11] 12 mo rfl fun w4 E8a S0b=>have X1b:=xtr X2d E8a;dA 0 rfl (fun _=>Ai (o':=0) Ia rfl rfl) ?_
  refine dV 1 rfl (fun _ hw=>Ag Ik rfl (Bx.cell ((((q8.ext E0a).ext E7a).ext E8a).ext hw) rfl)) S0b ?_
  refine dA 2 rfl (fun _=>Ai (o':=1) Dl rfl rfl) ?_
  refine dV 3 rfl (fun _ hw=>Ag EQ rfl (Bx.cell ((((q8.ext E0a).ext E7a).ext E8a).ext hw) rfl)) S0b ?_
  refine dA 4 rfl (fun _=>Aa rfl) ?_
  refine dA 7 rfl (fun _=>Aa rfl) ?_
  refine dA 8 rfl (fun _=>Aa rfl) ?_
  refine dA 9 rfl (fun _=>Bd (c:=wi64 (x1+r2a)) rfl rfl rfl) ?_
  obtain ⟨r3a,h3d,f4d⟩:=Ab f1d
  refine dc 5 rfl (by kernel_rfl) (by rfl) (Ae OR (by rfl)) (Ho x0.Abs r2a A1 c2 w4 (tbx X1b hT) (n3.ext X1b) r3a h3d) ?_
  rintro _ w5 E2b ⟨A4a,c5a,rfl,n5d⟩
  refine dnrm ?_
  have X6d:=xtr X1b E2b
  have S9d:=S0b.trans E2b
  refine dA 6 rfl (fun _=>Bc (vals:=[(0,.bool x0.Neg),(1,.slice A4a (sz r3a) c5a)]) (cells:=[.bool x0.Neg,.slice A4a (sz r3a) c5a]) (by rfl) (by kernel_rfl)) ?_
  refine dA 10 rfl (fun _=>Bc (vals:=[(0,.agg #[.bool x0.Neg,.slice A4a (sz r3a) c5a]),(1,.int .i64 (wi64 (x1+r2a)))]) (cells:=[.bool x0.Neg,.slice A4a (sz r3a) c5a,.int .i64 (wi64 (x1+r2a))]) (by rfl) (by kernel_rfl)) ?_
  have q0c:=((q4b.ext E7a).ext E8a).ext E2b
  refine dk 11 rfl (by kernel_rfl) (by decide) (by rfl) DU rfl rfl q0c rfl rfl rfl rfl (by simp only [SP0,SP1,S0,S1,Nat.reduceAdd];rfl) fun w6 U1c q7d=>?_
  have X8d:=belU X6d U1c g2c
  refine CU (by kernel_rfl) ?_
  refine h9b _ _<|wp_ret ?_
  obtain rfl:=sj f4d
  exact fin rfl (Res.cellN rfl Bk q7d rfl rfl Res.nil) (Ak X8d ⟨A4a,c5a,rfl,(n5d.upd U1c q0c (by decide))⟩)
theorem Br (x0:Int) (x1:Int) (w:World) (hT:TB w) (r:Al) (hr:Bb x0 x1=some r) :
  Calls Tryz.prog 38 #[.int .i64 x0,.int .i64 x1] w (Ret NF w r):=by
 unfold Bb at hr
 go_enter Tryz.func38,Tryz.ntmps38
 refine wp_seq_k fun K1 h1=>Af<|Aw FM fun b2 w1 E3 g4 q5=>?_
 refine nrm ?_
 refine Ad<|h1 _ _<|wp_seq_k fun K6 h6=>Af<|sV (Aa rfl) ?_
 obtain ⟨r7,h8,f9⟩:=Ab hr
 refine sc (Ae Pz (by rfl)) (Il x0 w1 (tbx E3 hT)  r7 h8) ?_
 rintro _ w2 E0a ⟨A4a,c5a,rfl,n6a⟩
 refine nrm ?_
 have X2a:=xtr E3 E0a
 refine sV (Aa rfl) ?_
 obtain ⟨r7a,h8a,f9a⟩:=Ab f9
 refine sc (Ae en_62 (by rfl)) (c_sorobanref04_Of r7 x1 A4a c5a w2 (tbx X2a hT) n6a r7a h8a) ?_
 rintro _ w3 E1a ⟨A0b,c1b,rfl,n2b⟩
 refine nrm ?_
 have X3b:=xtr X2a E1a
 refine Ax DU rfl rfl ((q5.ext E0a).ext E1a) rfl rfl rfl rfl (by simp only [SP0,SP1,S0,S1,Nat.reduceAdd];rfl) fun w4 U3a q4b=>?_
 have X5b:=belU X3b U3a g4
 refine Ad<|h6 _ _<|wp_ret ?_
 have n6b:=n2b.upd U3a ((q5.ext E0a).ext E1a) (by decide)
 obtain rfl:=sj f9a
 exact fin rfl (Res.cellN rfl Bk q4b rfl rfl Res.nil) (Ak X5b ⟨A0b,c1b,rfl,n6b⟩)
theorem Gb (x0:Aq) (A1:Option Addr) (c2:Nat) (w:World) (hT:TB w) (n3:RLu w A1 c2 x0.Man.Abs) (r:Bool) (hr:CD x0=some r) :
  Calls Tryz.prog 64 #[.agg #[.bool x0.Man.Neg,.slice A1 x0.Man.Abs.length c2,.int .i64 x0.Exp]] w (Ret Fy w r):=by
 unfold CD at hr
 go_enter Tryz.func64,Tryz.ntmps64
 refine wp_seq_k fun K4 h4=>Af<|BT rfl rfl fun b5 w1 E6 g7 q8=>?_
 refine nrm ?_
 refine sV (Ac rfl) ?_
 refine Ad<|h4 _ _<|wp_seq_k fun K9 h9=>wp_seq_k fun K2b h2b=>Af<|sV (Ai (o':=0) Gd rfl rfl) ?_
 refine sV (AH FY rfl q8 (by simp only [List.drop_zero,List.take_succ_cons,List.take_zero];rfl) rfl) ?_
 obtain ⟨r9c,h0d,f3b⟩:=Ab hr
 refine sc (Ae MT (by rfl)) (HZ x0.Man A1 c2 w1 (tbx E6 hT) (n3.ext E6) r9c h0d) ?_
 rintro _ w2 E2a rfl
 refine nrm ?_
 have X5a:=xtr E6 E2a
 refine sb (ER rfl) fun z6a hz6a=>?_
 refine nrm ?_
 refine Ad<|h2b _ _ ?_
 rcases bft z6a with e3a | e3a
 ·have p1d:=zP hz6a e3a
  have f2d:=ifP p1d f3b
  refine wp_cond_true (Aj (evb rfl e3a))<|wp_seq_k fun K4b h4b=>Af<|sV (Ac rfl) ?_
  refine Ad<|h4b _ _<|wp_ret ?_
  obtain rfl:=sj f2d
  exact fin rfl (Res.tmp rfl Res.nil) (Ak X5a rfl)
 ·have p3d:=zN hz6a e3a
  have f5b:=ifN p3d f3b
  refine wp_cond_false (Aj (evb rfl e3a))<|wp_skip<|h9 _ _<|wp_seq_k fun K6b h6b=>wp_seq_k fun K7b h7b=>Af<|sV (Ai (o':=0) Gd rfl rfl) ?_
  refine sV (Ai (o':=1) Dl rfl rfl) ?_
  refine sV (Ag EQ rfl (Bx.cell (q8.ext E2a) rfl)) ?_
  refine sV (AD CA rfl) ?_
  refine sb (Ce rfl rfl) fun z7a hz7a=>?_
  refine nrm ?_
  refine Ad<|h7b _ _ ?_
  rcases bft z7a with e4a | e4a
  ·have p4d:=zP hz7a e4a
   have f5d:=ifP p4d f5b
   refine wp_cond_true (Aj (evb rfl e4a))<|wp_seq_k fun K8b h8b=>Af<|sV (Ai (o':=2) FH rfl rfl) ?_
   refine sV (Ag Ey rfl (Bx.cell (q8.ext E2a) rfl)) ?_
   refine sb (Ce rfl rfl) fun z9a hz9a=>?_
   refine nrm ?_
   refine sV (Ac rfl) ?_
   refine Ad<|h8b _ _<|wp_ret ?_
   obtain rfl:z9a=decide (x0.Exp=0):=bz hz9a
   obtain rfl:=sj f5d
   exact fin rfl (Res.tmp rfl Res.nil) (Ak X5a rfl)
  ·have p6d:=zN hz7a e4a
   have f7d:=ifN p6d f5b
   refine wp_cond_false (Aj (evb rfl e4a))<|wp_skip<|h6b _ _<|wp_seq_k fun K9b h9b=>Af<|sV (Ai (o':=0) Gd rfl rfl) ?_
   refine sV (Ai (o':=1) Dl rfl rfl) ?_
   refine sV (Ag EQ rfl (Bx.cell (q8.ext E2a) rfl)) ?_
   obtain ⟨u4f,h8d,f9d⟩:=Ab f7d
   obtain ⟨bb47,oo48,hA0e,ia1e,ib2e,hc50⟩:=RL.nth (n3.ext X5a) h8d
   refine sV (Ay CA As rfl rfl hA0e ia1e ib2e) ?_
   refine sV (Ag AV rfl hc50) ?_
   refine sV (Nj (k:=.u32) rfl rfl) ?_
   refine sb (Ce rfl rfl) fun z8a hz8a=>?_
   refine nrm ?_
   refine sV (Aa rfl) ?_
   obtain ⟨m0c,h1c,f3e⟩:=Ab f9d
   refine Ca 12 (fun l l' w'=>∃(t2c:Value) (t3c:Value) (t4c:Value),w2=w'∧l'=((((l.set 23 t2c).set 24 t3c).set 25 t4c).set 26 (.bool m0c))) ?_ ?_
   ·intro HJ68
    rcases bft z8a with e0a | e0a
    ·have p4e:=zP hz8a e0a
     have f5e:=ifP p4e h1c
     refine sV (Ai (o':=2) FH rfl rfl) ?_ (hw:=wgT rfl e0a)
     refine sV (Ag Ey rfl (Bx.cell (q8.ext E2a) rfl)) ?_ (hw:=wgT rfl e0a)
     refine sb (IL rfl rfl) ?_ (hw:=wgT rfl e0a)
     intro z0b hz0b
     refine nrm ?_
     refine sV (AB (evb rfl e0a) rfl) ?_
     obtain rfl:z0b=decide (x0.Exp≤1048576):=bz hz0b
     obtain rfl:=sj f5e
     exact HJ68 _ _ ⟨(.pointer (some ⟨b5,2,none⟩)),(.int .i64 x0.Exp),(.bool (decide (x0.Exp≤1048576))),rfl,(by simp only [S0,S1]<;>rfl)⟩
    ·have p6e:=zN hz8a e0a
     have f7e:=ifN p6e h1c
     refine sP ?_ (hw:=wgF rfl e0a)
     refine sP ?_ (hw:=wgF rfl e0a)
     refine sP ?_ (hw:=wgF rfl e0a)
     refine sV (AF (evb rfl e0a) rfl) ?_
     obtain rfl:=sj f7e
     exact HJ68 _ _ ⟨uu,uu,uu,rfl,(by simp only [S0,S1]<;>rfl)⟩
   ·rintro l' _ ⟨t2c,t3c,t4c,rfl,hq'⟩ l'' hl
    rw [hq'] at hl
    clear hq'
    simp only [S0,S1] at hl
    subst hl
    refine sV (Aa rfl) ?_
    obtain ⟨m8e,h5c,f9e⟩:=Ab f3e
    refine Ca 17 (fun l l' w'=>∃(t6c:Value) (t7c:Value) (t8c:Value),w2=w'∧l'=((((l.set 28 t6c).set 29 t7c).set 30 t8c).set 31 (.bool m8e))) ?_ ?_
    ·intro HJ88
     rcases bft m0c with e1a | e1a
     ·have p0f:=e1a
      have f1f:=ifP p0f h5c
      refine sV (Ai (o':=2) FH rfl rfl) ?_ (hw:=wgT rfl e1a)
      refine sV (Ag Ey rfl (Bx.cell (q8.ext E2a) rfl)) ?_ (hw:=wgT rfl e1a)
      refine sb (EP rfl rfl) ?_ (hw:=wgT rfl e1a)
      intro z1b hz1b
      refine nrm ?_
      refine sV (AB (evb rfl e1a) rfl) ?_
      obtain rfl:z1b=decide ((-1048576)≤x0.Exp):=bz hz1b
      obtain rfl:=sj f1f
      exact HJ88 _ _ ⟨(.pointer (some ⟨b5,2,none⟩)),(.int .i64 x0.Exp),(.bool (decide ((-1048576)≤x0.Exp))),rfl,(by simp only [S0,S1]<;>rfl)⟩
     ·have p2f:=bF e1a
      have f3f:=ifN p2f h5c
      refine sP ?_ (hw:=wgF rfl e1a)
      refine sP ?_ (hw:=wgF rfl e1a)
      refine sP ?_ (hw:=wgF rfl e1a)
      refine sV (AF (evb rfl e1a) rfl) ?_
      obtain rfl:=sj f3f
      exact HJ88 _ _ ⟨uu,uu,uu,rfl,(by simp only [S0,S1]<;>rfl)⟩
    ·rintro l' _ ⟨t6c,t7c,t8c,rfl,hq'⟩ l'' hl
     rw [hq'] at hl
     clear hq'
     simp only [S0,S1] at hl
     subst hl
     refine sV (Ac rfl) ?_
     refine Ad<|h9b _ _<|wp_ret ?_
     obtain rfl:=sj f9e
     exact fin rfl (Res.tmp rfl Res.nil) (Ak X5a rfl)
theorem DO (x0_0:Aq) (bp0:Nat) (A1:Option Addr) (c2:Nat) (w:World) (hT:TB w) (n3:RLu w A1 c2 x0_0.Man.Abs) (q4:Bx w bp0 27 [.bool x0_0.Man.Neg,.slice A1 x0_0.Man.Abs.length c2,.int .i64 x0_0.Exp]) (r:Except Int (Unit)) (hr:DR x0_0=some r) :
  Calls Tryz.prog 120 #[.slice (some ⟨bp0,0,none⟩) 1 1] w (RetE 201 Ki w r):=by
 unfold DR at hr
 go_enter Tryz.func120,Tryz.ntmps120
 refine wp_seq_k fun K5 h5=>Af<|sV (Aa rfl) ?_
 refine sV (AD HN rfl) ?_
 refine sV (Aa rfl) ?_
 refine Ad<|h5 _ _ ?_
 apply wp_block
 refine GO<|Bg<|wp_seq_k fun K6 h6=>Af<|sV (HO (v:=.bool true) (Cm rfl rfl) (by rfl)) ?_
 refine Ad<|h6 _ _<|wp_seq_k fun K7 h7=>wp_cond_true (Aj (evb rfl rfl))<|wp_skip<|h7 _ _<|wp_seq_k fun K8 h8=>?_
 apply wp_block
 refine wp_seq_k fun K9 h9=>Af<|sV (FO (o':=0) HN DU rfl rfl (by decide) (by decide) (by decide)) ?_
 refine sV (Am Bk rfl q4 rfl) ?_
 refine Aw FM fun b9b w1 E7a g8a q9a=>?_
 refine nrm ?_
 refine Ax DU rfl rfl q9a rfl rfl rfl rfl (by simp only [SP0,SP1,S0,S1,Nat.reduceAdd];rfl) fun w2 U0b q1b=>?_
 have F1a:=belU E7a U0b g8a
 refine Ad<|h9 _ _<|Af<|sV (Am Bk rfl q1b rfl) ?_
 obtain ⟨r2a,h2b,f3b⟩:=Ab hr
 refine sc (Ae Mg (by rfl)) (Gb x0_0 A1 c2 w2 (tbx F1a hT) (n3.ext F1a) r2a h2b) ?_
 rintro _ w3 E4b rfl
 refine nrm ?_
 have X0a:=xtr F1a E4b
 rcases AG f3b with ⟨r3a,h4a,f5b⟩ | ⟨r3a,h4a,rfl⟩
 ·refine scO (Ae Dh (by rfl)) (AN r2a 1 w3 (tbx X0a hT)  (.ok r3a) h4a) ?_
  rintro _ w4 E5a rfl
  refine nrm ?_
  have X6b:=xtr X0a E5a
  refine Ad<|h8 _ _<|Af<|sV (Bd (c:=1) rfl rfl (by decide)) ?_
  refine sV (Aa rfl) ?_
  refine Ad<|Bg<|wp_seq_k fun K6a h6a=>Af<|sV (HO (v:=.bool false) (Cm rfl rfl) (by rfl)) ?_
  refine Ad<|h6a _ _<|wp_seq_k fun K7b h7b=>wp_cond_false (Aj (evb rfl rfl))<|wp_exit ?_
  simp only [Exit.then,Exit.inBlock,↓reduceIte,Nat.reduceEqDiff]
  obtain rfl:=sj f5b
  exact Mb rfl Res.nil (DT X6b rfl)
 ·refine scP (Ae Dh (by rfl)) (AN r2a 1 w3 (tbx X0a hT)  (.error r3a) h4a) fun w4 E5a=>?_
  have X8b:=xtr X0a E5a
  exact ⟨rfl,BP X8b⟩
theorem EH (x0:Int) (w:World) (hT:TB w) (r:Except Int (Unit)) (hr:FA x0=some r) :
  Calls Tryz.prog 138 #[.int .i64 x0] w (RetE 201 Ki w r):=by
 unfold FA at hr
 go_enter Tryz.func138,Tryz.ntmps138
 refine Af<|sV (Aa rfl) ?_
 refine sb (EP rfl rfl) fun z1 hz1=>?_
 refine nrm ?_
 refine sV (Aa rfl) ?_
 obtain ⟨m8,h9,f7a⟩:=Ab hr
 refine Ca 6 (fun l l' w'=>∃(t5a:Value) (t6a:Value),w=w'∧l'=(((l.set 5 t5a).set 6 t6a).set 7 (.bool m8))) ?_ ?_
 ·intro HJ14
  rcases bft z1 with e0a | e0a
  ·have p8a:=zP hz1 e0a
   have f9a:=ifP p8a h9
   refine sV (Aa rfl) ?_ (hw:=wgT rfl e0a)
   refine sb (IL rfl rfl) ?_ (hw:=wgT rfl e0a)
   intro z1a hz1a
   refine nrm ?_
   refine sV (AB (evb rfl e0a) rfl) ?_
   obtain rfl:z1a=decide (x0≤4096):=bz hz1a
   obtain rfl:=sj f9a
   exact HJ14 _ _ ⟨(.int .i64 x0),(.bool (decide (x0≤4096))),rfl,(by simp only [S0,S1]<;>rfl)⟩
  ·have p0b:=zN hz1 e0a
   have f1b:=ifN p0b h9
   refine sP ?_ (hw:=wgF rfl e0a)
   refine sP ?_ (hw:=wgF rfl e0a)
   refine sV (AF (evb rfl e0a) rfl) ?_
   obtain rfl:=sj f1b
   exact HJ14 _ _ ⟨uu,uu,rfl,(by simp only [S0,S1]<;>rfl)⟩
 ·rintro l' _ ⟨t5a,t6a,rfl,hq'⟩ l'' hl
  rw [hq'] at hl
  clear hq'
  simp only [S0,S1] at hl
  subst hl
  rcases AG f7a with ⟨r2a,h3a,f2b⟩ | ⟨r2a,h3a,rfl⟩
  ·refine scO (Ae Dh (by rfl)) (AN m8 1 w hT  (.ok r2a) h3a) ?_
   rintro _ w1 E4a rfl
   refine nrm ?_
   refine Ad ?_
   obtain rfl:=sj f2b
   exact Mb rfl Res.nil (DT E4a rfl)
  ·refine scP (Ae Dh (by rfl)) (AN m8 1 w hT  (.error r2a) h3a) fun w1 E4a=>?_
   exact ⟨rfl,BP E4a⟩
theorem Hk (x0:Int) (w:World) (hT:TB w) (r:Except Int (Unit)) (hr:Fh x0=some r) :
  Calls Tryz.prog 139 #[.int .i64 x0] w (RetE 201 Ki w r):=by
 unfold Fh at hr
 go_enter Tryz.func139,Tryz.ntmps139
 refine Af<|sV (Aa rfl) ?_
 refine sb (EP rfl rfl) fun z1 hz1=>?_
 refine nrm ?_
 refine sV (Aa rfl) ?_
 obtain ⟨m8,h9,f7a⟩:=Ab hr
 refine Ca 6 (fun l l' w'=>∃(t5a:Value) (t6a:Value),w=w'∧l'=(((l.set 5 t5a).set 6 t6a).set 7 (.bool m8))) ?_ ?_
 ·intro HJ14
  rcases bft z1 with e0a | e0a
  ·have p8a:=zP hz1 e0a
   have f9a:=ifP p8a h9
   refine sV (Aa rfl) ?_ (hw:=wgT rfl e0a)
   refine sb (IL rfl rfl) ?_ (hw:=wgT rfl e0a)
   intro z1a hz1a
   refine nrm ?_
   refine sV (AB (evb rfl e0a) rfl) ?_
   obtain rfl:z1a=decide (x0≤5):=bz hz1a
   obtain rfl:=sj f9a
   exact HJ14 _ _ ⟨(.int .i64 x0),(.bool (decide (x0≤5))),rfl,(by simp only [S0,S1]<;>rfl)⟩
  ·have p0b:=zN hz1 e0a
   have f1b:=ifN p0b h9
   refine sP ?_ (hw:=wgF rfl e0a)
   refine sP ?_ (hw:=wgF rfl e0a)
   refine sV (AF (evb rfl e0a) rfl) ?_
   obtain rfl:=sj f1b
   exact HJ14 _ _ ⟨uu,uu,rfl,(by simp only [S0,S1]<;>rfl)⟩
 ·rintro l' _ ⟨t5a,t6a,rfl,hq'⟩ l'' hl
  rw [hq'] at hl
  clear hq'
  simp only [S0,S1] at hl
  subst hl
  rcases AG f7a with ⟨r2a,h3a,f2b⟩ | ⟨r2a,h3a,rfl⟩
  ·refine scO (Ae Dh (by rfl)) (AN m8 1 w hT  (.ok r2a) h3a) ?_
   rintro _ w1 E4a rfl
   refine nrm ?_
   refine Ad ?_
   obtain rfl:=sj f2b
   exact Mb rfl Res.nil (DT E4a rfl)
  ·refine scP (Ae Dh (by rfl)) (AN m8 1 w hT  (.error r2a) h3a) fun w1 E4a=>?_
   exact ⟨rfl,BP E4a⟩
theorem GX (x0:Al) (A1:Option Addr) (c2:Nat) (w:World) (hT:TB w) (n3:RU w A1 c2 x0.Man.Abs) (r:An) (hr:Fl x0=some r) :
  Calls Tryz.prog 121 #[.agg #[.bool x0.Man.Neg,.slice A1 (sz x0.Man.Abs) c2,.int .i64 x0.Exp]] w (Ret HW w r):=by
 unfold Fl at hr
 go_enter Tryz.func121,Tryz.ntmps121
 refine wp_seq_k fun K4 h4=>Af<|BT rfl rfl fun b5 w1 E6 g7 q8=>?_
 refine nrm ?_
 refine Aw Ba fun b9 w2 E3a g1b q8a=>?_
 refine nrm ?_
 have g2b:=nlt E6.size g1b
 have X3b:=xtr E6 E3a
 refine Ad<|h4 _ _<|wp_seq_k fun K9a h9a=>Ei [6] 7 mo rfl fun w3 E0a S4a=>have X5a:=xtr X3b E0a;dA 0 rfl (fun _=>Ai (o':=0) Gd rfl rfl) ?_
 refine dV 1 rfl (fun _ hw=>AH FY rfl (((q8.ext E3a).ext E0a).ext hw) (by simp only [List.drop_zero,List.take_succ_cons,List.take_zero];rfl) rfl) S4a ?_
 refine dA 3 rfl (fun _=>Ai (o':=2) FH rfl rfl) ?_
 refine dV 4 rfl (fun _ hw=>Ag Ey rfl (Bx.cell (((q8.ext E3a).ext E0a).ext hw) rfl)) S4a ?_
 obtain ⟨r1a,h4b,f5b⟩:=Ab hr
 refine dc 2 rfl (by kernel_rfl) (by rfl) (Ae NE (by rfl)) (Kf x0.Man A1 c2 w3 (tbx X5a hT) (n3.ext X5a) r1a h4b) ?_
 rintro _ w4 E2a ⟨A6a,c7a,rfl,n6b⟩
 refine dnrm ?_
 have X7b:=xtr X5a E2a
 have S1c:=S4a.trans E2a
 refine dA 5 rfl (fun _=>Bc (vals:=[(0,.agg #[.bool r1a.Neg,.slice A6a (sz r1a.Abs) c7a]),(1,.int .i64 x0.Exp)]) (cells:=[.bool r1a.Neg,.slice A6a (sz r1a.Abs) c7a,.int .i64 x0.Exp]) (by rfl) (by kernel_rfl)) ?_
 refine dk 6 rfl (by kernel_rfl) (by decide) (by rfl) BX rfl rfl ((q8a.ext E0a).ext E2a) rfl rfl rfl rfl (by simp only [SP0,SP1,S0,S1,Nat.reduceAdd];rfl) fun w5 U0b q8b=>?_
 have X9b:=belU X7b U0b g2b
 refine CU (by kernel_rfl) ?_
 refine h9a _ _<|wp_ret ?_
 have n0c:=n6b.upd U0b ((q8a.ext E0a).ext E2a) (by decide)
 obtain rfl:=sj f5b
 exact fin rfl (Res.cellN rfl AE q8b rfl rfl Res.nil) (Ak X9b ⟨A6a,c7a,rfl,n0c⟩)
theorem IM (x0:Ah) (x1:Int) (A1:Option Addr) (c2:Nat) (w:World) (hT:TB w) (n3:RU w A1 c2 x0.Abs) (r:Ah) (hr:FS x0 x1=some r) :
  Calls Tryz.prog 203 #[.agg #[.bool x0.Neg,.slice A1 (sz x0.Abs) c2],.int .i64 x1] w (Ret KH w r):=by
 unfold FS at hr
 go_enter Tryz.func203,Tryz.ntmps203
 refine wp_seq_k fun K4 h4=>Af<|BT rfl rfl fun b5 w1 E6 g7 q8=>?_
 refine nrm ?_
 refine Aw Hl fun b9 w2 E2a g1b q8a=>?_
 refine nrm ?_
 have g2b:=nlt E6.size g1b
 have X3b:=xtr E6 E2a
 refine Ad<|h4 _ _<|wp_seq_k fun K9a h9a=>Ei [7] 8 mo rfl fun w3 E0a S3a=>have X4a:=xtr X3b E0a;dA 0 rfl (fun _=>Ai (o':=0) EC rfl rfl) ?_
 refine dV 1 rfl (fun _ hw=>Ag Ik rfl (Bx.cell (((q8.ext E2a).ext E0a).ext hw) rfl)) S3a ?_
 refine dA 2 rfl (fun _=>Ai (o':=1) Bs rfl rfl) ?_
 refine dV 3 rfl (fun _ hw=>Ag CQ rfl (Bx.cell (((q8.ext E2a).ext E0a).ext hw) rfl)) S3a ?_
 refine dA 4 rfl (fun _=>Aa rfl) ?_
 obtain ⟨r5a,h4b,f5b⟩:=Ab hr
 refine dc 5 rfl (by kernel_rfl) (by rfl) (Ae Jz (by rfl)) (Db x0.Abs x1 A1 c2 w3 (tbx X4a hT) (n3.ext X4a) r5a h4b) ?_
 rintro _ w4 E1a ⟨A6a,c7a,rfl,n6b⟩
 refine dnrm ?_
 have X7b:=xtr X4a E1a
 have S1c:=S3a.trans E1a
 refine dA 6 rfl (fun _=>Bc (vals:=[(0,.bool x0.Neg),(1,.slice A6a (sz r5a) c7a)]) (cells:=[.bool x0.Neg,.slice A6a (sz r5a) c7a]) (by rfl) (by kernel_rfl)) ?_
 refine dk 7 rfl (by kernel_rfl) (by decide) (by rfl) Gt rfl rfl ((q8a.ext E0a).ext E1a) rfl rfl rfl rfl (by simp only [SP0,SP1,S0,S1,Nat.reduceAdd];rfl) fun w5 U0b q8b=>?_
 have X9b:=belU X7b U0b g2b
 refine CU (by kernel_rfl) ?_
 refine h9a _ _<|wp_ret ?_
 have n0c:=n6b.upd U0b ((q8a.ext E0a).ext E1a) (by decide)
 obtain rfl:=sj f5b
 exact fin rfl (Res.cellN rfl DS q8b rfl rfl Res.nil) (Ak X9b ⟨A6a,c7a,rfl,n0c⟩)
theorem c_wide_Away (x0:Bool) (x1:Int) (x2:Bool) (x3:Bool) (x4:Int) (w:World) (hT:TB w) (r:Bool) (hr:Ib x0 x1 x2 x3 x4=some r) :
  Calls Tryz.prog 206 #[.bool x0,.int .i64 x1,.bool x2,.bool x3,.int .i64 x4] w (Ret Fy w r):=by
 unfold Ib at hr
 go_enter Tryz.func206,Tryz.ntmps206
 refine wp_seq_k fun K1 h1=>Af<|sV (Ac rfl) ?_
 refine Ad<|h1 _ _<|wp_seq_k fun K2 h2=>wp_seq_k fun K3 h3=>Af<|sV (Aa rfl) ?_
 refine Ad<|h3 _ _ ?_
 rcases bft x0 with e3a | e3a
 ·have p0e:=e3a
  have f1e:=ifP p0e hr
  refine wp_cond_true (Aj (evb rfl e3a))<|wp_seq_k fun K6b h6b=>Af<|sV (Ac rfl) ?_
  refine Ad<|h6b _ _<|wp_ret ?_
  obtain rfl:=sj f1e
  exact fin rfl (Res.tmp rfl Res.nil) (Ak (Ext.refl _) rfl)
 ·have p2e:=bF e3a
  have f7b:=ifN p2e hr
  refine wp_cond_false (Aj (evb rfl e3a))<|wp_skip<|h2 _ _<|wp_seq_k fun K8b h8b=>wp_seq_k fun K9b h9b=>Af<|sV (Aa rfl) ?_
  refine Ad<|h9b _ _ ?_
  apply wp_block
  refine wp_seq_k fun K0c h0c=>Af<|sb (Ce rfl rfl) fun z8a hz8a=>?_
  refine nrm ?_
  refine sV (Ac rfl) ?_
  refine Ad<|h0c _ _ ?_
  rcases bft z8a with e4a | e4a
  ·have p3e:=zP hz8a e4a
   have f4e:=ifP p3e f7b
   refine wp_cond_true (Aj (evb rfl e4a))<|wp_seq_k fun K1c h1c=>Af<|sV (Aa rfl) ?_
   refine sb (Fs rfl rfl) fun z9a hz9a=>?_
   refine nrm ?_
   refine sV (Aa rfl) ?_
   obtain ⟨m5e,h2c,f6e⟩:=Ab f4e
   refine Ca 9 (fun l l' w'=>∃(t3c:Value) (t4c:Value) (t5c:Value) (t6c:Value) (t7c:Value),w=w'∧l'=((((((l.set 18 t3c).set 19 t4c).set 20 t5c).set 21 t6c).set 22 t7c).set 23 (.bool m5e))) ?_ ?_
   ·intro HJ251
    rcases bft z9a with e0a | e0a
    ·have p7e:=zP hz9a e0a
     have f8e:=ifP p7e h2c
     refine sP ?_ (hw:=wgF rfl e0a)
     refine sP ?_ (hw:=wgF rfl e0a)
     refine sP ?_ (hw:=wgF rfl e0a)
     refine sP ?_
     refine sP ?_ (hw:=wgF rfl e0a)
     refine sV (AB (evb rfl e0a) rfl) ?_
     obtain rfl:=sj f8e
     exact HJ251 _ _ ⟨uu,uu,uu,uu,uu,rfl,(by simp only [S0,S1]<;>rfl)⟩
    ·have p9e:=zN hz9a e0a
     have f0f:=ifN p9e h2c
     refine sV (Aa rfl) ?_ (hw:=wgT rfl e0a)
     refine sb (Ce rfl rfl) ?_ (hw:=wgT rfl e0a)
     intro z2a hz2a
     refine nrm ?_
     refine sV (Aa rfl) ?_ (hw:=wgT rfl e0a)
     obtain ⟨m8c,h9c,f1f⟩:=Ab f0f
     refine Ca 8 (fun l l' w'=>∃(t3b:Value),w=w'∧l'=((l.set 21 t3b).set 22 (.bool m8c))) ?_ ?_
     ·intro HJ268
      rcases bft z2a with e1a | e1a
      ·have p2f:=zP hz2a e1a
       have f3f:=ifP p2f h9c
       refine sV (Aa rfl) ?_ (hw:=wgT rfl e1a)
       refine sV (AB (evb rfl e1a) rfl) ?_ (hw:=wgT rfl e0a)
       obtain rfl:=sj f3f
       exact HJ268 _ _ ⟨(.bool x2),rfl,(by simp only [S0,S1]<;>rfl)⟩
      ·have p4f:=zN hz2a e1a
       have f5f:=ifN p4f h9c
       refine sP ?_ (hw:=wgF rfl e1a)
       refine sV (AF (evb rfl e1a) rfl) ?_ (hw:=wgT rfl e0a)
       obtain rfl:=sj f5f
       exact HJ268 _ _ ⟨uu,rfl,(by simp only [S0,S1]<;>rfl)⟩
     ·rintro l' _ ⟨t3b,rfl,hq'⟩ l'' hl
      rw [hq'] at hl
      clear hq'
      simp only [S0,S1] at hl
      subst hl
      refine sV (AF (evb rfl e0a) rfl) ?_
      obtain rfl:=sj f1f
      exact HJ251 _ _ ⟨(.int .i64 x1),(.bool z2a),(.bool z2a),t3b,(.bool m8c),rfl,(by simp only [S0,S1]<;>rfl)⟩
   ·rintro l' _ ⟨t3c,t4c,t5c,t6c,t7c,rfl,hq'⟩ l'' hl
    rw [hq'] at hl
    clear hq'
    simp only [S0,S1] at hl
    subst hl
    refine sV (Ac rfl) ?_
    refine Ad<|h1c _ _<|wp_ret ?_
    obtain rfl:=sj f6e
    exact fin rfl (Res.tmp rfl Res.nil) (Ak (Ext.refl _) rfl)
  ·have p6f:=zN hz8a e4a
   have f0d:=ifN p6f f7b
   refine wp_cond_false (Aj (evb rfl e4a))<|wp_seq_k fun K1d h1d=>Af<|sb (Ce rfl rfl) fun z0b hz0b=>?_
   refine nrm ?_
   refine sV (Ac rfl) ?_
   refine Ad<|h1d _ _ ?_
   rcases bft z0b with e5a | e5a
   ·have p7f:=zP hz0b e5a
    have f8f:=ifP p7f f0d
    refine wp_cond_true (Aj (evb rfl e5a))<|wp_seq_k fun K2d h2d=>Af<|sV (Aa rfl) ?_
    refine sb (EP rfl rfl) fun z4b hz4b=>?_
    refine nrm ?_
    refine sV (Ac rfl) ?_
    refine Ad<|h2d _ _<|wp_ret ?_
    obtain rfl:z4b=decide (0≤x1):=bz hz4b
    obtain rfl:=sj f8f
    exact fin rfl (Res.tmp rfl Res.nil) (Ak (Ext.refl _) rfl)
   ·have p9f:=zN hz0b e5a
    have f3d:=ifN p9f f0d
    refine wp_cond_false (Aj (evb rfl e5a))<|wp_seq_k fun K4d h4d=>Af<|sb (Ce rfl rfl) fun z1b hz1b=>?_
    refine nrm ?_
    refine sV (Ac rfl) ?_
    refine Ad<|h4d _ _ ?_
    rcases bft z1b with e6a | e6a
    ·have p0g:=zP hz1b e6a
     have f1g:=ifP p0g f3d
     refine wp_cond_true (Aj (evb rfl e6a))<|wp_seq_k fun K5d h5d=>Af<|sV (Aa rfl) ?_
     refine sb (ER rfl) fun z5b hz5b=>?_
     refine nrm ?_
     refine sV (Ac rfl) ?_
     refine Ad<|h5d _ _<|wp_ret ?_
     obtain rfl:z5b=decide (¬(x3=true)):=bz hz5b
     obtain rfl:=sj f1g
     exact fin rfl (Res.tmp rfl Res.nil) (Ak (Ext.refl _) rfl)
    ·have p2g:=zN hz1b e6a
     have f6d:=ifN p2g f3d
     refine wp_cond_false (Aj (evb rfl e6a))<|wp_seq_k fun K7d h7d=>Af<|sb (Ce rfl rfl) fun z2b hz2b=>?_
     refine nrm ?_
     refine sV (Ac rfl) ?_
     refine Ad<|h7d _ _ ?_
     rcases bft z2b with e7a | e7a
     ·have p3g:=zP hz2b e7a
      have f4g:=ifP p3g f6d
      refine wp_cond_true (Aj (evb rfl e7a))<|wp_seq_k fun K8d h8d=>Af<|sV (Aa rfl) ?_
      refine sV (Ac rfl) ?_
      refine Ad<|h8d _ _<|wp_ret ?_
      obtain rfl:=sj f4g
      exact fin rfl (Res.tmp rfl Res.nil) (Ak (Ext.refl _) rfl)
     ·have p5g:=zN hz2b e7a
      have f6g:=ifN p5g f6d
      refine wp_cond_false (Aj (evb rfl e7a))<|wp_skip<|h8b _ _<|wp_seq_k fun K9d h9d=>Af<|sV (Ac rfl) ?_
      refine Ad<|h9d _ _<|wp_ret ?_
      obtain rfl:=sj f6g
      exact fin rfl (Res.tmp rfl Res.nil) (Ak (Ext.refl _) rfl)
set_option maxRecDepth 20000 in
theorem FN (x0:An) (x1:Int) (x2:Int) (x3:Bool) (A1:Option Addr) (c2:Nat) (w:World) (hT:TB w) (n3:RU w A1 c2 x0.m.Abs) (r:An) (hr:CR x0 x1 x2 x3=some r) :
  Calls Tryz.prog 140 #[.agg #[.bool x0.m.Neg,.slice A1 (sz x0.m.Abs) c2,.int .i64 x0.e],.int .i64 x1,.int .i64 x2,.bool x3] w (Ret HW w r):=by
 unfold CR at hr
 refine LQ Tryz.func140 rfl [.agg #[.bool x0.m.Neg,.slice A1 (sz x0.m.Abs) c2,.int .i64 x0.e],.int .i64 x1,.int .i64 x2,.bool x3,uu,uu,uu,uu,uu,uu,uu,uu,uu,uu,uu,uu,uu,uu,uu,uu,uu,uu,uu,uu,uu,uu,uu,uu,uu,uu,uu,uu,uu,uu,uu,uu,uu,uu,uu,uu,uu,uu,uu,uu,uu,uu,uu,uu,uu,uu,uu,uu,uu,uu,uu,uu,uu,uu,uu,uu,uu,uu,uu,uu,uu,uu,uu,uu,uu,uu,uu,uu,uu,uu,uu,uu,uu,uu,uu,uu,uu,uu,uu,uu,uu,uu,uu,uu,uu,uu,uu,uu,uu,uu,uu,uu,uu,uu,uu,uu,uu,uu,uu,uu] (by kernel_rfl) ?_
 refine wp_seq_k fun K4 h4=>Af<|BT rfl rfl fun b5 w1 E6 g7 q8=>?_
 refine nrm ?_
 refine Aw Ba fun b9 w2 E3a g3c q8b=>?_
 refine nrm ?_
 have g7d:=nlt E6.size g3c
 have X3b:=xtr E6 E3a
 refine Ad<|h4 _ _<|wp_seq_k fun K8d h8d=>Af<|sV (Ai (o':=0) BZ rfl rfl) ?_
 refine sV (Ai (o':=1) Bs rfl rfl) ?_
 refine sV (Ag CQ rfl (Bx.cell (q8.ext E3a) rfl)) ?_
 obtain ⟨r2a,h5n,f6n⟩:=Ab hr
 refine sc (Ae Lm (by rfl)) (DP x0.m.Abs A1 c2 w2 (tbx X3b hT) (n3.ext X3b) r2a h5n) ?_
 rintro _ w3 E4a rfl
 refine nrm ?_
 have X4b:=xtr X3b E4a
 refine sV (Aa rfl) ?_
 refine sV (Bv (c:=wi64 (r2a - x1)) rfl rfl rfl) ?_
 refine sV (Ac rfl) ?_
 refine Ad<|h8d _ _<|wp_seq_k fun K7f h7f=>wp_seq_k fun K8f h8f=>Af<|sV (Aa rfl) ?_
 refine sb (IL rfl rfl) fun z9d hz9d=>?_
 refine nrm ?_
 refine sV (Aa rfl) ?_
 obtain ⟨m9f,h0g,f32⟩:=Ab f6n
 refine Ca 6 (fun l l' w'=>∃(t1g:Value) (t2g:Value),w3=w'∧l'=(((l.set 23 t1g).set 24 t2g).set 25 (.bool m9f))) ?_ ?_
 ·intro HJ36
  rcases bft z9d with e6a | e6a
  ·have p7n:=zP hz9d e6a
   have f8n:=ifP p7n h0g
   refine sV (Aa rfl) ?_ (hw:=wgT rfl e6a)
   refine sb (ER rfl) ?_ (hw:=wgT rfl e6a)
   intro z8e hz8e
   refine nrm ?_
   refine sV (AB (evb rfl e6a) rfl) ?_
   obtain rfl:z8e=decide (¬(x3=true)):=bz hz8e
   obtain rfl:=sj f8n
   exact HJ36 _ _ ⟨(.bool x3),(.bool (decide (¬(x3=true)))),rfl,(by simp only [S0,S1]<;>rfl)⟩
  ·have p9n:=zN hz9d e6a
   have f0o:=ifN p9n h0g
   refine sP ?_ (hw:=wgF rfl e6a)
   refine sP ?_ (hw:=wgF rfl e6a)
   refine sV (AF (evb rfl e6a) rfl) ?_
   obtain rfl:=sj f0o
   exact HJ36 _ _ ⟨uu,uu,rfl,(by simp only [S0,S1]<;>rfl)⟩
 ·rintro l' _ ⟨t1g,t2g,rfl,hq'⟩ l'' hl
  rw [hq'] at hl
  clear hq'
  simp only [S0,S1] at hl
  subst hl
  refine Ad<|h8f _ _ ?_
  rcases bft m9f with e4c | e4c
  ·have p1o:=e4c
   have f64:=ifP p1o f32
   refine wp_cond_true (Aj (evb rfl e4c))<|wp_seq_k fun K3g h3g=>Af<|sV (Ai (o':=0) BZ rfl rfl) ?_
   refine sV (AH DS rfl ((q8.ext E3a).ext E4a) (by simp only [List.drop_zero,List.take_succ_cons,List.take_zero];rfl) rfl) ?_
   refine sV (Ai (o':=2) DE rfl rfl) ?_
   refine sV (Ag Ey rfl (Bx.cell ((q8.ext E3a).ext E4a) rfl)) ?_
   obtain ⟨r2o,h3o,f4o⟩:=Ab f64
   refine sc (Ae Ky (by rfl)) (FE x0.m x0.e A1 c2 w3 (tbx X4b hT) (n3.ext X4b) r2o h3o) ?_
   rintro _ w4 E9e ⟨A5o,c6o,rfl,n7o⟩
   refine nrm ?_
   have X8o:=xtr X4b E9e
   refine Ax BX rfl rfl ((q8b.ext E4a).ext E9e) rfl rfl rfl rfl (by simp only [SP0,SP1,S0,S1,Nat.reduceAdd];rfl) fun w5 U4g q9o=>?_
   have X0p:=belU X8o U4g g7d
   refine Ad<|h3g _ _<|wp_ret ?_
   have n1p:=n7o.upd U4g ((q8b.ext E4a).ext E9e) (by decide)
   obtain rfl:=sj f4o
   exact fin rfl (Res.cellN rfl AE q9o rfl rfl Res.nil) (Ak X0p ⟨A5o,c6o,rfl,n1p⟩)
  ·have p2p:=bF e4c
   have f3p:=ifN p2p f32
   refine wp_cond_false (Aj (evb rfl e4c))<|wp_skip<|h7f _ _<|wp_seq_k fun K5g h5g=>wp_seq_k fun K6g h6g=>Af<|sV (Aa rfl) ?_
   refine sb (Cm rfl rfl) fun z0e hz0e=>?_
   refine nrm ?_
   refine Ad<|h6g _ _ ?_
   obtain ⟨m0a,h7g,f4p⟩:=Ab f3p
   refine Di (fun l l' w'=>∃(t8g:Value) (t9g:Value) (t0h:Value) (t1h:Value) (t2h:Value) (t3h:Value) (t4h:Value) (t5h:Value) (t6h:Value) (t7h:Value) (t8h:Value) (A5c:Option Addr) (c6c:Nat),UpdS [b5] w3 w'∧Bx w' b5 119 [.bool m0a.2.1,.slice A5c (sz m0a.2.2.1) c6c,.int .i64 m0a.2.2.2]∧RU w' A5c c6c m0a.2.2.1∧l'=((((((((((((l.set 9 (.int .i64 m0a.1)).set 33 t8g).set 34 t9g).set 35 t0h).set 36 t1h).set 37 t2h).set 38 t3h).set 39 t4h).set 40 t5h).set 41 t6h).set 42 t7h).set 43 t8h)) ?_ ?_
   ·rcases bft z0e with e7c | e7c
    ·have p5p:=zP hz0e e7c
     have f6p:=ifP p5p h7g
     refine wp_cond_true (Aj (evb rfl e7c))<|wp_seq_k fun K9h h9h=>Ei [11] 12 mo rfl fun w4 E8c S0f=>have X0i:=xtr X4b E8c;dA 0 rfl (fun _=>Ai (o':=0) BZ rfl rfl) ?_
     refine dV 1 rfl (fun _ hw=>AH DS rfl ((((q8.ext E3a).ext E4a).ext E8c).ext hw) (by simp only [List.drop_zero,List.take_succ_cons,List.take_zero];rfl) rfl) S0f ?_
     refine dA 2 rfl (fun _=>Aa rfl) ?_
     refine dA 3 rfl (fun _=>Bv (c:=wi64 (2 - (wi64 (r2a - x1)))) rfl rfl rfl) ?_
     refine dA 5 rfl (fun _=>Ai (o':=2) DE rfl rfl) ?_
     refine dV 6 rfl (fun _ hw=>Ag Ey rfl (Bx.cell ((((q8.ext E3a).ext E4a).ext E8c).ext hw) rfl)) S0f ?_
     refine dA 7 rfl (fun _=>Bv (c:=wi64 (x0.e - 2)) rfl rfl rfl) ?_
     refine dA 8 rfl (fun _=>Aa rfl) ?_
     refine dA 9 rfl (fun _=>Bd (c:=wi64 ((wi64 (x0.e - 2))+(wi64 (r2a - x1)))) rfl rfl rfl) ?_
     obtain ⟨r7a,h7p,f8p⟩:=Ab f6p
     refine dc 4 rfl (by kernel_rfl) (by rfl) (Ae Nr (by rfl)) (IM x0.m (wi64 (2 - (wi64 (r2a - x1)))) A1 c2 w4 (tbx X0i hT) (n3.ext X0i) r7a h7p) ?_
     rintro _ w5 E1f ⟨A9c,c0d,rfl,n9p⟩
     refine dnrm ?_
     have S5y:=S0f.trans E1f
     refine dA 10 rfl (fun _=>Bc (vals:=[(0,.agg #[.bool r7a.Neg,.slice A9c (sz r7a.Abs) c0d]),(1,.int .i64 (wi64 ((wi64 (x0.e - 2))+(wi64 (r2a - x1)))))]) (cells:=[.bool r7a.Neg,.slice A9c (sz r7a.Abs) c0d,.int .i64 (wi64 ((wi64 (x0.e - 2))+(wi64 (r2a - x1))))]) (by rfl) (by kernel_rfl)) ?_
     have q1i:=(((q8.ext E3a).ext E4a).ext E8c).ext E1f
     refine dk 11 rfl (by kernel_rfl) (by decide) (by rfl) BX rfl rfl q1i rfl rfl rfl rfl (by simp only [SP0,SP1,S0,S1,Nat.reduceAdd];rfl) fun w6 U2i q0q=>?_
     refine CU (by kernel_rfl) ?_
     refine h9h _ _<|Af<|sV (Ac rfl) ?_
     refine Ad ?_
     obtain rfl:=sj f8p
     exact ⟨_,rfl,(.pointer (some ⟨b5,0,none⟩)),(.agg #[.bool x0.m.Neg,.slice A1 (sz x0.m.Abs) c2]),(.int .i64 (wi64 (r2a - x1))),(.int .i64 (wi64 (2 - (wi64 (r2a - x1))))),(.agg #[.bool r7a.Neg,.slice A9c (sz r7a.Abs) c0d]),(.pointer (some ⟨b5,2,none⟩)),(.int .i64 x0.e),(.int .i64 (wi64 (x0.e - 2))),(.int .i64 (wi64 (r2a - x1))),(.int .i64 (wi64 ((wi64 (x0.e - 2))+(wi64 (r2a - x1))))),(.agg #[.bool r7a.Neg,.slice A9c (sz r7a.Abs) c0d,.int .i64 (wi64 ((wi64 (x0.e - 2))+(wi64 (r2a - x1))))]),A9c,c0d,((((UpdS.refl _ _).ext E8c).ext E1f).upd U2i (.inl im0)),q0q,(n9p.upd U2i q1i (by decide)),(by simp only [S0,S1]<;>rfl)⟩
    ·have p1q:=zN hz0e e7c
     have f2q:=ifN p1q h7g
     refine wp_cond_false (Aj (evb rfl e7c))<|wp_skip ?_
     obtain rfl:=sj f2q
     exact ⟨_,rfl,uu,uu,uu,uu,uu,uu,uu,uu,uu,uu,uu,A1,c2,(UpdS.refl _ _),((q8.ext E3a).ext E4a),(n3.ext X4b),(by simp only [S0,S1]<;>rfl)⟩
   ·rintro l' w4 ⟨t8g,t9g,t0h,t1h,t2h,t3h,t4h,t5h,t6h,t7h,t8h,A5c,c6c,U3i,q1e,n4i,hq'⟩ l'' hl
    rw [hq'] at hl
    clear hq'
    simp only [S0,S1] at hl
    subst hl
    have X5i:=JN X4b U3i (X4b).size (alc g7 al0)
    refine h5g _ _<|wp_seq_k fun K6i h6i=>Af<|sV (Ai (o':=0) BZ rfl rfl) ?_
    refine sV (Ai (o':=1) Bs rfl rfl) ?_
    refine sV (Ag CQ rfl (Bx.cell q1e rfl)) ?_
    refine sV (Aa rfl) ?_
    obtain ⟨r1d,h3q,f4q⟩:=Ab f4p
    refine sc (Ae Mj (by rfl)) (FT m0a.2.2.1 m0a.1 A5c c6c w4 (tbx X5i hT) n4i r1d h3q) ?_
    rintro _ w5 E9b ⟨A2d,c3d,rfl,n2e⟩
    refine nrm ?_
    have X5q:=xtr X5i E9b
    refine sV (Ac rfl) ?_
    refine Ad<|h6i _ _<|wp_seq_k fun K7i h7i=>Ei [] 8 mo rfl fun w6 E5a S8i=>have X9i:=xtr X5q E5a;dA 0 rfl (fun _=>Ai (o':=0) BZ rfl rfl) ?_
    refine dA 1 rfl (fun _=>Ai (o':=1) Bs rfl rfl) ?_
    refine dV 2 rfl (fun _ hw=>Ag CQ rfl (Bx.cell (((q1e.ext E9b).ext E5a).ext hw) rfl)) S8i ?_
    refine dA 3 rfl (fun _=>Aa rfl) ?_
    refine dA 4 rfl (fun _=>Aa rfl) ?_
    obtain ⟨r0j,h6q,f7q⟩:=Ab f4q
    refine dc 5 rfl (by kernel_rfl) (by rfl) (Ae Jz (by rfl)) (Db r1d m0a.1 A2d c3d w6 (tbx X9i hT) (n2e.ext E5a) r0j h6q) ?_
    rintro _ w7 E8a ⟨A8q,c9q,rfl,n0r⟩
    refine dnrm ?_
    have X1j:=xtr X9i E8a
    have S1r:=S8i.trans E8a
    have n2r:=((n4i.ext E9b).ext E5a).ext E8a
    obtain ⟨r2j,h3r,f4r⟩:=Ab f7q
    refine dc 6 rfl (by kernel_rfl) (by rfl) (Ae MW (by rfl)) (FI m0a.2.2.1 r0j A5c c6c A8q c9q w7 (tbx X1j hT) n2r n0r r2j h3r) ?_
    rintro _ w8 E0b ⟨A5r,c6r,rfl,n7r⟩
    refine dnrm ?_
    have X3j:=xtr X1j E0b
    have S6y:=S1r.trans E0b
    refine dA 7 rfl (fun _=>Ac rfl) ?_
    refine CU (by kernel_rfl) ?_
    refine h7i _ _<|wp_seq_k fun K4j h4j=>Af<|sV (Aa rfl) ?_
    refine sV (AD Ar rfl) ?_
    refine sb (Ce rfl rfl) fun z3e hz3e=>?_
    refine nrm ?_
    refine sV (Aa rfl) ?_
    obtain ⟨m5j,h6j,f8r⟩:=Ab f4r
    refine Ca 7 (fun l l' w'=>∃(t7j:Value) (t8j:Value),w8=w'∧l'=(((l.set 60 t7j).set 61 t8j).set 62 (.bool m5j))) ?_ ?_
    ·intro HJ179
     rcases bft z3e with e9a | e9a
     ·have p9r:=zP hz3e e9a
      have f0s:=ifP p9r h6j
      refine sV (Aa rfl) ?_ (hw:=wgT rfl e9a)
      refine sb (ER rfl) ?_ (hw:=wgT rfl e9a)
      intro z2f hz2f
      refine nrm ?_
      refine sV (AB (evb rfl e9a) rfl) ?_
      obtain rfl:z2f=decide (¬(x3=true)):=bz hz2f
      obtain rfl:=sj f0s
      exact HJ179 _ _ ⟨(.bool x3),(.bool (decide (¬(x3=true)))),rfl,(by simp only [S0,S1]<;>rfl)⟩
     ·have p1s:=zN hz3e e9a
      have f2s:=ifN p1s h6j
      refine sP ?_ (hw:=wgF rfl e9a)
      refine sP ?_ (hw:=wgF rfl e9a)
      refine sV (AF (evb rfl e9a) rfl) ?_
      obtain rfl:=sj f2s
      exact HJ179 _ _ ⟨uu,uu,rfl,(by simp only [S0,S1]<;>rfl)⟩
    ·rintro l' _ ⟨t7j,t8j,rfl,hq'⟩ l'' hl
     rw [hq'] at hl
     clear hq'
     simp only [S0,S1] at hl
     subst hl
     refine sV (Ac rfl) ?_
     refine Ad<|h4j _ _<|wp_seq_k fun K9j h9j=>Af<|sV (Aa rfl) ?_
     refine Ct (vals:=[(0,.int .u32 1)]) (cs:=[.int .u32 1]) Ar As Hc (by rfl) (by decide) (by kernel_rfl) fun b3s w9 E1b g4s q5s=>?_
     refine nrm ?_
     have g7y:=nlt X3j.size g4s
     have X0k:=xtr X3j E1b
     have n6s:=RL.lit1 q5s (by decide)
     refine sV (Aa rfl) ?_
     refine sV (Bv (c:=wi64 (m0a.1 - 1)) rfl rfl rfl) ?_
     obtain ⟨r1k,h7s,f8s⟩:=Ab f8r
     refine sc (Ae Jz (by rfl)) (Db 1 (wi64 (m0a.1 - 1)) (some ⟨b3s,0,none⟩) 1 w9 (tbx X0k hT) n6s r1k h7s) ?_
     rintro _ w3a E2b ⟨A9s,c0t,rfl,n1t⟩
     refine nrm ?_
     have X2k:=xtr X0k E2b
     obtain ⟨r2t,h3t,f4t⟩:=Ab f8s
     refine sc (Ae Mc (by rfl)) (FK r2j r1k A5r c6r A9s c0t w3a (tbx X2k hT) ((n7r.ext E1b).ext E2b) n1t r2t h3t) ?_
     rintro _ w3c E5b rfl
     refine nrm ?_
     have X5t:=xtr X2k E5b
     refine sV (Ac rfl) ?_
     refine Ad<|h9j _ _<|wp_seq_k fun K3k h3k=>wp_seq_k fun K4k h4k=>Af<|sV (Aa rfl) ?_
     refine sb (Ce rfl rfl) fun z4e hz4e=>?_
     refine nrm ?_
     refine sV (Aa rfl) ?_
     obtain ⟨m5k,h6k,f6t⟩:=Ab f4t
     refine Ca 5 (fun l l' w'=>∃(t7k:Value),w3c=w'∧l'=((l.set 72 t7k).set 73 (.bool m5k))) ?_ ?_
     ·intro HJ220
      rcases bft z4e with e6b | e6b
      ·have p7t:=zP hz4e e6b
       have f8t:=ifP p7t h6k
       refine sV (Aa rfl) ?_ (hw:=wgT rfl e6b)
       refine sV (AB (evb rfl e6b) rfl) ?_
       obtain rfl:=sj f8t
       exact HJ220 _ _ ⟨(.bool x3),rfl,(by simp only [S0,S1]<;>rfl)⟩
      ·have p9t:=zN hz4e e6b
       have f0u:=ifN p9t h6k
       refine sP ?_ (hw:=wgF rfl e6b)
       refine sV (AF (evb rfl e6b) rfl) ?_
       obtain rfl:=sj f0u
       exact HJ220 _ _ ⟨uu,rfl,(by simp only [S0,S1]<;>rfl)⟩
     ·rintro l' _ ⟨t7k,rfl,hq'⟩ l'' hl
      rw [hq'] at hl
      clear hq'
      simp only [S0,S1] at hl
      subst hl
      refine Ad<|h4k _ _ ?_
      obtain ⟨m8k,h9k,f1u⟩:=Ab f6t
      refine Di (fun l l' w'=>w3c=w'∧l'=(l.set 13 (.int .i64 m8k))) ?_ ?_
      ·rcases bft m5k with e4d | e4d
       ·have p2u:=e4d
        have f3u:=ifP p2u h9k
        refine wp_cond_true (Aj (evb rfl e4d))<|Af<|sV (Ac rfl) ?_
        refine Ad ?_
        obtain rfl:=sj f3u
        exact ⟨_,rfl,rfl,(by simp only [S0,S1]<;>rfl)⟩
       ·have p4u:=bF e4d
        have f5u:=ifN p4u h9k
        refine wp_cond_false (Aj (evb rfl e4d))<|wp_skip ?_
        obtain rfl:=sj f5u
        exact ⟨_,rfl,rfl,(by simp only [S0,S1]<;>rfl)⟩
      ·rintro l' _ ⟨rfl,hq'⟩ l'' hl
       rw [hq'] at hl
       clear hq'
       simp only [S0,S1] at hl
       subst hl
       refine h3k _ _<|wp_seq_k fun K0l h0l=>wp_seq_k fun K1l h1l=>Ei [] 17 mo rfl fun w8b E7b S3f=>have X2l:=xtr X5t E7b;dA 0 rfl (fun _=>Aa rfl) ?_
       refine dA 1 rfl (fun _=>Aa rfl) ?_
       refine dA 2 rfl (fun _=>Aa rfl) ?_
       refine dA 3 rfl (fun _=>AD Ar rfl) ?_
       refine dab 4 rfl (by kernel_rfl) (fun _ _ _ h=>h) (by rfl) (fun _=>Fs rfl rfl) fun z5e hz5e=>?_
       refine dnrm ?_
       refine dA 5 rfl (fun _=>Aa rfl) ?_
       obtain ⟨m3l,h4l,f6u⟩:=Ab f1u
       refine IP #[true,true,true,true,true,true,true,true,true,true,true,true,false,false,false,false,false] 5 (fun l l' w'=>∃(t5l:Value) (t6l:Value) (t7l:Value) (t8l:Value) (t9l:Value),w8b=w'∧l'=((((((l.set 80 t5l).set 81 t6l).set 82 t7l).set 83 t8l).set 84 t9l).set 85 (.bool m3l))) ?_ ?_
       ·intro HJ272
        rcases bft z5e with e1a | e1a
        ·have p7u:=zP hz5e e1a
         have f8u:=ifP p7u h4l
         refine dA 6 rfl (fun _=>Aa rfl) ?_ (hw:=wgT rfl e1a)
         have n9u:=((((((n2e.ext E5a).ext E8a).ext E0b).ext E1b).ext E2b).ext E5b).ext E7b
         obtain ⟨u6e,h0v,f1v⟩:=Ab f8u
         obtain ⟨bb282,oo283,hA2v,ia3v,ib4v,hc285⟩:=RL.nth n9u h0v
         refine dA 7 rfl (fun _=>Ay Ar As rfl rfl hA2v ia3v ib4v) ?_ (hw:=wgT rfl e1a)
         refine dV 8 rfl (fun _ hw=>Ag AV rfl (Dd hc285 hw)) S3f ?_ (hw:=wgT rfl e1a)
         refine dA 9 rfl (fun _=>Nj (k:=.u32) rfl rfl) ?_ (hw:=wgT rfl e1a)
         refine dab 10 rfl (by kernel_rfl) (fun _ _ _ h=>h) (wgT rfl e1a) (fun _=>Ce rfl rfl) fun z4f hz4f=>?_
         refine dnrm ?_
         refine dA 11 rfl (fun _=>AB (evb rfl e1a) rfl) ?_
         obtain rfl:z4f=decide ((u6e%2)=1):=bz hz4f
         obtain rfl:=sj f1v
         exact Et (by kernel_rfl) (HJ272 _ _ ⟨(.slice A2d (sz r1d) c3d),(.pointer (some ⟨bb282,oo283+(0:Int).toNat,none⟩)),(.int .u32 u6e),(.int .u32 (u6e%2)),(.bool (decide ((u6e%2)=1))),rfl,(by simp only [S0,S1]<;>rfl)⟩)
        ·have p5v:=zN hz5e e1a
         have f6v:=ifN p5v h4l
         refine dP 6 rfl ?_ (hw:=wgF rfl e1a)
         refine dP 7 rfl ?_ (hw:=wgF rfl e1a)
         refine dP 8 rfl ?_ (hw:=wgF rfl e1a)
         refine dP 9 rfl ?_ (hw:=wgF rfl e1a)
         refine dP 10 rfl ?_ (hw:=wgF rfl e1a)
         refine dA 11 rfl (fun _=>AF (evb rfl e1a) rfl) ?_
         obtain rfl:=sj f6v
         exact Et (by kernel_rfl) (HJ272 _ _ ⟨uu,uu,uu,uu,uu,rfl,(by simp only [S0,S1]<;>rfl)⟩)
       ·rintro l' _ ⟨t5l,t6l,t7l,t8l,t9l,rfl,hq'⟩ l'' hl
        rw [hq'] at hl
        clear hq'
        simp only [S0,S1] at hl
        subst hl
        refine dA 12 rfl (fun _=>Ai (o':=0) BZ rfl rfl) ?_
        refine dA 13 rfl (fun _=>Ai (o':=0) EC rfl rfl) ?_
        refine dV 14 rfl (fun _ hw=>Ag Ik rfl (Bx.cell (((((((((q1e.ext E9b).ext E5a).ext E8a).ext E0b).ext E1b).ext E2b).ext E5b).ext E7b).ext hw) rfl)) S3f ?_
        refine dA 15 rfl (fun _=>Aa rfl) ?_
        obtain ⟨r0m,h7v,f8v⟩:=Ab f6u
        refine dc 16 rfl (by kernel_rfl) (by rfl) (Ae en_206 (by rfl)) (c_wide_Away m5j m8k m3l m0a.2.1 x2 w8b (tbx X2l hT)  r0m h7v) ?_
        rintro _ w7d E0c rfl
        refine dnrm ?_
        have X7e:=xtr X2l E0c
        have S8y:=S3f.trans E0c
        refine CU (by kernel_rfl) ?_
        refine h1l _ _ ?_
        obtain ⟨m5d,h1m,f9v⟩:=Ab f8v
        refine Di (fun l l' w'=>∃(A1c:Option Addr) (c2c:Nat) (t2m:Value) (t3m:Value) (t4m:Value),UpdS [] w7d w'∧RU w' A1c c2c m5d∧l'=((((l.set 10 (.slice A1c (sz m5d) c2c)).set 91 t2m).set 92 t3m).set 93 t4m)) ?_ ?_
        ·rcases bft r0m with e6d | e6d
         ·have p0w:=e6d
          have f1w:=ifP p0w h1m
          refine wp_cond_true (Aj (evb rfl e6d))<|Af<|sV (Aa rfl) ?_
          refine Ct (vals:=[(0,.int .u32 1)]) (cs:=[.int .u32 1]) Ar As Hc (by rfl) (by decide) (by kernel_rfl) fun b5m w3b E5f g2w q3w=>?_
          refine nrm ?_
          have g9y:=nlt X7e.size g2w
          have X4w:=xtr X7e E5f
          have n5w:=RL.lit1 q3w (by decide)
          have n6w:=((((((((n2e.ext E5a).ext E8a).ext E0b).ext E1b).ext E2b).ext E5b).ext E7b).ext E0c).ext E5f
          obtain ⟨r6m,h7w,f8w⟩:=Ab f1w
          refine sc (Ae NI (by rfl)) (GH r1d 1 A2d c3d (some ⟨b5m,0,none⟩) 1 w3b (tbx X4w hT) n6w n5w r6m h7w) ?_
          rintro _ w8d E9w ⟨A7m,c8m,rfl,n0x⟩
          refine nrm ?_
          refine sV (Ac rfl) ?_
          refine Ad ?_
          obtain rfl:=sj f8w
          exact ⟨_,rfl,A7m,c8m,(.slice A2d (sz r1d) c3d),(.slice (some ⟨b5m,0,none⟩) (sz 1) 1),(.slice A7m (sz r6m) c8m),(((UpdS.refl _ _).ext E5f).ext E9w),n0x,(by simp only [S0,S1]<;>rfl)⟩
         ·have p1x:=bF e6d
          have f2x:=ifN p1x h1m
          refine wp_cond_false (Aj (evb rfl e6d))<|wp_skip ?_
          have n3x:=(((((((n2e.ext E5a).ext E8a).ext E0b).ext E1b).ext E2b).ext E5b).ext E7b).ext E0c
          obtain rfl:=sj f2x
          exact ⟨_,rfl,A2d,c3d,uu,uu,uu,(UpdS.refl _ _),n3x,(by simp only [S0,S1]<;>rfl)⟩
        ·rintro l' w3b ⟨A1c,c2c,t2m,t3m,t4m,U6f,n4x,hq'⟩ l'' hl
         rw [hq'] at hl
         clear hq'
         simp only [S0,S1] at hl
         subst hl
         have X9m:=JN X7e U6f (X7e).size al0
         refine h0l _ _<|wp_seq_k fun K0n h0n=>Af<|sV (Ai (o':=0) BZ rfl rfl) ?_
         refine sV (Ai (o':=0) EC rfl rfl) ?_
         have q1n:=(((((((((q1e.ext E9b).ext E5a).ext E8a).ext E0b).ext E1b).ext E2b).ext E5b).ext E7b).ext E0c).updS U6f nm0
         refine sV (Ag Ik rfl (Bx.cell q1n rfl)) ?_
         refine sV (Aa rfl) ?_
         refine sV (Bc (vals:=[(0,.bool m0a.2.1),(1,.slice A1c (sz m5d) c2c)]) (cells:=[.bool m0a.2.1,.slice A1c (sz m5d) c2c]) (by rfl) (by kernel_rfl)) ?_
         refine sV (Ai (o':=2) DE rfl rfl) ?_
         refine sV (Ag Ey rfl (Bx.cell q1n rfl)) ?_
         refine sV (Aa rfl) ?_
         refine sV (Bd (c:=wi64 (m0a.2.2.2+m0a.1)) rfl rfl rfl) ?_
         obtain ⟨r5x,h6x,f7x⟩:=Ab f9v
         refine sc (Ae Ky (by rfl)) (FE (⟨m0a.2.1,m5d⟩:Ah) (wi64 (m0a.2.2.2+m0a.1)) A1c c2c w3b (tbx X9m hT) n4x r5x h6x) ?_
         rintro _ w8d E2n ⟨A8x,c9x,rfl,n0y⟩
         refine nrm ?_
         have X1y:=xtr X9m E2n
         have ne2y:=(Bx.ne q8 g3c).symm
         have q3n:=((((((((((((q8b.ext E4a).updS U3i (nmc ne2y nm0)).ext E9b).ext E5a).ext E8a).ext E0b).ext E1b).ext E2b).ext E5b).ext E7b).ext E0c).updS U6f nm0).ext E2n
         refine Ax BX rfl rfl q3n rfl rfl rfl rfl (by simp only [SP0,SP1,S0,S1,Nat.reduceAdd];rfl) fun w2a U4n q3y=>?_
         have X4y:=belU X1y U4n g7d
         refine Ad<|h0n _ _<|wp_ret ?_
         obtain rfl:=sj f7x
         exact fin rfl (Res.cellN rfl AE q3y rfl rfl Res.nil) (Ak X4y ⟨A8x,c9x,rfl,(n0y.upd U4n q3n (by decide))⟩)
theorem KY (x0:Aq) (x1:Int) (x2:Int) (A1:Option Addr) (c2:Nat) (w:World) (hT:TB w) (n3:RLu w A1 c2 x0.Man.Abs) (r:Al × Int) (hr:IC x0 x1 x2=some r) :
  Calls Tryz.prog 55 #[.agg #[.bool x0.Man.Neg,.slice A1 x0.Man.Abs.length c2,.int .i64 x0.Exp],.int .i64 x1,.int .i64 x2] w (Ret Lu w r):=by
 unfold IC at hr
 obtain ⟨q0,hq0,hr0⟩:=Ab hr
 unfold Ku at hq0
 go_enter_defers Tryz.func55,Tryz.ntmps55
 refine wp_seq_k fun K4 h4=>Af<|BT rfl rfl fun b5 w1 E6 g7 q8=>?_
 refine nrm ?_
 refine Aw FM fun b9 w2 E1b g1d q6a=>?_
 refine nrm ?_
 have g2b:=nlt E6.size g1d
 have X2d:=xtr E6 E1b
 refine Aw Iw fun b3b w3 E4a g0f q7a=>?_
 refine nrm ?_
 have g4b:=nlt X2d.size g0f
 have X3d:=xtr X2d E4a
 refine Ad<|h4 _ _<|wp_seq_k fun K4d h4d=>Af<|Ha (vs:=[.pointer (some ⟨b9,0,none⟩),.pointer (some ⟨b3b,0,none⟩)]) (by rfl) (by rfl)<|Ad<|h4d _ _<|wp_seq_k fun K5d h5d=>Af<|sV (Am Bk rfl ((q8.ext E1b).ext E4a) rfl) ?_
 refine Ct (vals:=[(0,.agg #[.bool x0.Man.Neg,.slice A1 x0.Man.Abs.length c2,.int .i64 x0.Exp])]) (cs:=[.bool x0.Man.Neg,.slice A1 x0.Man.Abs.length c2,.int .i64 x0.Exp]) HN DU FM (by rfl) (by decide) (by kernel_rfl) fun b6d w4 E1a g1f q7d=>?_
 refine nrm ?_
 have g7i:=nlt X3d.size g1f
 have X8a:=xtr X3d E1a
 rcases AG hq0 with ⟨r5b,h2c,f2f⟩ | ⟨r5b,h2c,rfl⟩
 ·refine scO (Ae Je (by rfl)) (DO x0 b6d A1 c2 w4 (tbx X8a hT) (n3.ext X8a) q7d (.ok r5b) h2c) ?_
  rintro _ w5 E0a rfl
  refine nrm ?_
  have X6b:=xtr X8a E0a
  refine Ad<|h5d _ _<|wp_seq_k fun K8d h8d=>Af<|sV (Aa rfl) ?_
  rcases AG f2f with ⟨r7b,h3c,f3f⟩ | ⟨r7b,h3c,rfl⟩
  ·refine scO (Ae Jk (by rfl)) (EH x1 w5 (tbx X6b hT)  (.ok r7b) h3c) ?_
   rintro _ w6 E2a rfl
   refine nrm ?_
   have X8b:=xtr X6b E2a
   refine Ad<|h8d _ _<|wp_seq_k fun K9d h9d=>Af<|sV (Aa rfl) ?_
   rcases AG f3f with ⟨r9b,h4c,f4f⟩ | ⟨r9b,h4c,rfl⟩
   ·refine scO (Ae MQ (by rfl)) (Hk x2 w6 (tbx X8b hT)  (.ok r9b) h4c) ?_
    rintro _ w7 E3a rfl
    refine nrm ?_
    have X5c:=xtr X8b E3a
    refine Ad<|h9d _ _<|wp_seq_k fun K0e h0e=>Af<|have q5f:=(((((q8.ext E1b).ext E4a).ext E1a).ext E0a).ext E2a).ext E3a;sV (Am Bk rfl q5f rfl) ?_
    obtain ⟨m1e,h6f,f7f⟩:=Ab f4f
    have hx2e:=BD h6f
    have n8f:RU w7 A1 c2 m1e:=by unfold RU;rw [hx2e];exact (n3.ext X5c)
    obtain ⟨r3e,h9f,f0g⟩:=Ab f7f
    refine sc (Ae JB (by simp only [sz,hx2e];rfl)) (GX (⟨(⟨x0.Man.Neg,m1e⟩:Ah),x0.Exp⟩:Al) A1 c2 w7 (tbx X5c hT) n8f r3e h9f) ?_
    rintro _ w8 E9a ⟨A1g,c2g,rfl,n3g⟩
    refine nrm ?_
    have X4e:=xtr X5c E9a
    refine sV (Aa rfl) ?_
    refine sV (Aa rfl) ?_
    obtain ⟨r6c,h4g,f5g⟩:=Ab f0g
    refine sc (Ae LR (by rfl)) (FN r3e x1 x2 false A1g c2g w8 (tbx X4e hT) n3g r6c h4g) ?_
    rintro _ w9 E0b ⟨A5e,c6e,rfl,n7e⟩
    refine nrm ?_
    have X0c:=xtr X4e E0b
    rcases AG f5g with ⟨r1c,h7c,f6g⟩ | ⟨r1c,h7c,rfl⟩
    ·refine scO (Ae Jh (by rfl)) (Dc r6c A5e c6e w9 (tbx X0c hT) n7e (.ok r1c) h7c) ?_
     rintro _ w1b E5a ⟨A7g,c8g,rfl,n9g⟩
     refine nrm ?_
     have X0h:=xtr X0c E5a
     have q8c:=(((((((q6a.ext E4a).ext E1a).ext E0a).ext E2a).ext E3a).ext E9a).ext E0b).ext E5a
     refine Ax DU rfl rfl q8c rfl rfl rfl rfl (by simp only [SP0,SP1,S0,S1,Nat.reduceAdd];rfl) fun w1d U9c q1h=>?_
     have X2h:=belU X0h U9c g2b
     have ne8e:=(Bx.neT (((((((q7a.ext E1a).ext E0a).ext E2a).ext E3a).ext E9a).ext E0b).ext E5a) q8c (by decide))
     have q9e:=(((((((q7a.ext E1a).ext E0a).ext E2a).ext E3a).ext E9a).ext E0b).ext E5a).upd U9c ne8e
     refine Ax GA rfl rfl q9e rfl rfl rfl rfl (by simp only [SP0,SP1,S0,S1,Nat.reduceAdd];rfl) fun w6a U0d q3h=>?_
     have X4h:=belU X2h U0d g4b
     refine Ad<|h0e _ _<|wp_ret ?_
     have n5h:=(n9g.upd U9c q8c (by decide)).upd U0d q9e (by decide)
     obtain rfl:=sj f6g
     obtain rfl:=sj hr0
     exact LH Fc HC rfl (Res.cellN rfl Bk (q1h.upd U0d (Ne.symm ne8e)) rfl rfl (Res.cell1 rfl Ck (Bx.cell q3h rfl) Res.nil)) (Ak X4h ⟨A7g,c8g,rfl,n5h⟩)
    ·refine scP (Ae Jh (by rfl)) (Dc r6c A5e c6e w9 (tbx X0c hT) n7e (.error r1c) h7c) fun w1b E5a=>?_
     have X6h:=xtr X0c E5a
     have q7h:=(((((((q6a.ext E4a).ext E1a).ext E0a).ext E2a).ext E3a).ext E9a).ext E0b).ext E5a
     have q8h:=((((((q7a.ext E1a).ext E0a).ext E2a).ext E3a).ext E9a).ext E0b).ext E5a
     refine HR HC (BY b9 b3b (.bool false:Value) (.slice none 0 0:Value) (.int .i64 0:Value) (.int .i64 0:Value) r1c q7h q8h) rfl ?_
     rintro w9 ⟨u9,q9,q9'⟩
     obtain rfl:=sj hr0
     exact ⟨_,(Res.cellN rfl Bk q9 rfl rfl (Res.cell1 rfl Ck (Bx.cell q9' rfl) Res.nil)),Ak (u9.toExt X6h g2b g4b) ⟨none,0,rfl,RU.nil _⟩⟩
   ·refine scP (Ae MQ (by rfl)) (Hk x2 w6 (tbx X8b hT)  (.error r9b) h4c) fun w7 E3a=>?_
    have X9h:=xtr X8b E3a
    have q0i:=((((q6a.ext E4a).ext E1a).ext E0a).ext E2a).ext E3a
    have q1i:=(((q7a.ext E1a).ext E0a).ext E2a).ext E3a
    refine HR HC (BY b9 b3b (.bool false:Value) (.slice none 0 0:Value) (.int .i64 0:Value) (.int .i64 0:Value) r9b q0i q1i) rfl ?_
    rintro w9 ⟨u9,q9,q9'⟩
    obtain rfl:=sj hr0
    exact ⟨_,(Res.cellN rfl Bk q9 rfl rfl (Res.cell1 rfl Ck (Bx.cell q9' rfl) Res.nil)),Ak (u9.toExt X9h g2b g4b) ⟨none,0,rfl,RU.nil _⟩⟩
  ·refine scP (Ae Jk (by rfl)) (EH x1 w5 (tbx X6b hT)  (.error r7b) h3c) fun w6 E2a=>?_
   have X2i:=xtr X6b E2a
   have q3i:=(((q6a.ext E4a).ext E1a).ext E0a).ext E2a
   have q4i:=((q7a.ext E1a).ext E0a).ext E2a
   refine HR HC (BY b9 b3b (.bool false:Value) (.slice none 0 0:Value) (.int .i64 0:Value) (.int .i64 0:Value) r7b q3i q4i) rfl ?_
   rintro w9 ⟨u9,q9,q9'⟩
   obtain rfl:=sj hr0
   exact ⟨_,(Res.cellN rfl Bk q9 rfl rfl (Res.cell1 rfl Ck (Bx.cell q9' rfl) Res.nil)),Ak (u9.toExt X2i g2b g4b) ⟨none,0,rfl,RU.nil _⟩⟩
 ·refine scP (Ae Je (by rfl)) (DO x0 b6d A1 c2 w4 (tbx X8a hT) (n3.ext X8a) q7d (.error r5b) h2c) fun w5 E0a=>?_
  have X5i:=xtr X8a E0a
  have q6i:=((q6a.ext E4a).ext E1a).ext E0a
  refine HR HC (BY b9 b3b (.bool false:Value) (.slice none 0 0:Value) (.int .i64 0:Value) (.int .i64 0:Value) r5b q6i ((q7a.ext E1a).ext E0a)) rfl ?_
  rintro w9 ⟨u9,q9,q9'⟩
  obtain rfl:=sj hr0
  exact ⟨_,(Res.cellN rfl Bk q9 rfl rfl (Res.cell1 rfl Ck (Bx.cell q9' rfl) Res.nil)),Ak (u9.toExt X5i g2b g4b) ⟨none,0,rfl,RU.nil _⟩⟩
theorem Cy (x0:Int) (x1:Int) (w:World) (hT:TB w) (r:AC) (hr:BL x0 x1=some r) :
  Calls Tryz.prog 97 #[.int .i64 x0,.int .i64 x1] w (Ret Mk w r):=by
 unfold BL at hr
 go_enter Tryz.func97,Tryz.ntmps97
 refine wp_seq_k fun K1 h1=>Af<|Aw Hp fun b2 w1 E3 g4 q5=>?_
 refine nrm ?_
 refine Ad<|h1 _ _<|wp_seq_k fun K6 h6=>Af<|sV (Aa rfl) ?_
 obtain ⟨r7,h8,f9⟩:=Ab hr
 refine sc (Ae JQ (by rfl)) (Br x0 0 w1 (tbx E3 hT)  r7 h8) ?_
 rintro _ w2 E0b ⟨A3a,c4a,rfl,n8b⟩
 refine nrm ?_
 have X1b:=xtr E3 E0b
 refine Aw FM fun b5d w3 E9b g2b q0c=>?_
 refine nrm ?_
 have g6d:=nlt X1b.size g2b
 refine Ax DU rfl rfl q0c rfl rfl rfl rfl (by simp only [SP0,SP1,S0,S1,Nat.reduceAdd];rfl) fun w4 U1c q2c=>?_
 have F5a:=belU E9b U1c g2b
 have X3b:=xtr X1b F5a
 refine Ad<|h6 _ _<|wp_seq_k fun K4b h4b=>Af<|sV (Aa rfl) ?_
 obtain ⟨r0a,h3c,f4c⟩:=Ab f9
 refine sc (Ae JQ (by rfl)) (Br x1 0 w4 (tbx X3b hT)  r0a h3c) ?_
 rintro _ w5 E2a ⟨A6a,c7a,rfl,n5c⟩
 refine nrm ?_
 have X5b:=xtr X3b E2a
 refine Aw FM fun b7d w6 E6c g6b q7c=>?_
 refine nrm ?_
 have g8d:=nlt X5b.size g6b
 refine Ax DU rfl rfl q7c rfl rfl rfl rfl (by simp only [SP0,SP1,S0,S1,Nat.reduceAdd];rfl) fun w7 U8c q9c=>?_
 have F1a:=belU E6c U8c g6b
 have X0d:=xtr X5b F1a
 refine Ad<|h4b _ _<|wp_seq_k fun K7b h7b=>Af<|sV (Am Bk rfl ((q2c.ext E2a).ext F1a) rfl) ?_
 refine sV (Am Bk rfl q9c rfl) ?_
 refine sV (Bc (vals:=[(0,.agg #[.bool r7.Man.Neg,.slice A3a (sz r7.Man.Abs) c4a,.int .i64 r7.Exp]),(1,.agg #[.bool r0a.Man.Neg,.slice A6a (sz r0a.Man.Abs) c7a,.int .i64 r0a.Exp])]) (cells:=[.bool r7.Man.Neg,.slice A3a (sz r7.Man.Abs) c4a,.int .i64 r7.Exp,.bool r0a.Man.Neg,.slice A6a (sz r0a.Man.Abs) c7a,.int .i64 r0a.Exp]) (by rfl) (by kernel_rfl)) ?_
 have q8a:=(((q5.ext E0b).ext F5a).ext E2a).ext F1a
 refine Ax GJ rfl rfl q8a rfl rfl rfl rfl (by simp only [SP0,SP1,S0,S1,Nat.reduceAdd];rfl) fun w8 U9a q1d=>?_
 have X2d:=belU X0d U9a g4
 refine Ad<|h7b _ _<|wp_ret ?_
 have n3d:=(((n8b.ext F5a).ext E2a).ext F1a).upd U9a q8a (by decide)
 have n4d:=(n5c.ext F1a).upd U9a q8a (by decide)
 obtain rfl:=sj f4c
 exact fin rfl (Res.cellN rfl CP q1d rfl rfl Res.nil) (Ak X2d ⟨A3a,c4a,A6a,c7a,rfl,n3d,n4d⟩)
theorem Cp (b b':Nat) (v0 v1 v2 v3 v4 v5:Value) (u:Value) (n:Int) {w:World} (qa:Bx w b 29 [v0,v1,v2,v3,v4,v5]) (qb:Bx w b' 33 [u]) :
  CallsD Tryz.prog 161 #[.pointer (some ⟨b,0,none⟩),.pointer (some ⟨b',0,none⟩)] (.panicking [entry 201 n]) w fun e u' w'=>e = .returned (.tuple #[])∧u' = .panicking [{ entry 201 n with recovered:=true }]∧(Upd2 b b' w w'∧Bx w' b 29 [.bool false,.slice none 0 0,.int .i64 0,.bool false,.slice none 0 0,.int .i64 0]∧Bx w' b' 33 [.int .i64 n]):=by
 refine Jf Tryz.func161 rfl [.pointer (some ⟨b,0,none⟩),.pointer (some ⟨b',0,none⟩),uu,uu,uu,uu,uu,uu,uu,uu,uu,uu,uu,uu,uu,uu,uu,uu,uu,uu,uu,uu,uu,uu,uu,uu] (by simp [Tryz.ntmps161]) fun c₀ cs hu=>?_
 apply wpS_seq
 refine Pv hu rfl ?_
 simp only [S0,S1]
 refine wpS_of_wp<|wp_seq_k fun K1 h1=>Af<|sV (Aa rfl) ?_
 refine sV (KV Kx rfl) ?_
 refine Ad<|h1 _ _<|wp_cond_true (Aj (evb rfl rfl))<|wp_seq_k fun K2 h2=>Af<|sV (Aa rfl) ?_
 refine sV (Kj Ml rfl) ?_
 refine sV (Aa rfl) ?_
 refine sV (Ap rfl rfl) ?_
 refine sV (Ap rfl rfl) ?_
 refine Aw MP fun b3 w1 E4 g5 q6=>?_
 refine nrm ?_
 have X7:=(Upd2.refl b b' w).ext E4
 refine Ax MJ rfl rfl q6 rfl rfl rfl rfl (by simp only [SP0,SP1,S0,S1,Nat.reduceAdd];rfl) fun w2 U8 q9=>?_
 have X3a:=X7.upd U8 (.inl g5)
 refine sV (Ac rfl) ?_
 refine Ad<|h2 _ _<|wp_seq_k fun K4a h4a=>wp_seq_k fun K5a h5a=>Af<|sV (Aa rfl) ?_
 refine sV (Lb rfl rfl rfl) ?_
 refine Ad<|h5a _ _<|wp_cond_false (Aj (evb rfl rfl))<|wp_skip<|h4a _ _<|wp_seq_k fun K6a h6a=>Af<|Aw Hp fun b8c w3 E1a g2b q3b=>?_
 refine nrm ?_
 have g9c:=nlt X3a.size g2b
 have X4b:=X3a.ext E1a
 refine Ad<|h6a _ _<|Ei [6,8] 9 mo rfl fun w4 E0a S5b=>have X6b:=X4b.ext E0a;dA 0 rfl (fun _=>Aa rfl) ?_
 refine dA 1 rfl (fun _=>Aa rfl) ?_
 refine dV 2 rfl (fun _ hw=>Am CP rfl ((q3b.ext E0a).ext hw) rfl) S5b ?_
 refine dA 3 rfl (fun _=>Ai (o':=0) KW rfl rfl) ?_
 refine dA 5 rfl (fun _=>Bn rfl) ?_
 refine IP #[true,true,true,true,true,true,true,false,false] 2 (fun l l' w'=>UpdS [b] w4 w'∧Bx w' b 29 [.bool false,.slice none 0 0,.int .i64 0,.bool false,.slice none 0 0,.int .i64 0]∧l'=(l.set 23 (.int .i64 n))) ?_ ?_
 ·intro HJ38
  refine GF 4 6 (by kernel_rfl) ?_ ?_
  ·refine opV 4 rfl (by rfl) (Ag Ck rfl (Bx.cell ((q9.ext E1a).ext E0a) rfl)) (dnrm ?_)
   refine CF 6 (by kernel_rfl) ?_
   ·have F7b:=belU E4 U8 g5
    refine opK 6 rfl (by decide) (by rfl) GJ rfl rfl (((qa.ext F7b).ext E1a).ext E0a) rfl rfl rfl rfl (by simp only [SP0,SP1,S0,S1,Nat.reduceAdd];rfl) fun w5 U8b q9b=>?_
    exact Et (by kernel_rfl) (HJ38 _ _ ⟨((UpdS.refl _ _).upd U8b (.inl im0)),q9b,(by simp only [S0,S1]<;>rfl)⟩)
  ·have F7a:=belU E4 U8 g5
   refine opK 6 rfl (by decide) (by rfl) GJ rfl rfl (((qa.ext F7a).ext E1a).ext E0a) rfl rfl rfl rfl (by simp only [SP0,SP1,S0,S1,Nat.reduceAdd];rfl) fun w5 U8a q0c=>?_
   refine CF 4 (by kernel_rfl) ?_
   ·have ne1c:=(Bx.neT ((q9.ext E1a).ext E0a) (((qa.ext F7a).ext E1a).ext E0a) (by decide))
    have q2c:=((q9.ext E1a).ext E0a).upd U8a ne1c
    refine opV 4 rfl (by rfl) (Ag Ck rfl (Bx.cell q2c rfl)) (dnrm ?_)
    exact Et (by kernel_rfl) (HJ38 _ _ ⟨((UpdS.refl _ _).upd U8a (.inl im0)),q0c,(by simp only [S0,S1]<;>rfl)⟩)
 ·rintro l' w5 ⟨U9a,q3c,hq'⟩ l'' hl
  rw [hq'] at hl
  clear hq'
  simp only [S0,S1] at hl
  subst hl
  have X4c:=X6b.updS U9a (alc (.inr (.inl rfl)) al0)
  refine dA 7 rfl (fun _=>Bn rfl) ?_
  have F2a:=belU E4 U8 g5
  have ne0b:=(Bx.neT (((qb.ext F2a).ext E1a).ext E0a) (((qa.ext F2a).ext E1a).ext E0a) (by decide))
  have q5c:=(((qb.ext F2a).ext E1a).ext E0a).updS U9a (nmc ne0b nm0)
  refine dk 8 rfl (by kernel_rfl) (by decide) (by rfl) GA rfl rfl q5c rfl rfl rfl rfl (by simp only [SP0,SP1,S0,S1,Nat.reduceAdd];rfl) fun w6 U1b q6c=>?_
  have X7c:=X4c.upd U1b (.inr (.inr rfl))
  refine CU (by kernel_rfl) ?_
  exact Pw (by kernel_rfl) ⟨rfl,rfl,X7c,(q3c.upd U1b (Ne.symm ne0b)),q6c⟩
theorem Gu:Pj Tryz.prog 161:=by
 intro ar b b' w ha
 subst ha
 refine Jf Tryz.func161 rfl [.pointer (some ⟨b,0,none⟩),.pointer (some ⟨b',0,none⟩),uu,uu,uu,uu,uu,uu,uu,uu,uu,uu,uu,uu,uu,uu,uu,uu,uu,uu,uu,uu,uu,uu,uu,uu] (by simp [Tryz.ntmps161]) fun c₀ cs hu=>?_
 apply wpS_seq
 refine Pl hu rfl ?_
 simp only [S0,S1]
 refine wpS_of_wp<|wp_seq_k fun K1 h1=>Af<|sV (Aa rfl) ?_
 refine sV (Jp Kx rfl) ?_
 refine Ad<|h1 _ _<|wp_cond_false (Aj (evb rfl rfl))<|wp_skip ?_
 exact Ol hu (by kernel_rfl) ⟨rfl,rfl,rfl⟩
theorem c_wide_Int_Sign (x0:Ah) (A1:Option Addr) (c2:Nat) (w:World) (hT:TB w) (n3:RU w A1 c2 x0.Abs) (r:Int) (hr:Hh x0=some r) :
  Calls Tryz.prog 182 #[.agg #[.bool x0.Neg,.slice A1 (sz x0.Abs) c2]] w (Ret GI w r):=by
 unfold Hh at hr
 go_enter Tryz.func182,Tryz.ntmps182
 refine wp_seq_k fun K4 h4=>Af<|BT rfl rfl fun b5 w1 E6 g7 q8=>?_
 refine nrm ?_
 refine sV (Ac rfl) ?_
 refine Ad<|h4 _ _<|wp_seq_k fun K9 h9=>?_
 apply wp_block
 refine wp_seq_k fun K3a h3a=>Af<|sV (Ai (o':=1) Bs rfl rfl) ?_
 refine sV (Ag CQ rfl (Bx.cell q8 rfl)) ?_
 refine sV (AD Ar rfl) ?_
 refine sb (Ce rfl rfl) fun z2a hz2a=>?_
 refine nrm ?_
 refine sV (Ac rfl) ?_
 refine Ad<|h3a _ _ ?_
 rcases bft z2a with e0a | e0a
 ·have p8a:=zP hz2a e0a
  have f9a:=ifP p8a hr
  refine wp_cond_true (Aj (evb rfl e0a))<|wp_seq_k fun K4a h4a=>Af<|sV (Ac rfl) ?_
  refine Ad<|h4a _ _<|wp_ret ?_
  obtain rfl:=sj f9a
  exact fin rfl (Res.tmp rfl Res.nil) (Ak E6 rfl)
 ·have p0b:=zN hz2a e0a
  have f32:=ifN p0b hr
  refine wp_cond_false (Aj (evb rfl e0a))<|wp_seq_k fun K5a h5a=>Af<|sV (Ai (o':=0) EC rfl rfl) ?_
  refine sV (Ag Ik rfl (Bx.cell q8 rfl)) ?_
  refine sV (Ac rfl) ?_
  refine Ad<|h5a _ _ ?_
  rcases bft x0.Neg with e1a | e1a
  ·have p1b:=e1a
   have f2b:=ifP p1b f32
   refine wp_cond_true (Aj (evb rfl e1a))<|wp_seq_k fun K6a h6a=>Af<|sV (Ac rfl) ?_
   refine Ad<|h6a _ _<|wp_ret ?_
   obtain rfl:=sj f2b
   exact fin rfl (Res.tmp rfl Res.nil) (Ak E6 rfl)
  ·have p3b:=bF e1a
   have f4b:=ifN p3b f32
   refine wp_cond_false (Aj (evb rfl e1a))<|wp_skip<|h9 _ _<|wp_seq_k fun K7a h7a=>Af<|sV (Ac rfl) ?_
   refine Ad<|h7a _ _<|wp_ret ?_
   obtain rfl:=sj f4b
   exact fin rfl (Res.tmp rfl Res.nil) (Ak E6 rfl)
theorem Dj (x0:An) (A1:Option Addr) (c2:Nat) (w:World) (hT:TB w) (n3:RU w A1 c2 x0.m.Abs) (r:Int) (hr:Bz x0=some r) :
  Calls Tryz.prog 103 #[.agg #[.bool x0.m.Neg,.slice A1 (sz x0.m.Abs) c2,.int .i64 x0.e]] w (Ret GI w r):=by
 unfold Bz at hr
 go_enter Tryz.func103,Tryz.ntmps103
 refine wp_seq_k fun K4 h4=>Af<|BT rfl rfl fun b5 w1 E6 g7 q8=>?_
 refine nrm ?_
 refine sV (Ac rfl) ?_
 refine Ad<|h4 _ _<|wp_seq_k fun K9 h9=>Af<|sV (Ai (o':=0) BZ rfl rfl) ?_
 refine sV (AH DS rfl q8 (by simp only [List.drop_zero,List.take_succ_cons,List.take_zero];rfl) rfl) ?_
 obtain ⟨r0a,h1a,f2a⟩:=Ab hr
 refine sc (Ae en_182 (by rfl)) (c_wide_Int_Sign x0.m A1 c2 w1 (tbx E6 hT) (n3.ext E6) r0a h1a) ?_
 rintro _ w2 E3a rfl
 refine nrm ?_
 have X4a:=xtr E6 E3a
 refine sV (Ac rfl) ?_
 refine Ad<|h9 _ _<|wp_ret ?_
 obtain rfl:=sj f2a
 exact fin rfl (Res.tmp rfl Res.nil) (Ak X4a rfl)
theorem JX (x0:Int) (x1:Int) (w:World) (hT:TB w) (r:Int) (hr:FX x0 x1=some r) :
  Calls Tryz.prog 187 #[.int .i64 x0,.int .i64 x1] w (Ret GI w r):=by
 unfold FX at hr
 go_enter Tryz.func187,Tryz.ntmps187
 refine wp_seq_k fun K1 h1=>Af<|sV (Ac rfl) ?_
 refine Ad<|h1 _ _<|wp_seq_k fun K2 h2=>?_
 apply wp_block
 refine wp_seq_k fun K3 h3=>Af<|sV (Aa rfl) ?_
 refine sV (Aa rfl) ?_
 refine sb (Cm rfl rfl) fun z4 hz4=>?_
 refine nrm ?_
 refine sV (Ac rfl) ?_
 refine Ad<|h3 _ _ ?_
 rcases bft z4 with e0a | e0a
 ·have p8a:=zP hz4 e0a
  have f9a:=ifP p8a hr
  refine wp_cond_true (Aj (evb rfl e0a))<|wp_seq_k fun K3a h3a=>Af<|sV (Ac rfl) ?_
  refine Ad<|h3a _ _<|wp_ret ?_
  obtain rfl:=sj f9a
  exact fin rfl (Res.tmp rfl Res.nil) (Ak (Ext.refl _) rfl)
 ·have p0b:=zN hz4 e0a
  have f4a:=ifN p0b hr
  refine wp_cond_false (Aj (evb rfl e0a))<|wp_seq_k fun K5a h5a=>Af<|sV (Aa rfl) ?_
  refine sV (Aa rfl) ?_
  refine sb (Fs rfl rfl) fun z2a hz2a=>?_
  refine nrm ?_
  refine sV (Ac rfl) ?_
  refine Ad<|h5a _ _ ?_
  rcases bft z2a with e1a | e1a
  ·have p1b:=zP hz2a e1a
   have f2b:=ifP p1b f4a
   refine wp_cond_true (Aj (evb rfl e1a))<|wp_seq_k fun K6a h6a=>Af<|sV (Ac rfl) ?_
   refine Ad<|h6a _ _<|wp_ret ?_
   obtain rfl:=sj f2b
   exact fin rfl (Res.tmp rfl Res.nil) (Ak (Ext.refl _) rfl)
  ·have p3b:=zN hz2a e1a
   have f4b:=ifN p3b f4a
   refine wp_cond_false (Aj (evb rfl e1a))<|wp_skip<|h2 _ _<|wp_seq_k fun K7a h7a=>Af<|sV (Ac rfl) ?_
   refine Ad<|h7a _ _<|wp_ret ?_
   obtain rfl:=sj f4b
   exact fin rfl (Res.tmp rfl Res.nil) (Ak (Ext.refl _) rfl)
theorem IK (x0:An) (A1:Option Addr) (c2:Nat) (w:World) (hT:TB w) (n3:RU w A1 c2 x0.m.Abs) (r:Int) (hr:EU x0=some r) :
  Calls Tryz.prog 122 #[.agg #[.bool x0.m.Neg,.slice A1 (sz x0.m.Abs) c2,.int .i64 x0.e]] w (Ret GI w r):=by
 unfold EU at hr
 go_enter Tryz.func122,Tryz.ntmps122
 refine wp_seq_k fun K4 h4=>Af<|BT rfl rfl fun b5 w1 E6 g7 q8=>?_
 refine nrm ?_
 refine sV (Ac rfl) ?_
 refine Ad<|h4 _ _<|wp_seq_k fun K9 h9=>Ei [] 9 mo rfl fun w2 E0a S1a=>have X2a:=xtr E6 E0a;dA 0 rfl (fun _=>Ai (o':=0) BZ rfl rfl) ?_
 refine dA 1 rfl (fun _=>Ai (o':=1) Bs rfl rfl) ?_
 refine dV 2 rfl (fun _ hw=>Ag CQ rfl (Bx.cell ((q8.ext E0a).ext hw) rfl)) S1a ?_
 refine dA 5 rfl (fun _=>Ai (o':=2) DE rfl rfl) ?_
 refine dV 6 rfl (fun _ hw=>Ag Ey rfl (Bx.cell ((q8.ext E0a).ext hw) rfl)) S1a ?_
 obtain ⟨r3a,h5a,f6a⟩:=Ab hr
 refine dc 3 rfl (by kernel_rfl) (by rfl) (Ae Lm (by rfl)) (DP x0.m.Abs A1 c2 w2 (tbx X2a hT) (n3.ext X2a) r3a h5a) ?_
 rintro _ w3 E4a rfl
 refine dnrm ?_
 have X7a:=xtr X2a E4a
 have S8a:=S1a.trans E4a
 refine dA 4 rfl (fun _=>Bv (c:=wi64 (r3a - 1)) rfl rfl rfl) ?_
 refine dA 7 rfl (fun _=>Bd (c:=wi64 ((wi64 (r3a - 1))+x0.e)) rfl rfl rfl) ?_
 refine dA 8 rfl (fun _=>Ac rfl) ?_
 refine CU (by kernel_rfl) ?_
 refine h9 _ _<|wp_ret ?_
 obtain rfl:=sj f6a
 exact fin rfl (Res.tmp rfl Res.nil) (Ak X7a rfl)
theorem c_wide_Int_Minus (x0:Ah) (A1:Option Addr) (c2:Nat) (w:World) (hT:TB w) (n3:RU w A1 c2 x0.Abs) (r:Ah) (hr:GW x0=some r) :
  Calls Tryz.prog 192 #[.agg #[.bool x0.Neg,.slice A1 (sz x0.Abs) c2]] w (Ret KH w r):=by
 unfold GW at hr
 go_enter Tryz.func192,Tryz.ntmps192
 refine wp_seq_k fun K4 h4=>Af<|BT rfl rfl fun b5 w1 E6 g7 q8=>?_
 refine nrm ?_
 refine Aw Hl fun b9 w2 E1a g2a q5a=>?_
 refine nrm ?_
 have g9a:=nlt E6.size g2a
 refine Ad<|h4 _ _<|wp_seq_k fun K3a h3a=>Af<|sV (Ai (o':=0) EC rfl rfl) ?_
 refine sV (Ag Ik rfl (Bx.cell (q8.ext E1a) rfl)) ?_
 refine sb (ER rfl) fun z0a hz0a=>?_
 refine nrm ?_
 refine sV (Ai (o':=1) Bs rfl rfl) ?_
 refine sV (Ag CQ rfl (Bx.cell (q8.ext E1a) rfl)) ?_
 refine sV (Bc (vals:=[(0,.bool z0a),(1,.slice A1 (sz x0.Abs) c2)]) (cells:=[.bool z0a,.slice A1 (sz x0.Abs) c2]) (by rfl) (by kernel_rfl)) ?_
 refine Ax Gt rfl rfl q5a rfl rfl rfl rfl (by simp only [SP0,SP1,S0,S1,Nat.reduceAdd];rfl) fun w3 U6a q7a=>?_
 have F8a:=belU E1a U6a g2a
 have X4a:=xtr E6 F8a
 refine Ad<|h3a _ _<|wp_ret ?_
 obtain rfl:z0a=decide (¬(x0.Neg=true)):=bz hz0a
 obtain rfl:=sj hr
 exact fin rfl (Res.cellN rfl DS q7a rfl rfl Res.nil) (Ak X4a ⟨A1,c2,rfl,(n3.ext X4a)⟩)
theorem c_dyad_num_minus (x0:An) (A1:Option Addr) (c2:Nat) (w:World) (hT:TB w) (n3:RU w A1 c2 x0.m.Abs) (r:An) (hr:GY x0=some r) :
  Calls Tryz.prog 115 #[.agg #[.bool x0.m.Neg,.slice A1 (sz x0.m.Abs) c2,.int .i64 x0.e]] w (Ret HW w r):=by
 unfold GY at hr
 go_enter Tryz.func115,Tryz.ntmps115
 refine wp_seq_k fun K4 h4=>Af<|BT rfl rfl fun b5 w1 E6 g7 q8=>?_
 refine nrm ?_
 refine Aw Ba fun b9 w2 E3a g1b q8a=>?_
 refine nrm ?_
 have g2b:=nlt E6.size g1b
 have X3b:=xtr E6 E3a
 refine Ad<|h4 _ _<|wp_seq_k fun K9a h9a=>Ei [6] 7 mo rfl fun w3 E0a S4a=>have X5a:=xtr X3b E0a;dA 0 rfl (fun _=>Ai (o':=0) BZ rfl rfl) ?_
 refine dV 1 rfl (fun _ hw=>AH DS rfl (((q8.ext E3a).ext E0a).ext hw) (by simp only [List.drop_zero,List.take_succ_cons,List.take_zero];rfl) rfl) S4a ?_
 refine dA 3 rfl (fun _=>Ai (o':=2) DE rfl rfl) ?_
 refine dV 4 rfl (fun _ hw=>Ag Ey rfl (Bx.cell (((q8.ext E3a).ext E0a).ext hw) rfl)) S4a ?_
 obtain ⟨r1a,h4b,f5b⟩:=Ab hr
 refine dc 2 rfl (by kernel_rfl) (by rfl) (Ae en_192 (by rfl)) (c_wide_Int_Minus x0.m A1 c2 w3 (tbx X5a hT) (n3.ext X5a) r1a h4b) ?_
 rintro _ w4 E2a ⟨A6a,c7a,rfl,n6b⟩
 refine dnrm ?_
 have X7b:=xtr X5a E2a
 have S1c:=S4a.trans E2a
 refine dA 5 rfl (fun _=>Bc (vals:=[(0,.agg #[.bool r1a.Neg,.slice A6a (sz r1a.Abs) c7a]),(1,.int .i64 x0.e)]) (cells:=[.bool r1a.Neg,.slice A6a (sz r1a.Abs) c7a,.int .i64 x0.e]) (by rfl) (by kernel_rfl)) ?_
 refine dk 6 rfl (by kernel_rfl) (by decide) (by rfl) BX rfl rfl ((q8a.ext E0a).ext E2a) rfl rfl rfl rfl (by simp only [SP0,SP1,S0,S1,Nat.reduceAdd];rfl) fun w5 U0b q8b=>?_
 have X9b:=belU X7b U0b g2b
 refine CU (by kernel_rfl) ?_
 refine h9a _ _<|wp_ret ?_
 have n0c:=n6b.upd U0b ((q8a.ext E0a).ext E2a) (by decide)
 obtain rfl:=sj f5b
 exact fin rfl (Res.cellN rfl AE q8b rfl rfl Res.nil) (Ak X9b ⟨A6a,c7a,rfl,n0c⟩)
theorem c_wide_Int_Add (x0:Ah) (x1:Ah) (A1:Option Addr) (c2:Nat) (A4:Option Addr) (c5:Nat) (w:World) (hT:TB w) (n3:RU w A1 c2 x0.Abs) (n6:RU w A4 c5 x1.Abs) (r:Ah) (hr:HG x0 x1=some r) :
  Calls Tryz.prog 196 #[.agg #[.bool x0.Neg,.slice A1 (sz x0.Abs) c2],.agg #[.bool x1.Neg,.slice A4 (sz x1.Abs) c5]] w (Ret KH w r):=by
 unfold HG at hr
 go_enter Tryz.func196,Tryz.ntmps196
 refine wp_seq_k fun K7 h7=>Af<|BT rfl rfl fun b8 w1 E9 g9h q3a=>?_
 refine nrm ?_
 refine BT rfl rfl fun b0i w2 E2a g8e q4a=>?_
 refine nrm ?_
 have g1i:=nlt E9.size g8e
 have X3d:=xtr E9 E2a
 refine Aw Hl fun b2i w3 E0a g9e q1b=>?_
 refine nrm ?_
 have g1c:=nlt X3d.size g9e
 have X6a:=xtr X3d E0a
 refine Ad<|h7 _ _<|wp_seq_k fun K4d h4d=>wp_seq_k fun K5d h5d=>Af<|sV (Ai (o':=0) EC rfl rfl) ?_
 refine sV (Ag Ik rfl (Bx.cell ((q3a.ext E2a).ext E0a) rfl)) ?_
 refine sV (Ai (o':=0) EC rfl rfl) ?_
 refine sV (Ag Ik rfl (Bx.cell (q4a.ext E0a) rfl)) ?_
 refine sb (OY OM rfl rfl) fun z2b hz2b=>?_
 refine nrm ?_
 refine Ad<|h5d _ _ ?_
 rcases bft z2b with e7a | e7a
 ·have p0f:=zP hz2b e7a
  have f1f:=ifP p0f hr
  refine wp_cond_true (Aj (evb rfl e7a))<|wp_seq_k fun K6d h6d=>Ei [8] 9 mo rfl fun w4 E5a S3b=>have X4b:=xtr X6a E5a;dA 0 rfl (fun _=>Ai (o':=0) EC rfl rfl) ?_
  refine dV 1 rfl (fun _ hw=>Ag Ik rfl (Bx.cell ((((q3a.ext E2a).ext E0a).ext E5a).ext hw) rfl)) S3b ?_
  refine dA 2 rfl (fun _=>Ai (o':=1) Bs rfl rfl) ?_
  refine dV 3 rfl (fun _ hw=>Ag CQ rfl (Bx.cell ((((q3a.ext E2a).ext E0a).ext E5a).ext hw) rfl)) S3b ?_
  refine dA 4 rfl (fun _=>Ai (o':=1) Bs rfl rfl) ?_
  refine dV 5 rfl (fun _ hw=>Ag CQ rfl (Bx.cell (((q4a.ext E0a).ext E5a).ext hw) rfl)) S3b ?_
  obtain ⟨r2c,h2f,f3f⟩:=Ab f1f
  refine dc 6 rfl (by kernel_rfl) (by rfl) (Ae NI (by rfl)) (GH x0.Abs x1.Abs A1 c2 A4 c5 w4 (tbx X4b hT) (n3.ext X4b) (n6.ext X4b) r2c h2f) ?_
  rintro _ w5 E5b ⟨A3c,c4c,rfl,n4f⟩
  refine dnrm ?_
  have X5f:=xtr X4b E5b
  have S3i:=S3b.trans E5b
  refine dA 7 rfl (fun _=>Bc (vals:=[(0,.bool x0.Neg),(1,.slice A3c (sz r2c) c4c)]) (cells:=[.bool x0.Neg,.slice A3c (sz r2c) c4c]) (by rfl) (by kernel_rfl)) ?_
  refine dk 8 rfl (by kernel_rfl) (by decide) (by rfl) Gt rfl rfl ((q1b.ext E5a).ext E5b) rfl rfl rfl rfl (by simp only [SP0,SP1,S0,S1,Nat.reduceAdd];rfl) fun w6 U7d q6f=>?_
  have X7f:=belU X5f U7d g1c
  refine CU (by kernel_rfl) ?_
  refine h6d _ _<|wp_ret ?_
  have n8f:=n4f.upd U7d ((q1b.ext E5a).ext E5b) (by decide)
  obtain rfl:=sj f3f
  exact fin rfl (Res.cellN rfl DS q6f rfl rfl Res.nil) (Ak X7f ⟨A3c,c4c,rfl,n8f⟩)
 ·have p9f:=zN hz2b e7a
  have f0g:=ifN p9f hr
  refine wp_cond_false (Aj (evb rfl e7a))<|wp_skip<|h4d _ _<|wp_seq_k fun K8d h8d=>wp_seq_k fun K9d h9d=>Af<|sV (Ai (o':=1) Bs rfl rfl) ?_
  refine sV (Ag CQ rfl (Bx.cell ((q3a.ext E2a).ext E0a) rfl)) ?_
  refine sV (Ai (o':=1) Bs rfl rfl) ?_
  refine sV (Ag CQ rfl (Bx.cell (q4a.ext E0a) rfl)) ?_
  obtain ⟨r1g,h2g,f0e⟩:=Ab f0g
  refine sc (Ae Mc (by rfl)) (FK x0.Abs x1.Abs A1 c2 A4 c5 w3 (tbx X6a hT) (n3.ext X6a) (n6.ext X6a) r1g h2g) ?_
  rintro _ w4 E1a rfl
  refine nrm ?_
  have X1e:=xtr X6a E1a
  refine sb (EP rfl rfl) fun z6b hz6b=>?_
  refine nrm ?_
  refine Ad<|h9d _ _ ?_
  rcases bft z6b with e8a | e8a
  ·have p3g:=zP hz6b e8a
   have f4g:=ifP p3g f0e
   refine wp_cond_true (Aj (evb rfl e8a))<|wp_seq_k fun K2e h2e=>Ei [8] 9 mo rfl fun w5 E9a S7b=>have X8b:=xtr X1e E9a;dA 0 rfl (fun _=>Ai (o':=0) EC rfl rfl) ?_
   refine dV 1 rfl (fun _ hw=>Ag Ik rfl (Bx.cell (((((q3a.ext E2a).ext E0a).ext E1a).ext E9a).ext hw) rfl)) S7b ?_
   refine dA 2 rfl (fun _=>Ai (o':=1) Bs rfl rfl) ?_
   refine dV 3 rfl (fun _ hw=>Ag CQ rfl (Bx.cell (((((q3a.ext E2a).ext E0a).ext E1a).ext E9a).ext hw) rfl)) S7b ?_
   refine dA 4 rfl (fun _=>Ai (o':=1) Bs rfl rfl) ?_
   refine dV 5 rfl (fun _ hw=>Ag CQ rfl (Bx.cell ((((q4a.ext E0a).ext E1a).ext E9a).ext hw) rfl)) S7b ?_
   obtain ⟨r5c,h5g,f6g⟩:=Ab f4g
   refine dc 6 rfl (by kernel_rfl) (by rfl) (Ae MW (by rfl)) (FI x0.Abs x1.Abs A1 c2 A4 c5 w5 (tbx X8b hT) (n3.ext X8b) (n6.ext X8b) r5c h5g) ?_
   rintro _ w6 E6c ⟨A7c,c8c,rfl,n7g⟩
   refine dnrm ?_
   have X8g:=xtr X8b E6c
   have S4i:=S7b.trans E6c
   refine dA 7 rfl (fun _=>Bc (vals:=[(0,.bool x0.Neg),(1,.slice A7c (sz r5c) c8c)]) (cells:=[.bool x0.Neg,.slice A7c (sz r5c) c8c]) (by rfl) (by kernel_rfl)) ?_
   have q3e:=((q1b.ext E1a).ext E9a).ext E6c
   refine dk 8 rfl (by kernel_rfl) (by decide) (by rfl) Gt rfl rfl q3e rfl rfl rfl rfl (by simp only [SP0,SP1,S0,S1,Nat.reduceAdd];rfl) fun w7 U4e q9g=>?_
   have X0h:=belU X8g U4e g1c
   refine CU (by kernel_rfl) ?_
   refine h2e _ _<|wp_ret ?_
   obtain rfl:=sj f6g
   exact fin rfl (Res.cellN rfl DS q9g rfl rfl Res.nil) (Ak X0h ⟨A7c,c8c,rfl,(n7g.upd U4e q3e (by decide))⟩)
  ·have p1h:=zN hz6b e8a
   have f2h:=ifN p1h f0e
   refine wp_cond_false (Aj (evb rfl e8a))<|wp_skip<|h8d _ _<|wp_seq_k fun K5e h5e=>Ei [8] 9 mo rfl fun w5 E0b S9b=>have X0c:=xtr X1e E0b;dA 0 rfl (fun _=>Ai (o':=0) EC rfl rfl) ?_
   refine dV 1 rfl (fun _ hw=>Ag Ik rfl (Bx.cell ((((q4a.ext E0a).ext E1a).ext E0b).ext hw) rfl)) S9b ?_
   refine dA 2 rfl (fun _=>Ai (o':=1) Bs rfl rfl) ?_
   refine dV 3 rfl (fun _ hw=>Ag CQ rfl (Bx.cell ((((q4a.ext E0a).ext E1a).ext E0b).ext hw) rfl)) S9b ?_
   refine dA 4 rfl (fun _=>Ai (o':=1) Bs rfl rfl) ?_
   refine dV 5 rfl (fun _ hw=>Ag CQ rfl (Bx.cell (((((q3a.ext E2a).ext E0a).ext E1a).ext E0b).ext hw) rfl)) S9b ?_
   obtain ⟨r9c,h3h,f4h⟩:=Ab f2h
   refine dc 6 rfl (by kernel_rfl) (by rfl) (Ae MW (by rfl)) (FI x1.Abs x0.Abs A4 c5 A1 c2 w5 (tbx X0c hT) (n6.ext X0c) (n3.ext X0c) r9c h3h) ?_
   rintro _ w6 E0d ⟨A1d,c2d,rfl,n5h⟩
   refine dnrm ?_
   have X6h:=xtr X0c E0d
   have S5i:=S9b.trans E0d
   refine dA 7 rfl (fun _=>Bc (vals:=[(0,.bool x1.Neg),(1,.slice A1d (sz r9c) c2d)]) (cells:=[.bool x1.Neg,.slice A1d (sz r9c) c2d]) (by rfl) (by kernel_rfl)) ?_
   have q6e:=((q1b.ext E1a).ext E0b).ext E0d
   refine dk 8 rfl (by kernel_rfl) (by decide) (by rfl) Gt rfl rfl q6e rfl rfl rfl rfl (by simp only [SP0,SP1,S0,S1,Nat.reduceAdd];rfl) fun w7 U7e q7h=>?_
   have X8h:=belU X6h U7e g1c
   refine CU (by kernel_rfl) ?_
   refine h5e _ _<|wp_ret ?_
   obtain rfl:=sj f4h
   exact fin rfl (Res.cellN rfl DS q7h rfl rfl Res.nil) (Ak X8h ⟨A1d,c2d,rfl,(n5h.upd U7e q6e (by decide))⟩)
theorem c_dyad_num_plus_1 (x0:Ah) (x1:Ah) (x2:Int) (A1:Option Addr) (c2:Nat) (A4:Option Addr) (c5:Nat) (w:World) (hT:TB w) (n3:RU w A1 c2 x0.Abs) (n6:RU w A4 c5 x1.Abs) (r:An) (hr:Gw x0 x1 x2=some r) :
  Calls Tryz.prog 195 #[.agg #[.bool x0.Neg,.slice A1 (sz x0.Abs) c2],.agg #[.bool x1.Neg,.slice A4 (sz x1.Abs) c5],.int .i64 x2] w (Ret HW w r):=by
 unfold Gw at hr
 go_enter Tryz.func195,Tryz.ntmps195
 refine wp_seq_k fun K7 h7=>Af<|BT rfl rfl fun b8 w1 E9 g1d q1b=>?_
 refine nrm ?_
 refine BT rfl rfl fun b2d w2 E4a g2b q3b=>?_
 refine nrm ?_
 have g3d:=nlt E9.size g2b
 have X5a:=xtr E9 E4a
 refine Aw Ba fun b4d w3 E1a g4b q6a=>?_
 refine nrm ?_
 have g5b:=nlt X5a.size g4b
 have X0a:=xtr X5a E1a
 refine Ad<|h7 _ _<|wp_seq_k fun K7a h7a=>Af<|sV (Am DS rfl ((q1b.ext E4a).ext E1a) rfl) ?_
 refine sV (Am DS rfl (q3b.ext E1a) rfl) ?_
 obtain ⟨r8a,h6b,f7b⟩:=Ab hr
 refine sc (Ae en_196 (by rfl)) (c_wide_Int_Add x0 x1 A1 c2 A4 c5 w3 (tbx X0a hT) (n3.ext X0a) (n6.ext X0a) r8a h6b) ?_
 rintro _ w4 E2a ⟨A8b,c9b,rfl,n0c⟩
 refine nrm ?_
 have X9a:=xtr X0a E2a
 refine sV (Aa rfl) ?_
 obtain ⟨r1c,h2c,f3c⟩:=Ab f7b
 refine sc (Ae Ky (by rfl)) (FE r8a x2 A8b c9b w4 (tbx X9a hT) n0c r1c h2c) ?_
 rintro _ w5 E3a ⟨A4c,c5c,rfl,n6c⟩
 refine nrm ?_
 have X7c:=xtr X9a E3a
 refine Ax BX rfl rfl ((q6a.ext E2a).ext E3a) rfl rfl rfl rfl (by simp only [SP0,SP1,S0,S1,Nat.reduceAdd];rfl) fun w6 U0b q8c=>?_
 have X9c:=belU X7c U0b g5b
 refine Ad<|h7a _ _<|wp_ret ?_
 have n0d:=n6c.upd U0b ((q6a.ext E2a).ext E3a) (by decide)
 obtain rfl:=sj f3c
 exact fin rfl (Res.cellN rfl AE q8c rfl rfl Res.nil) (Ak X9c ⟨A4c,c5c,rfl,n0d⟩)
theorem c_dyad_aligned__dyad_num_plus_1 (x0:An) (x1:An) (A1:Option Addr) (c2:Nat) (A4:Option Addr) (c5:Nat) (w:World) (hT:TB w) (n3:RU w A1 c2 x0.m.Abs) (n6:RU w A4 c5 x1.m.Abs) (r:An) (hr:CG x0 x1=some r) :
  Calls Tryz.prog 194 #[.agg #[.bool x0.m.Neg,.slice A1 (sz x0.m.Abs) c2,.int .i64 x0.e],.agg #[.bool x1.m.Neg,.slice A4 (sz x1.m.Abs) c5,.int .i64 x1.e],.func (.func 195) #[] #[]] w (Ret HW w r):=by
 unfold CG at hr
 go_enter Tryz.func194,Tryz.ntmps194
 refine wp_seq_k fun K7 h7=>Af<|BT rfl rfl fun b8 w1 E9 g2n q1c=>?_
 refine nrm ?_
 refine BT rfl rfl fun b1g w2 E2b g3n q2a=>?_
 refine nrm ?_
 have g0w:=nlt E9.size g3n
 have X2g:=xtr E9 E2b
 refine Aw Ba fun b1w w3 E0a g4n q6e=>?_
 refine nrm ?_
 have g5n:=nlt X2g.size g4n
 have X6n:=xtr X2g E0a
 refine Ad<|h7 _ _<|wp_seq_k fun K3g h3g=>Af<|sV (Ai (o':=2) DE rfl rfl) ?_
 refine sV (Ag Ey rfl (Bx.cell ((q1c.ext E2b).ext E0a) rfl)) ?_
 refine sV (Ai (o':=2) DE rfl rfl) ?_
 refine sV (Ag Ey rfl (Bx.cell (q2a.ext E0a) rfl)) ?_
 refine sV (OA rfl rfl) ?_
 refine sV (Ac rfl) ?_
 refine Ad<|h3g _ _<|wp_seq_k fun K4g h4g=>wp_seq_k fun K5g h5g=>Af<|sV (Ai (o':=0) BZ rfl rfl) ?_
 refine sV (Ai (o':=1) Bs rfl rfl) ?_
 refine sV (Ag CQ rfl (Bx.cell ((q1c.ext E2b).ext E0a) rfl)) ?_
 refine sV (AD Ar rfl) ?_
 refine sb (Ce rfl rfl) fun z5d hz5d=>?_
 refine nrm ?_
 refine Ad<|h5g _ _ ?_
 obtain ⟨m7n,h6g,f8n⟩:=Ab hr
 refine Di (fun l l' w'=>∃(t7g:Value) (t8g:Value),w3=w'∧l'=(((l.set 7 (.int .i64 m7n)).set 20 t7g).set 21 t8g)) ?_ ?_
 ·rcases bft z5d with e6c | e6c
  ·have p9n:=zP hz5d e6c
   have f0o:=ifP p9n h6g
   refine wp_cond_true (Aj (evb rfl e6c))<|Af<|sV (Ai (o':=2) DE rfl rfl) ?_
   refine sV (Ag Ey rfl (Bx.cell (q2a.ext E0a) rfl)) ?_
   refine sV (Ac rfl) ?_
   refine Ad ?_
   obtain rfl:=sj f0o
   exact ⟨_,rfl,(.pointer (some ⟨b1g,2,none⟩)),(.int .i64 x1.e),rfl,(by simp only [S0,S1]<;>rfl)⟩
  ·have p1o:=zN hz5d e6c
   have f2o:=ifN p1o h6g
   refine wp_cond_false (Aj (evb rfl e6c))<|wp_skip ?_
   obtain rfl:=sj f2o
   exact ⟨_,rfl,uu,uu,rfl,(by simp only [S0,S1]<;>rfl)⟩
 ·rintro l' _ ⟨t7g,t8g,rfl,hq'⟩ l'' hl
  rw [hq'] at hl
  clear hq'
  simp only [S0,S1] at hl
  subst hl
  refine h4g _ _<|wp_seq_k fun K9g h9g=>wp_seq_k fun K0h h0h=>Af<|sV (Ai (o':=0) BZ rfl rfl) ?_
  refine sV (Ai (o':=1) Bs rfl rfl) ?_
  refine sV (Ag CQ rfl (Bx.cell (q2a.ext E0a) rfl)) ?_
  refine sV (AD Ar rfl) ?_
  refine sb (Ce rfl rfl) fun z6d hz6d=>?_
  refine nrm ?_
  refine Ad<|h0h _ _ ?_
  obtain ⟨m6a,h1h,f3o⟩:=Ab f8n
  refine Di (fun l l' w'=>∃(t2h:Value) (t3h:Value),w3=w'∧l'=(((l.set 7 (.int .i64 m6a)).set 27 t2h).set 28 t3h)) ?_ ?_
  ·rcases bft z6d with e7c | e7c
   ·have p4o:=zP hz6d e7c
    have f64:=ifP p4o h1h
    refine wp_cond_true (Aj (evb rfl e7c))<|Af<|sV (Ai (o':=2) DE rfl rfl) ?_
    refine sV (Ag Ey rfl (Bx.cell ((q1c.ext E2b).ext E0a) rfl)) ?_
    refine sV (Ac rfl) ?_
    refine Ad ?_
    obtain rfl:=sj f64
    exact ⟨_,rfl,(.pointer (some ⟨b8,2,none⟩)),(.int .i64 x0.e),rfl,(by simp only [S0,S1]<;>rfl)⟩
   ·have p5o:=zN hz6d e7c
    have f6o:=ifN p5o h1h
    refine wp_cond_false (Aj (evb rfl e7c))<|wp_skip ?_
    obtain rfl:=sj f6o
    exact ⟨_,rfl,uu,uu,rfl,(by simp only [S0,S1]<;>rfl)⟩
  ·rintro l' _ ⟨t2h,t3h,rfl,hq'⟩ l'' hl
   rw [hq'] at hl
   clear hq'
   simp only [S0,S1] at hl
   subst hl
   refine h9g _ _<|wp_seq_k fun K4h h4h=>Ei [6,7] 8 mo rfl fun w4 E1a S7o=>have X5a:=xtr X6n E1a;dA 0 rfl (fun _=>Ai (o':=0) BZ rfl rfl) ?_
   refine dV 1 rfl (fun _ hw=>AH DS rfl ((((q1c.ext E2b).ext E0a).ext E1a).ext hw) (by simp only [List.drop_zero,List.take_succ_cons,List.take_zero];rfl) rfl) S7o ?_
   refine dA 2 rfl (fun _=>Ai (o':=0) BZ rfl rfl) ?_
   refine IP #[true,true,true,true,true,true,true,false] 1 (fun l l' w'=>∃(b3b:Nat) (b4b:Nat),UpdS [] w4 w'∧w4.heap.size≤b3b∧Bx w' b3b 117 [.bool x0.m.Neg,.slice A1 (sz x0.m.Abs) c2]∧w4.heap.size≤b4b∧Bx w' b4b 117 [.bool false,.slice none 0 0]∧b3b≠b4b∧l'=(((l.set 8 (.pointer (some ⟨b3b,0,none⟩))).set 9 (.pointer (some ⟨b4b,0,none⟩))).set 32 (.agg #[.bool x1.m.Neg,.slice A4 (sz x1.m.Abs) c5]))) ?_ ?_
   ·intro HJ172
    refine Na 3 4 5 (by kernel_rfl) ?_ ?_ ?_
    ·refine opV 3 rfl (by rfl) (AH DS rfl ((q2a.ext E0a).ext E1a) (by simp only [List.drop_zero,List.take_succ_cons,List.take_zero];rfl) rfl) (dnrm ?_)
     refine GF 4 5 (by kernel_rfl) ?_ ?_
     ·refine opA 4 rfl (by rfl) (Be Hl) fun b8o w5 E7e g8e q5h=>dnrm ?_
      have g2w:=nlt X5a.size g8e
      have X9o:=xtr X5a E7e
      refine CF 5 (by kernel_rfl) ?_
      ·refine opA 5 rfl (by rfl) (Be Hl) fun b0p w6 E6h g9e q1p=>dnrm ?_
       have g3w:=nlt X9o.size g9e
       refine CF 6 (by kernel_rfl) ?_
       ·refine opK 6 rfl (by decide) (by rfl) Gt rfl rfl (q5h.ext E6h) rfl rfl rfl rfl (by simp only [SP0,SP1,S0,S1,Nat.reduceAdd];rfl) fun w7 U7h q2p=>?_
        have ne8h:=(Bx.ne q5h g9e).symm
        exact Et (by kernel_rfl) (HJ172 _ _ ⟨b8o,b0p,((((UpdS.refl _ _).ext E7e).ext E6h).upd U7h (.inr (nlt (Nat.le_refl _) g8e))),(nlt (Nat.le_refl _) g8e),q2p,(nlt (nlt (Nat.le_refl _) E7e.size) g9e),(q1p.upd U7h ne8h),(Ne.symm ne8h),(by simp only [S0,S1]<;>rfl)⟩)
     ·refine opA 5 rfl (by rfl) (Be Hl) fun b3p w5 E7d g9h q0i=>dnrm ?_
      have g4w:=nlt X5a.size g9h
      have X4p:=xtr X5a E7d
      refine CF 4 (by kernel_rfl) ?_
      ·refine opA 4 rfl (by rfl) (Be Hl) fun b5p w6 E1i g8d q6p=>dnrm ?_
       have g5w:=nlt X4p.size g8d
       refine CF 6 (by kernel_rfl) ?_
       ·refine opK 6 rfl (by decide) (by rfl) Gt rfl rfl q6p rfl rfl rfl rfl (by simp only [SP0,SP1,S0,S1,Nat.reduceAdd];rfl) fun w7 U2i q7p=>?_
        have ne3i:=(Bx.ne q0i g8d)
        exact Et (by kernel_rfl) (HJ172 _ _ ⟨b5p,b3p,((((UpdS.refl _ _).ext E7d).ext E1i).upd U2i (.inr (nlt (nlt (Nat.le_refl _) E7d.size) g8d))),(nlt (nlt (Nat.le_refl _) E7d.size) g8d),q7p,(nlt (Nat.le_refl _) g9h),((q0i.ext E1i).upd U2i ne3i),(Ne.symm ne3i),(by simp only [S0,S1]<;>rfl)⟩)
    ·refine opA 4 rfl (by rfl) (Be Hl) fun b0f w5 E7a g5b q6b=>dnrm ?_
     have g6w:=nlt X5a.size g5b
     have X4i:=xtr X5a E7a
     refine GF 3 5 (by kernel_rfl) ?_ ?_
     ·have q8p:=((q2a.ext E0a).ext E1a).ext E7a
      refine opV 3 rfl (by rfl) (AH DS rfl q8p (by simp only [List.drop_zero,List.take_succ_cons,List.take_zero];rfl) rfl) (dnrm ?_)
      refine CF 5 (by kernel_rfl) ?_
      ·refine opA 5 rfl (by rfl) (Be Hl) fun b9p w6 E5i g1f q0q=>dnrm ?_
       have g7w:=nlt X4i.size g1f
       refine CF 6 (by kernel_rfl) ?_
       ·refine opK 6 rfl (by decide) (by rfl) Gt rfl rfl (q6b.ext E5i) rfl rfl rfl rfl (by simp only [SP0,SP1,S0,S1,Nat.reduceAdd];rfl) fun w7 U6i q1q=>?_
        have ne7i:=(Bx.ne q6b g1f).symm
        exact Et (by kernel_rfl) (HJ172 _ _ ⟨b0f,b9p,((((UpdS.refl _ _).ext E7a).ext E5i).upd U6i (.inr (nlt (Nat.le_refl _) g5b))),(nlt (Nat.le_refl _) g5b),q1q,(nlt (nlt (Nat.le_refl _) E7a.size) g1f),(q0q.upd U6i ne7i),(Ne.symm ne7i),(by simp only [S0,S1]<;>rfl)⟩)
     ·refine opA 5 rfl (by rfl) (Be Hl) fun b8i w6 E0b g8c q9i=>dnrm ?_
      have g8w:=nlt X4i.size g8c
      refine GF 3 6 (by kernel_rfl) ?_ ?_
      ·have q2q:=(((q2a.ext E0a).ext E1a).ext E7a).ext E0b
       refine opV 3 rfl (by rfl) (AH DS rfl q2q (by simp only [List.drop_zero,List.take_succ_cons,List.take_zero];rfl) rfl) (dnrm ?_)
       refine CF 6 (by kernel_rfl) ?_
       ·refine opK 6 rfl (by decide) (by rfl) Gt rfl rfl (q6b.ext E0b) rfl rfl rfl rfl (by simp only [SP0,SP1,S0,S1,Nat.reduceAdd];rfl) fun w7 U0j q3q=>?_
        have ne1j:=(Bx.ne q6b g8c).symm
        exact Et (by kernel_rfl) (HJ172 _ _ ⟨b0f,b8i,((((UpdS.refl _ _).ext E7a).ext E0b).upd U0j (.inr (nlt (Nat.le_refl _) g5b))),(nlt (Nat.le_refl _) g5b),q3q,(nlt (nlt (Nat.le_refl _) E7a.size) g8c),(q9i.upd U0j ne1j),(Ne.symm ne1j),(by simp only [S0,S1]<;>rfl)⟩)
      ·refine opK 6 rfl (by decide) (by rfl) Gt rfl rfl (q6b.ext E0b) rfl rfl rfl rfl (by simp only [SP0,SP1,S0,S1,Nat.reduceAdd];rfl) fun w7 U2f q4q=>?_
       refine CF 3 (by kernel_rfl) ?_
       ·have ne5q:=(Bx.neT ((((q2a.ext E0a).ext E1a).ext E7a).ext E0b) (q6b.ext E0b) (by decide))
        have q6q:=((((q2a.ext E0a).ext E1a).ext E7a).ext E0b).upd U2f ne5q
        refine opV 3 rfl (by rfl) (AH DS rfl q6q (by simp only [List.drop_zero,List.take_succ_cons,List.take_zero];rfl) rfl) (dnrm ?_)
        have ne2j:=(Bx.ne q6b g8c).symm
        exact Et (by kernel_rfl) (HJ172 _ _ ⟨b0f,b8i,((((UpdS.refl _ _).ext E7a).ext E0b).upd U2f (.inr (nlt (Nat.le_refl _) g5b))),(nlt (Nat.le_refl _) g5b),q4q,(nlt (nlt (Nat.le_refl _) E7a.size) g8c),(q9i.upd U2f ne2j),(Ne.symm ne2j),(by simp only [S0,S1]<;>rfl)⟩)
    ·refine opA 5 rfl (by rfl) (Be Hl) fun b3f w5 E3a g9d q2c=>dnrm ?_
     have g9w:=nlt X5a.size g9d
     have X3j:=xtr X5a E3a
     refine GF 3 4 (by kernel_rfl) ?_ ?_
     ·have q7q:=((q2a.ext E0a).ext E1a).ext E3a
      refine opV 3 rfl (by rfl) (AH DS rfl q7q (by simp only [List.drop_zero,List.take_succ_cons,List.take_zero];rfl) rfl) (dnrm ?_)
      refine CF 4 (by kernel_rfl) ?_
      ·refine opA 4 rfl (by rfl) (Be Hl) fun b8q w6 E4j g0e q9q=>dnrm ?_
       have g0x:=nlt X3j.size g0e
       refine CF 6 (by kernel_rfl) ?_
       ·refine opK 6 rfl (by decide) (by rfl) Gt rfl rfl q9q rfl rfl rfl rfl (by simp only [SP0,SP1,S0,S1,Nat.reduceAdd];rfl) fun w7 U5j q0r=>?_
        have ne6j:=(Bx.ne q2c g0e)
        exact Et (by kernel_rfl) (HJ172 _ _ ⟨b8q,b3f,((((UpdS.refl _ _).ext E3a).ext E4j).upd U5j (.inr (nlt (nlt (Nat.le_refl _) E3a.size) g0e))),(nlt (nlt (Nat.le_refl _) E3a.size) g0e),q0r,(nlt (Nat.le_refl _) g9d),((q2c.ext E4j).upd U5j ne6j),(Ne.symm ne6j),(by simp only [S0,S1]<;>rfl)⟩)
     ·refine opA 4 rfl (by rfl) (Be Hl) fun b7j w6 E7b g8b q4f=>dnrm ?_
      have g1x:=nlt X3j.size g8b
      refine GF 3 6 (by kernel_rfl) ?_ ?_
      ·have q1r:=(((q2a.ext E0a).ext E1a).ext E3a).ext E7b
       refine opV 3 rfl (by rfl) (AH DS rfl q1r (by simp only [List.drop_zero,List.take_succ_cons,List.take_zero];rfl) rfl) (dnrm ?_)
       refine CF 6 (by kernel_rfl) ?_
       ·refine opK 6 rfl (by decide) (by rfl) Gt rfl rfl q4f rfl rfl rfl rfl (by simp only [SP0,SP1,S0,S1,Nat.reduceAdd];rfl) fun w7 U8j q2r=>?_
        have ne9j:=(Bx.ne q2c g8b)
        exact Et (by kernel_rfl) (HJ172 _ _ ⟨b7j,b3f,((((UpdS.refl _ _).ext E3a).ext E7b).upd U8j (.inr (nlt (nlt (Nat.le_refl _) E3a.size) g8b))),(nlt (nlt (Nat.le_refl _) E3a.size) g8b),q2r,(nlt (Nat.le_refl _) g9d),((q2c.ext E7b).upd U8j ne9j),(Ne.symm ne9j),(by simp only [S0,S1]<;>rfl)⟩)
      ·refine opK 6 rfl (by decide) (by rfl) Gt rfl rfl q4f rfl rfl rfl rfl (by simp only [SP0,SP1,S0,S1,Nat.reduceAdd];rfl) fun w7 U5f q3r=>?_
       refine CF 3 (by kernel_rfl) ?_
       ·have ne4r:=(Bx.neT ((((q2a.ext E0a).ext E1a).ext E3a).ext E7b) q4f (by decide))
        have q5r:=((((q2a.ext E0a).ext E1a).ext E3a).ext E7b).upd U5f ne4r
        refine opV 3 rfl (by rfl) (AH DS rfl q5r (by simp only [List.drop_zero,List.take_succ_cons,List.take_zero];rfl) rfl) (dnrm ?_)
        have ne0k:=(Bx.ne q2c g8b)
        exact Et (by kernel_rfl) (HJ172 _ _ ⟨b7j,b3f,((((UpdS.refl _ _).ext E3a).ext E7b).upd U5f (.inr (nlt (nlt (Nat.le_refl _) E3a.size) g8b))),(nlt (nlt (Nat.le_refl _) E3a.size) g8b),q3r,(nlt (Nat.le_refl _) g9d),((q2c.ext E7b).upd U5f ne0k),(Ne.symm ne0k),(by simp only [S0,S1]<;>rfl)⟩)
   ·rintro l' w5 ⟨b3b,b4b,U8a,g6r,q9b,g7r,q1e,ne9a,hq'⟩ l'' hl
    rw [hq'] at hl
    clear hq'
    simp only [S0,S1] at hl
    subst hl
    have g8r:=nlt X5a.size g6r
    have g1k:=nlt X5a.size g7r
    have X9r:=JN X5a U8a (X5a).size al0
    refine dk 7 rfl (by kernel_rfl) (by decide) (by rfl) Gt rfl rfl q1e rfl rfl rfl rfl (by simp only [SP0,SP1,S0,S1,Nat.reduceAdd];rfl) fun w6 U4a q0s=>?_
    have X9c:=belU X9r U4a g1k
    refine CU (by kernel_rfl) ?_
    refine h4h _ _<|wp_seq_k fun K2k h2k=>wp_seq_k fun K3k h3k=>Af<|sV (Ai (o':=1) Bs rfl rfl) ?_
    refine sV (Ag CQ rfl (Bx.cell (q9b.upd U4a ne9a) rfl)) ?_
    refine sV (AD Ar rfl) ?_
    refine sb (Fs rfl rfl) fun z2e hz2e=>?_
    refine nrm ?_
    refine Ad<|h3k _ _ ?_
    obtain ⟨m1b,h4k,f1s⟩:=Ab f3o
    refine Di (fun l l' w'=>∃(t5k:Value) (t6k:Value) (t7k:Value) (t8k:Value) (t9k:Value) (t0l:Value) (A3c:Option Addr) (c4c:Nat),UpdS [b3b] w6 w'∧Bx w' b3b 117 [.bool m1b.1,.slice A3c (sz m1b.2) c4c]∧RU w' A3c c4c m1b.2∧l'=((((((l.set 37 t5k).set 38 t6k).set 39 t7k).set 40 t8k).set 41 t9k).set 42 t0l)) ?_ ?_
    ·rcases bft z2e with e0d | e0d
     ·have p2s:=zP hz2e e0d
      have f3s:=ifP p2s h4k
      refine wp_cond_true (Aj (evb rfl e0d))<|Af<|sV (Am DS rfl (q9b.upd U4a ne9a) rfl) ?_
      refine sV (Ai (o':=2) DE rfl rfl) ?_
      have ne4s:=(Bx.neT ((((q1c.ext E2b).ext E0a).ext E1a).updS U8a nm0) q1e (by decide))
      have q5s:=((((q1c.ext E2b).ext E0a).ext E1a).updS U8a nm0).upd U4a ne4s
      refine sV (Ag Ey rfl (Bx.cell q5s rfl)) ?_
      refine sV (Aa rfl) ?_
      refine sV (Bv (c:=wi64 (x0.e - m6a)) rfl rfl rfl) ?_
      obtain ⟨r6f,h6s,f7s⟩:=Ab f3s
      refine sc (Ae Nr (by rfl)) (IM x0.m (wi64 (x0.e - m6a)) A1 c2 w6 (tbx X9c hT) (n3.ext X9c) r6f h6s) ?_
      rintro _ w7 E7f ⟨A1l,c2l,rfl,n8s⟩
      refine nrm ?_
      refine Ax Gt rfl rfl ((q9b.upd U4a ne9a).ext E7f) rfl rfl rfl rfl (by simp only [SP0,SP1,S0,S1,Nat.reduceAdd];rfl) fun w8 U3l q9s=>?_
      refine Ad ?_
      have n0t:=n8s.upd U3l ((q9b.upd U4a ne9a).ext E7f) (by decide)
      obtain rfl:=sj f7s
      exact ⟨_,rfl,(.agg #[.bool x0.m.Neg,.slice A1 (sz x0.m.Abs) c2]),(.pointer (some ⟨b8,2,none⟩)),(.int .i64 x0.e),(.int .i64 m6a),(.int .i64 (wi64 (x0.e - m6a))),(.agg #[.bool r6f.Neg,.slice A1l (sz r6f.Abs) c2l]),A1l,c2l,(((UpdS.refl _ _).ext E7f).upd U3l (.inl im0)),q9s,n0t,(by simp only [S0,S1]<;>rfl)⟩
     ·have p1t:=zN hz2e e0d
      have f2t:=ifN p1t h4k
      refine wp_cond_false (Aj (evb rfl e0d))<|wp_skip ?_
      obtain rfl:=sj f2t
      exact ⟨_,rfl,uu,uu,uu,uu,uu,uu,A1,c2,(UpdS.refl _ _),(q9b.upd U4a ne9a),(n3.ext X9c),(by simp only [S0,S1]<;>rfl)⟩
    ·rintro l' w7 ⟨t5k,t6k,t7k,t8k,t9k,t0l,A3c,c4c,U3e,q3t,n4t,hq'⟩ l'' hl
     rw [hq'] at hl
     clear hq'
     simp only [S0,S1] at hl
     subst hl
     have X1d:=JN X9c U3e (X9c).size (alc g8r al0)
     refine h2k _ _<|wp_seq_k fun K4l h4l=>wp_seq_k fun K5l h5l=>Af<|sV (Ai (o':=1) Bs rfl rfl) ?_
     have q5c:=q0s.updS U3e (nmc (Ne.symm ne9a) nm0)
     refine sV (Ag CQ rfl (Bx.cell q5c rfl)) ?_
     refine sV (AD Ar rfl) ?_
     refine sb (Fs rfl rfl) fun z4e hz4e=>?_
     refine nrm ?_
     refine Ad<|h5l _ _ ?_
     obtain ⟨m0c,h6l,f5t⟩:=Ab f1s
     refine Di (fun l l' w'=>∃(t7l:Value) (t8l:Value) (t9l:Value) (t0m:Value) (t1m:Value) (t2m:Value) (A2d:Option Addr) (c3d:Nat),UpdS [b4b] w7 w'∧Bx w' b4b 117 [.bool m0c.1,.slice A2d (sz m0c.2) c3d]∧RU w' A2d c3d m0c.2∧l'=((((((l.set 47 t7l).set 48 t8l).set 49 t9l).set 50 t0m).set 51 t1m).set 52 t2m)) ?_ ?_
     ·rcases bft z4e with e4d | e4d
      ·have p6t:=zP hz4e e4d
       have f7t:=ifP p6t h6l
       refine wp_cond_true (Aj (evb rfl e4d))<|Af<|sV (Am DS rfl q5c rfl) ?_
       refine sV (Ai (o':=2) DE rfl rfl) ?_
       have ne3m:=(Bx.neT (((q2a.ext E0a).ext E1a).updS U8a nm0) q1e (by decide))
       have ne8t:=(Bx.neT ((((q2a.ext E0a).ext E1a).updS U8a nm0).upd U4a ne3m) (q9b.upd U4a ne9a) (by decide))
       have q9t:=((((q2a.ext E0a).ext E1a).updS U8a nm0).upd U4a ne3m).updS U3e (nmc ne8t nm0)
       refine sV (Ag Ey rfl (Bx.cell q9t rfl)) ?_
       refine sV (Aa rfl) ?_
       refine sV (Bv (c:=wi64 (x1.e - m6a)) rfl rfl rfl) ?_
       obtain ⟨r8f,h0u,f1u⟩:=Ab f7t
       refine sc (Ae Nr (by rfl)) (IM x1.m (wi64 (x1.e - m6a)) A4 c5 w7 (tbx X1d hT) (n6.ext X1d) r8f h0u) ?_
       rintro _ w8 E9f ⟨A4m,c5m,rfl,n2u⟩
       refine nrm ?_
       refine Ax Gt rfl rfl (q5c.ext E9f) rfl rfl rfl rfl (by simp only [SP0,SP1,S0,S1,Nat.reduceAdd];rfl) fun w9 U6m q3u=>?_
       refine Ad ?_
       have n4u:=n2u.upd U6m (q5c.ext E9f) (by decide)
       obtain rfl:=sj f1u
       exact ⟨_,rfl,(.agg #[.bool x1.m.Neg,.slice A4 (sz x1.m.Abs) c5]),(.pointer (some ⟨b1g,2,none⟩)),(.int .i64 x1.e),(.int .i64 m6a),(.int .i64 (wi64 (x1.e - m6a))),(.agg #[.bool r8f.Neg,.slice A4m (sz r8f.Abs) c5m]),A4m,c5m,(((UpdS.refl _ _).ext E9f).upd U6m (.inl im0)),q3u,n4u,(by simp only [S0,S1]<;>rfl)⟩
      ·have p5u:=zN hz4e e4d
       have f6u:=ifN p5u h6l
       refine wp_cond_false (Aj (evb rfl e4d))<|wp_skip ?_
       obtain rfl:=sj f6u
       exact ⟨_,rfl,uu,uu,uu,uu,uu,uu,A4,c5,(UpdS.refl _ _),q5c,(n6.ext X1d),(by simp only [S0,S1]<;>rfl)⟩
     ·rintro l' w8 ⟨t7l,t8l,t9l,t0m,t1m,t2m,A2d,c3d,U5e,q7u,n8u,hq'⟩ l'' hl
      rw [hq'] at hl
      clear hq'
      simp only [S0,S1] at hl
      subst hl
      have X7m:=JN X1d U5e (X1d).size (alc g1k al0)
      refine h4l _ _<|wp_seq_k fun K8m h8m=>Af<|sV (Aa rfl) ?_
      refine sV (Am DS rfl (q3t.updS U5e (nmc ne9a nm0)) rfl) ?_
      refine sV (Am DS rfl q7u rfl) ?_
      refine sV (Aa rfl) ?_
      have n9u:RU w8 A3c c4c m1b.2:=n4t.updS U5e (alc ⟨_,_,by decide,q5c⟩ al0)
      obtain ⟨r0v,h1v,f2v⟩:=Ab f5t
      refine sc (FB (first:=[]) (cap:=[]) (args:=[.agg #[.bool m1b.1,.slice A3c (sz m1b.2) c4c],.agg #[.bool m0c.1,.slice A2d (sz m0c.2) c3d],.int .i64 m6a]) en_195 (by rfl) (by rfl)) (c_dyad_num_plus_1 (⟨m1b.1,m1b.2⟩:Ah) (⟨m0c.1,m0c.2⟩:Ah) m6a A3c c4c A2d c3d w8 (tbx X7m hT) n9u n8u r0v h1v) ?_
      rintro _ w9 E9m ⟨A3v,c4v,rfl,n5v⟩
      refine nrm ?_
      have X6v:=xtr X7m E9m
      have ne0g:=(Bx.neT ((q6e.ext E1a).updS U8a nm0) q1e (by decide))
      have ne7v:=(Bx.neT (((q6e.ext E1a).updS U8a nm0).upd U4a ne0g) (q9b.upd U4a ne9a) (by decide))
      have q0n:=(((((q6e.ext E1a).updS U8a nm0).upd U4a ne0g).updS U3e (nmc ne7v nm0)).updS U5e (nmc ne0g nm0)).ext E9m
      refine Ax BX rfl rfl q0n rfl rfl rfl rfl (by simp only [SP0,SP1,S0,S1,Nat.reduceAdd];rfl) fun w2n U1n q8v=>?_
      have X9v:=belU X6v U1n g5n
      refine Ad<|h8m _ _<|wp_ret ?_
      obtain rfl:=sj f2v
      exact fin rfl (Res.cellN rfl AE q8v rfl rfl Res.nil) (Ak X9v ⟨A3v,c4v,rfl,(n5v.upd U1n q0n (by decide))⟩)
theorem c_dyad_num_plus (x0:An) (x1:An) (A1:Option Addr) (c2:Nat) (A4:Option Addr) (c5:Nat) (w:World) (hT:TB w) (n3:RU w A1 c2 x0.m.Abs) (n6:RU w A4 c5 x1.m.Abs) (r:An) (hr:Gn x0 x1=some r) :
  Calls Tryz.prog 124 #[.agg #[.bool x0.m.Neg,.slice A1 (sz x0.m.Abs) c2,.int .i64 x0.e],.agg #[.bool x1.m.Neg,.slice A4 (sz x1.m.Abs) c5,.int .i64 x1.e]] w (Ret HW w r):=by
 unfold Gn at hr
 go_enter Tryz.func124,Tryz.ntmps124
 refine wp_seq_k fun K7 h7=>Af<|BT rfl rfl fun b8 w1 E9 g3c q8a=>?_
 refine nrm ?_
 refine BT rfl rfl fun b4c w2 E3a g9a q0b=>?_
 refine nrm ?_
 have g5c:=nlt E9.size g9a
 have X4a:=xtr E9 E3a
 refine Aw Ba fun b6c w3 E1a g1b q5a=>?_
 refine nrm ?_
 have g2b:=nlt X4a.size g1b
 have X0a:=xtr X4a E1a
 refine Ad<|h7 _ _<|wp_seq_k fun K6a h6a=>Af<|sV (Am AE rfl ((q8a.ext E3a).ext E1a) rfl) ?_
 refine sV (Am AE rfl (q0b.ext E1a) rfl) ?_
 obtain ⟨r3b,h4b,f5b⟩:=Ab hr
 refine sc (Ae en_194 (by rfl)) (c_dyad_aligned__dyad_num_plus_1 x0 x1 A1 c2 A4 c5 w3 (tbx X0a hT) (n3.ext X0a) (n6.ext X0a) r3b h4b) ?_
 rintro _ w4 E2a ⟨A6b,c7b,rfl,n8b⟩
 refine nrm ?_
 have X9b:=xtr X0a E2a
 refine Ax BX rfl rfl (q5a.ext E2a) rfl rfl rfl rfl (by simp only [SP0,SP1,S0,S1,Nat.reduceAdd];rfl) fun w5 U7a q0c=>?_
 have X1c:=belU X9b U7a g2b
 refine Ad<|h6a _ _<|wp_ret ?_
 have n2c:=n8b.upd U7a (q5a.ext E2a) (by decide)
 obtain rfl:=sj f5b
 exact fin rfl (Res.cellN rfl AE q0c rfl rfl Res.nil) (Ak X1c ⟨A6b,c7b,rfl,n2c⟩)
theorem CJ (x0:An) (x1:An) (A1:Option Addr) (c2:Nat) (A4:Option Addr) (c5:Nat) (w:World) (hT:TB w) (n3:RU w A1 c2 x0.m.Abs) (n6:RU w A4 c5 x1.m.Abs) (r:Int) (hr:Bq x0 x1=some r) :
  Calls Tryz.prog 106 #[.agg #[.bool x0.m.Neg,.slice A1 (sz x0.m.Abs) c2,.int .i64 x0.e],.agg #[.bool x1.m.Neg,.slice A4 (sz x1.m.Abs) c5,.int .i64 x1.e]] w (Ret GI w r):=by
 unfold Bq at hr
 go_enter Tryz.func106,Tryz.ntmps106
 refine wp_seq_k fun K7 h7=>Af<|BT rfl rfl fun b8 w1 E9 g5b q4a=>?_
 refine nrm ?_
 refine BT rfl rfl fun b6f w2 E6a g7f q6b=>?_
 refine nrm ?_
 have g9k:=nlt E9.size g7f
 have X8f:=xtr E9 E6a
 refine sV (Ac rfl) ?_
 refine Ad<|h7 _ _<|wp_seq_k fun K9c h9c=>wp_seq_k fun K0d h0d=>Ei [] 6 mo rfl fun w3 E1a S7b=>have X8b:=xtr X8f E1a;dV 0 rfl (fun _ hw=>Am AE rfl (((q4a.ext E6a).ext E1a).ext hw) rfl) S7b ?_
 refine dV 2 rfl (fun _ hw=>Am AE rfl ((q6b.ext E1a).ext hw) rfl) S7b ?_
 obtain ⟨r7a,h9f,f0g⟩:=Ab hr
 refine dc 1 rfl (by kernel_rfl) (by rfl) (Ae Js (by rfl)) (Dj x0 A1 c2 w3 (tbx X8b hT) (n3.ext X8b) r7a h9f) ?_
 rintro _ w4 E2a rfl
 refine dnrm ?_
 have X9b:=xtr X8b E2a
 have S1g:=S7b.trans E2a
 obtain ⟨r1d,h2g,f3g⟩:=Ab f0g
 refine dc 3 rfl (by kernel_rfl) (by rfl) (Ae Js (by rfl)) (Dj x1 A4 c5 w4 (tbx X9b hT) (n6.ext X9b) r1d h2g) ?_
 rintro _ w5 E3a rfl
 refine dnrm ?_
 have X0c:=xtr X9b E3a
 have S0l:=S1g.trans E3a
 refine dA 4 rfl (fun _=>Ac rfl) ?_
 refine dA 5 rfl (fun _=>Ac rfl) ?_
 refine CU (by kernel_rfl) ?_
 refine h0d _ _<|wp_seq_k fun K2d h2d=>Af<|sV (Aa rfl) ?_
 refine sV (Aa rfl) ?_
 refine sb (Ix rfl rfl) fun z2b hz2b=>?_
 refine nrm ?_
 refine sV (Aa rfl) ?_
 obtain ⟨m3d,h4d,f5d⟩:=Ab f3g
 refine Ca 7 (fun l l' w'=>∃(t6d:Value) (t7d:Value),w5=w'∧l'=(((l.set 17 t6d).set 18 t7d).set 19 (.bool m3d))) ?_ ?_
 ·intro HJ49
  rcases bft z2b with e0a | e0a
  ·have p4g:=zP hz2b e0a
   have f5g:=ifP p4g h4d
   refine sP ?_ (hw:=wgF rfl e0a)
   refine sP ?_ (hw:=wgF rfl e0a)
   refine sV (AB (evb rfl e0a) rfl) ?_
   obtain rfl:=sj f5g
   exact HJ49 _ _ ⟨uu,uu,rfl,(by simp only [S0,S1]<;>rfl)⟩
  ·have p6g:=zN hz2b e0a
   have f7g:=ifN p6g h4d
   refine sV (Aa rfl) ?_ (hw:=wgT rfl e0a)
   refine sb (Ce rfl rfl) ?_ (hw:=wgT rfl e0a)
   intro z1c hz1c
   refine nrm ?_
   refine sV (AF (evb rfl e0a) rfl) ?_
   obtain rfl:z1c=decide (r7a=0):=bz hz1c
   obtain rfl:=sj f7g
   exact HJ49 _ _ ⟨(.int .i64 r7a),(.bool (decide (r7a=0))),rfl,(by simp only [S0,S1]<;>rfl)⟩
 ·rintro l' _ ⟨t6d,t7d,rfl,hq'⟩ l'' hl
  rw [hq'] at hl
  clear hq'
  simp only [S0,S1] at hl
  subst hl
  refine Ad<|h2d _ _ ?_
  rcases bft m3d with e8a | e8a
  ·have p8g:=e8a
   have f9g:=ifP p8g f5d
   refine wp_cond_true (Aj (evb rfl e8a))<|wp_seq_k fun K8d h8d=>Af<|sV (Aa rfl) ?_
   refine sV (Aa rfl) ?_
   obtain ⟨r0h,h1h,f2h⟩:=Ab f9g
   refine sc (Ae Ot (by rfl)) (JX r7a r1d w5 (tbx X0c hT)  r0h h1h) ?_
   rintro _ w6 E3h rfl
   refine nrm ?_
   have X4h:=xtr X0c E3h
   refine sV (Ac rfl) ?_
   refine Ad<|h8d _ _<|wp_ret ?_
   obtain rfl:=sj f2h
   exact fin rfl (Res.tmp rfl Res.nil) (Ak X4h rfl)
  ·have p5h:=bF e8a
   have f6h:=ifN p5h f5d
   refine wp_cond_false (Aj (evb rfl e8a))<|wp_skip<|h9c _ _<|wp_seq_k fun K9d h9d=>wp_seq_k fun K0e h0e=>Ei [] 6 mo rfl fun w6 E5a S2c=>have X3c:=xtr X0c E5a;dV 0 rfl (fun _ hw=>Am AE rfl ((((((q4a.ext E6a).ext E1a).ext E2a).ext E3a).ext E5a).ext hw) rfl) S2c ?_
   refine dV 2 rfl (fun _ hw=>Am AE rfl (((((q6b.ext E1a).ext E2a).ext E3a).ext E5a).ext hw) rfl) S2c ?_
   obtain ⟨r1e,h7h,f8h⟩:=Ab f6h
   refine dc 1 rfl (by kernel_rfl) (by rfl) (Ae NL (by rfl)) (IK x0 A1 c2 w6 (tbx X3c hT) (n3.ext X3c) r1e h7h) ?_
   rintro _ w7 E9a rfl
   refine dnrm ?_
   have X4c:=xtr X3c E9a
   have S9h:=S2c.trans E9a
   obtain ⟨r2e,h0i,f3e⟩:=Ab f8h
   refine dc 3 rfl (by kernel_rfl) (by rfl) (Ae NL (by rfl)) (IK x1 A4 c5 w7 (tbx X4c hT) (n6.ext X4c) r2e h0i) ?_
   rintro _ w8 E0b rfl
   refine dnrm ?_
   have X3b:=xtr X4c E0b
   have S1l:=S9h.trans E0b
   refine dA 4 rfl (fun _=>Ac rfl) ?_
   refine dA 5 rfl (fun _=>Ac rfl) ?_
   refine CU (by kernel_rfl) ?_
   refine h0e _ _<|wp_seq_k fun K4e h4e=>Af<|sV (Aa rfl) ?_
   refine sV (Aa rfl) ?_
   refine sb (Ix rfl rfl) fun z4b hz4b=>?_
   refine nrm ?_
   refine Ad<|h4e _ _ ?_
   rcases bft z4b with e1b | e1b
   ·have p1i:=zP hz4b e1b
    have f2i:=ifP p1i f3e
    refine wp_cond_true (Aj (evb rfl e1b))<|wp_seq_k fun K5e h5e=>Af<|have q3i:=((((((q4a.ext E6a).ext E1a).ext E2a).ext E3a).ext E5a).ext E9a).ext E0b;sV (Am AE rfl q3i rfl) ?_
    obtain ⟨r6e,h4i,f5i⟩:=Ab f2i
    refine sc (Ae Js (by rfl)) (Dj x0 A1 c2 w8 (tbx X3b hT) (n3.ext X3b) r6e h4i) ?_
    rintro _ w9 E6i rfl
    refine nrm ?_
    have X7e:=xtr X3b E6i
    refine sV (Aa rfl) ?_
    refine sV (Aa rfl) ?_
    obtain ⟨r8e,h7i,f8i⟩:=Ab f5i
    refine sc (Ae Ot (by rfl)) (JX r1e r2e w9 (tbx X7e hT)  r8e h7i) ?_
    rintro _ w5b E9i rfl
    refine nrm ?_
    have X0j:=xtr X7e E9i
    refine sV (JH (c:=wi64 (r6e*r8e)) rfl rfl rfl) ?_
    refine sV (Ac rfl) ?_
    refine Ad<|h5e _ _<|wp_ret ?_
    obtain rfl:=sj f8i
    exact fin rfl (Res.tmp rfl Res.nil) (Ak X0j rfl)
   ·have p1j:=zN hz4b e1b
    have f2j:=ifN p1j f3e
    refine wp_cond_false (Aj (evb rfl e1b))<|wp_skip<|h9d _ _<|wp_seq_k fun K9e h9e=>Ei [] 6 mo rfl fun w9 E5c S6c=>have X7c:=xtr X3b E5c;dV 0 rfl (fun _ hw=>Am AE rfl (((((((((q4a.ext E6a).ext E1a).ext E2a).ext E3a).ext E5a).ext E9a).ext E0b).ext E5c).ext hw) rfl) S6c ?_
    refine dV 1 rfl (fun _ hw=>Am AE rfl ((((((((q6b.ext E1a).ext E2a).ext E3a).ext E5a).ext E9a).ext E0b).ext E5c).ext hw) rfl) S6c ?_
    obtain ⟨r0f,h3j,f4j⟩:=Ab f2j
    refine dc 2 rfl (by kernel_rfl) (by rfl) (Ae en_115 (by rfl)) (c_dyad_num_minus x1 A4 c5 w9 (tbx X7c hT) (n6.ext X7c) r0f h3j) ?_
    rintro _ w5b E1f ⟨A5j,c6j,rfl,n7j⟩
    refine dnrm ?_
    have X8c:=xtr X7c E1f
    have S8j:=S6c.trans E1f
    obtain ⟨r2f,h9j,f0k⟩:=Ab f4j
    refine dc 3 rfl (by kernel_rfl) (by rfl) (Ae en_124 (by rfl)) (c_dyad_num_plus x0 r0f A1 c2 A5j c6j w5b (tbx X8c hT) (n3.ext X8c) n7j r2f h9j) ?_
    rintro _ w4a E3f ⟨A1k,c2k,rfl,n3k⟩
    refine dnrm ?_
    have X4f:=xtr X8c E3f
    have S4k:=S8j.trans E3f
    obtain ⟨r5k,h6k,f7k⟩:=Ab f0k
    refine dc 4 rfl (by kernel_rfl) (by rfl) (Ae Js (by rfl)) (Dj r2f A1k c2k w4a (tbx X4f hT) n3k r5k h6k) ?_
    rintro _ w6f E5f rfl
    refine dnrm ?_
    have X8k:=xtr X4f E5f
    have S2l:=S4k.trans E5f
    refine dA 5 rfl (fun _=>Ac rfl) ?_
    refine CU (by kernel_rfl) ?_
    refine h9e _ _<|wp_ret ?_
    obtain rfl:=sj f7k
    exact fin rfl (Res.tmp rfl Res.nil) (Ak X8k rfl)
theorem Kt (x0:AI) (A1:Option Addr) (c2:Nat) (A4:Option Addr) (c5:Nat) (w:World) (hT:TB w) (n3:RLu w A1 c2 x0.Lo.Man.Abs) (n6:RLu w A4 c5 x0.Hi.Man.Abs) (r:Bool) (hr:HY x0=some r) :
  Calls Tryz.prog 65 #[.agg #[.bool x0.Lo.Man.Neg,.slice A1 x0.Lo.Man.Abs.length c2,.int .i64 x0.Lo.Exp,.bool x0.Hi.Man.Neg,.slice A4 x0.Hi.Man.Abs.length c5,.int .i64 x0.Hi.Exp]] w (Ret Fy w r):=by
 unfold HY at hr
 go_enter Tryz.func65,Tryz.ntmps65
 refine wp_seq_k fun K7 h7=>Af<|BT rfl rfl fun b8 w1 E9 g1g q3a=>?_
 refine nrm ?_
 refine sV (Ac rfl) ?_
 refine Ad<|h7 _ _<|wp_seq_k fun K4a h4a=>Ei [] 19 mo rfl fun w2 E2a S2b=>have X7a:=xtr E9 E2a;dA 0 rfl (fun _=>Ai (o':=0) KL rfl rfl) ?_
 refine dV 1 rfl (fun _ hw=>AH Bk rfl ((q3a.ext E2a).ext hw) (by simp only [List.drop_zero,List.take_succ_cons,List.take_zero];rfl) rfl) S2b ?_
 obtain ⟨r3b,h0d,f4b⟩:=Ab hr
 refine dc 2 rfl (by kernel_rfl) (by rfl) (Ae Mg (by rfl)) (Gb x0.Lo A1 c2 w2 (tbx X7a hT) (n3.ext X7a) r3b h0d) ?_
 rintro _ w3 E5b rfl
 refine dnrm ?_
 have X5a:=xtr X7a E5b
 have S6b:=S2b.trans E5b
 refine dA 3 rfl (fun _=>Aa rfl) ?_
 rcases bft r3b with e1a | e1a
 ·have p1d:=e1a
  have f2d:=ifP p1d f4b
  refine dA 4 rfl (fun _=>Ai (o':=3) KN rfl rfl) ?_ (hw:=wgT rfl e1a)
  refine dV 5 rfl (fun _ hw=>AH Bk rfl ((q3a.ext E2a).ext hw) (by simp only [List.drop_succ_cons,List.drop_zero,List.take_succ_cons,List.take_zero];rfl) rfl) S6b ?_ (hw:=wgT rfl e1a)
  obtain ⟨r7b,h3d,f8b⟩:=Ab f2d
  refine dc 6 rfl (by kernel_rfl) (wgT rfl e1a) (Ae Mg (by rfl)) (Gb x0.Hi A4 c5 w3 (tbx X5a hT) (n6.ext X5a) r7b h3d) ?_
  rintro _ w4 E9b rfl
  refine dnrm ?_
  have X6a:=xtr X5a E9b
  have S8a:=S6b.trans E9b
  refine dA 7 rfl (fun _=>AB (evb rfl e1a) rfl) ?_
  refine dA 8 rfl (fun _=>Aa rfl) ?_
  rcases bft r7b with e0a | e0a
  ·have p4d:=e0a
   have f5d:=ifP p4d f8b
   refine dA 9 rfl (fun _=>Ai (o':=0) KL rfl rfl) ?_ (hw:=wgT rfl e0a)
   refine dV 10 rfl (fun _ hw=>AH Bk rfl ((q3a.ext E2a).ext hw) (by simp only [List.drop_zero,List.take_succ_cons,List.take_zero];rfl) rfl) S8a ?_ (hw:=wgT rfl e0a)
   refine dA 12 rfl (fun _=>Ai (o':=3) KN rfl rfl) ?_ (hw:=wgT rfl e0a)
   refine dV 13 rfl (fun _ hw=>AH Bk rfl ((q3a.ext E2a).ext hw) (by simp only [List.drop_succ_cons,List.drop_zero,List.take_succ_cons,List.take_zero];rfl) rfl) S8a ?_ (hw:=wgT rfl e0a)
   obtain ⟨m0c,h6d,f7d⟩:=Ab f5d
   have hx1c:=BD h6d
   have n8d:RU w4 A1 c2 m0c:=by unfold RU;rw [hx1c];exact (n3.ext X6a)
   obtain ⟨r2c,h9d,f0e⟩:=Ab f7d
   refine dc 11 rfl (by kernel_rfl) (wgT rfl e0a) (Ae JB (by simp only [sz,hx1c];rfl)) (GX (⟨(⟨x0.Lo.Man.Neg,m0c⟩:Ah),x0.Lo.Exp⟩:Al) A1 c2 w4 (tbx X6a hT) n8d r2c h9d) ?_
   rintro _ w5 E3c ⟨A1e,c2e,rfl,n3e⟩
   refine dnrm ?_
   have X9a:=xtr X6a E3c
   have S4e:=S8a.trans E3c
   obtain ⟨m4c,h5e,f6e⟩:=Ab f0e
   have hx5c:=BD h5e
   have n7e:RU w5 A4 c5 m4c:=by unfold RU;rw [hx5c];exact (n6.ext X9a)
   obtain ⟨r6c,h8e,f9e⟩:=Ab f6e
   refine dc 14 rfl (by kernel_rfl) (wgT rfl e0a) (Ae JB (by simp only [sz,hx5c];rfl)) (GX (⟨(⟨x0.Hi.Man.Neg,m4c⟩:Ah),x0.Hi.Exp⟩:Al) A4 c5 w5 (tbx X9a hT) n7e r6c h8e) ?_
   rintro _ w6 E0b ⟨A0f,c1f,rfl,n2f⟩
   refine dnrm ?_
   have X7c:=xtr X9a E0b
   have S3f:=S4e.trans E0b
   obtain ⟨r8c,h4f,f5f⟩:=Ab f9e
   refine dc 15 rfl (by kernel_rfl) (wgT rfl e0a) (Ae IH (by rfl)) (CJ r2c r6c A1e c2e A0f c1f w6 (tbx X7c hT) (n3e.ext E0b) n2f r8c h4f) ?_
   rintro _ w7 E9c rfl
   refine dnrm ?_
   have X6f:=xtr X7c E9c
   have S2g:=S3f.trans E9c
   refine dab 16 rfl (by kernel_rfl) (fun _ _ _ h=>h) (wgT rfl e0a) (fun _=>IL rfl rfl) fun z1b hz1b=>?_
   refine dnrm ?_
   refine dA 17 rfl (fun _=>AB (evb rfl e0a) rfl) ?_
   refine dA 18 rfl (fun _=>Ac rfl) ?_
   refine CU (by kernel_rfl) ?_
   refine h4a _ _<|wp_ret ?_
   obtain rfl:z1b=decide (r8c≤0):=bz hz1b
   obtain rfl:=sj f5f
   exact fin rfl (Res.tmp rfl Res.nil) (Ak X6f rfl)
  ·have p7f:=bF e0a
   have f8f:=ifN p7f f8b
   refine dP 9 rfl ?_ (hw:=wgF rfl e0a)
   refine dP 10 rfl ?_ (hw:=wgF rfl e0a)
   refine dP 11 rfl ?_ (hw:=wgF rfl e0a)
   refine dP 12 rfl ?_ (hw:=wgF rfl e0a)
   refine dP 13 rfl ?_ (hw:=wgF rfl e0a)
   refine dP 14 rfl ?_ (hw:=wgF rfl e0a)
   refine dP 15 rfl ?_ (hw:=wgF rfl e0a)
   refine dP 16 rfl ?_ (hw:=wgF rfl e0a)
   refine dA 17 rfl (fun _=>AF (evb rfl e0a) rfl) ?_
   refine dA 18 rfl (fun _=>Ac rfl) ?_
   refine CU (by kernel_rfl) ?_
   refine h4a _ _<|wp_ret ?_
   obtain rfl:=sj f8f
   exact fin rfl (Res.tmp rfl Res.nil) (Ak X6a rfl)
 ·have p9f:=bF e1a
  have f0g:=ifN p9f f4b
  refine dP 4 rfl ?_ (hw:=wgF rfl e1a)
  refine dP 5 rfl ?_ (hw:=wgF rfl e1a)
  refine dP 6 rfl ?_ (hw:=wgF rfl e1a)
  refine dA 7 rfl (fun _=>AF (evb rfl e1a) rfl) ?_
  refine dA 8 rfl (fun _=>Aa rfl) ?_
  refine dP 9 rfl ?_ (hw:=wgF rfl rfl)
  refine dP 10 rfl ?_ (hw:=wgF rfl rfl)
  refine dP 11 rfl ?_ (hw:=wgF rfl rfl)
  refine dP 12 rfl ?_ (hw:=wgF rfl rfl)
  refine dP 13 rfl ?_ (hw:=wgF rfl rfl)
  refine dP 14 rfl ?_ (hw:=wgF rfl rfl)
  refine dP 15 rfl ?_ (hw:=wgF rfl rfl)
  refine dP 16 rfl ?_ (hw:=wgF rfl rfl)
  refine dA 17 rfl (fun _=>AF (evb rfl rfl) rfl) ?_
  refine dA 18 rfl (fun _=>Ac rfl) ?_
  refine CU (by kernel_rfl) ?_
  refine h4a _ _<|wp_ret ?_
  obtain rfl:=sj f0g
  exact fin rfl (Res.tmp rfl Res.nil) (Ak X5a rfl)
theorem EN (x0_0:AI) (x0_1:AI) (bp0:Nat) (A1:Option Addr) (c2:Nat) (A4:Option Addr) (c5:Nat) (A7:Option Addr) (c8:Nat) (A5a:Option Addr) (c6a:Nat) (w:World) (hT:TB w) (n3:RLu w A1 c2 x0_0.Lo.Man.Abs) (n6:RLu w A4 c5 x0_0.Hi.Man.Abs) (n9:RLu w A7 c8 x0_1.Lo.Man.Abs) (n8c:RLu w A5a c6a x0_1.Hi.Man.Abs) (q4b:Bx w bp0 29 [.bool x0_0.Lo.Man.Neg,.slice A1 x0_0.Lo.Man.Abs.length c2,.int .i64 x0_0.Lo.Exp,.bool x0_0.Hi.Man.Neg,.slice A4 x0_0.Hi.Man.Abs.length c5,.int .i64 x0_0.Hi.Exp,.bool x0_1.Lo.Man.Neg,.slice A7 x0_1.Lo.Man.Abs.length c8,.int .i64 x0_1.Lo.Exp,.bool x0_1.Hi.Man.Neg,.slice A5a x0_1.Hi.Man.Abs.length c6a,.int .i64 x0_1.Hi.Exp]) (r:Except Int (Unit)) (hr:FR x0_0 x0_1=some r) :
  Calls Tryz.prog 162 #[.slice (some ⟨bp0,0,none⟩) 2 2] w (RetE 201 Ki w r):=by
 unfold FR at hr
 go_enter Tryz.func162,Tryz.ntmps162
 refine wp_seq_k fun K5b h5b=>Af<|sV (Aa rfl) ?_
 refine sV (AD Ln rfl) ?_
 refine sV (Aa rfl) ?_
 refine Ad<|h5b _ _ ?_
 apply wp_block
 refine GO<|Bg<|wp_seq_k fun K6b h6b=>Af<|sV (HO (v:=.bool true) (Cm rfl rfl) (by rfl)) ?_
 refine Ad<|h6b _ _<|wp_seq_k fun K7b h7b=>wp_cond_true (Aj (evb rfl rfl))<|wp_skip<|h7b _ _<|wp_seq_k fun K8b h8b=>?_
 apply wp_block
 refine wp_seq_k fun K9b h9b=>Af<|sV (FO (o':=0) Ln GJ rfl rfl (by decide) (by decide) (by decide)) ?_
 refine sV (AH CP rfl q4b (by simp only [List.drop_zero,List.take_succ_cons,List.take_zero];rfl) rfl) ?_
 refine Aw Hp fun b1f w1 E9c g0d q1d=>?_
 refine nrm ?_
 refine Ax GJ rfl rfl q1d rfl rfl rfl rfl (by simp only [SP0,SP1,S0,S1,Nat.reduceAdd];rfl) fun w2 U2d q3d=>?_
 have F0a:=belU E9c U2d g0d
 refine Ad<|h9b _ _<|Af<|sV (Am CP rfl q3d rfl) ?_
 obtain ⟨r7a,h4d,f5d⟩:=Ab hr
 refine sc (Ae Py (by rfl)) (Kt x0_0 A1 c2 A4 c5 w2 (tbx F0a hT) (n3.ext F0a) (n6.ext F0a) r7a h4d) ?_
 rintro _ w3 E0c rfl
 refine nrm ?_
 have X1a:=xtr F0a E0c
 rcases AG f5d with ⟨r8a,h9a,f6d⟩ | ⟨r8a,h9a,rfl⟩
 ·refine scO (Ae Dh (by rfl)) (AN r7a 1 w3 (tbx X1a hT)  (.ok r8a) h9a) ?_
  rintro _ w4 E2a rfl
  refine nrm ?_
  have X1c:=xtr X1a E2a
  refine Ad<|h8b _ _<|Af<|sV (Bd (c:=1) rfl rfl (by decide)) ?_
  refine sV (Aa rfl) ?_
  refine Ad<|Bg<|wp_seq_k fun K2c h2c=>Af<|sV (HO (v:=.bool true) (Cm rfl rfl) (by rfl)) ?_
  refine Ad<|h2c _ _<|wp_seq_k fun K3c h3c=>wp_cond_true (Aj (evb rfl rfl))<|wp_skip<|h3c _ _<|wp_seq_k fun K4c h4c=>?_
  apply wp_block
  refine wp_seq_k fun K5c h5c=>Af<|sV (FO (o':=6) Ln GJ rfl rfl (by decide) (by decide) (by decide)) ?_
  have q7d:=((q4b.ext F0a).ext E0c).ext E2a
  refine sV (AH CP rfl q7d (by simp only [List.drop_succ_cons,List.drop_zero,List.take_succ_cons,List.take_zero];rfl) rfl) ?_
  refine Aw Hp fun b2f w5 E8d g6c q9d=>?_
  refine nrm ?_
  have g3f:=nlt X1c.size g6c
  refine Ax GJ rfl rfl q9d rfl rfl rfl rfl (by simp only [SP0,SP1,S0,S1,Nat.reduceAdd];rfl) fun w6 U0e q1e=>?_
  have F2e:=belU E8d U0e g6c
  have X3a:=xtr X1c F2e
  refine Ad<|h5c _ _<|Af<|sV (Am CP rfl q1e rfl) ?_
  obtain ⟨r0b,h3e,f4e⟩:=Ab f6d
  refine sc (Ae Py (by rfl)) (Kt x0_1 A7 c8 A5a c6a w6 (tbx X3a hT) (n9.ext X3a) (n8c.ext X3a) r0b h3e) ?_
  rintro _ w7 E5e rfl
  refine nrm ?_
  have X4a:=xtr X3a E5e
  rcases AG f4e with ⟨r1b,h2b,f6e⟩ | ⟨r1b,h2b,rfl⟩
  ·refine scO (Ae Dh (by rfl)) (AN r0b 1 w7 (tbx X4a hT)  (.ok r1b) h2b) ?_
   rintro _ w8 E3b rfl
   refine nrm ?_
   have X7e:=xtr X4a E3b
   refine Ad<|h4c _ _<|Af<|sV (Bd (c:=2) rfl rfl (by decide)) ?_
   refine sV (Aa rfl) ?_
   refine Ad<|Bg<|wp_seq_k fun K7c h7c=>Af<|sV (HO (v:=.bool false) (Cm rfl rfl) (by rfl)) ?_
   refine Ad<|h7c _ _<|wp_seq_k fun K8e h8e=>wp_cond_false (Aj (evb rfl rfl))<|wp_exit ?_
   simp only [Exit.then,Exit.inBlock,↓reduceIte,Nat.reduceEqDiff]
   obtain rfl:=sj f6e
   exact Mb rfl Res.nil (DT X7e rfl)
  ·refine scP (Ae Dh (by rfl)) (AN r0b 1 w7 (tbx X4a hT)  (.error r1b) h2b) fun w8 E3b=>?_
   have X9e:=xtr X4a E3b
   exact ⟨rfl,BP X9e⟩
 ·refine scP (Ae Dh (by rfl)) (AN r7a 1 w3 (tbx X1a hT)  (.error r8a) h9a) fun w4 E2a=>?_
  have X0f:=xtr X1a E2a
  exact ⟨rfl,BP X0f⟩
theorem Gr (x0:AC) (A1:Option Addr) (c2:Nat) (A4:Option Addr) (c5:Nat) (w:World) (hT:TB w) (n3:RU w A1 c2 x0.Lo.Man.Abs) (n6:RU w A4 c5 x0.Hi.Man.Abs) (r:Av) (hr:EK x0=some r) :
  Calls Tryz.prog 163 #[.agg #[.bool x0.Lo.Man.Neg,.slice A1 (sz x0.Lo.Man.Abs) c2,.int .i64 x0.Lo.Exp,.bool x0.Hi.Man.Neg,.slice A4 (sz x0.Hi.Man.Abs) c5,.int .i64 x0.Hi.Exp]] w (Ret NX w r):=by
 unfold EK at hr
 go_enter Tryz.func163,Tryz.ntmps163
 refine wp_seq_k fun K7 h7=>Af<|BT rfl rfl fun b8 w1 E9 g2d q5b=>?_
 refine nrm ?_
 refine Aw Pd fun b3d w2 E4a g7b q8b=>?_
 refine nrm ?_
 have g9b:=nlt E9.size g7b
 have X0c:=xtr E9 E4a
 refine Ad<|h7 _ _<|wp_seq_k fun K6b h6b=>Ei [7] 8 mo rfl fun w3 E2a S5a=>have X6a:=xtr X0c E2a;dA 0 rfl (fun _=>Ai (o':=0) KL rfl rfl) ?_
 refine dV 1 rfl (fun _ hw=>AH Bk rfl (((q5b.ext E4a).ext E2a).ext hw) (by simp only [List.drop_zero,List.take_succ_cons,List.take_zero];rfl) rfl) S5a ?_
 refine dA 3 rfl (fun _=>Ai (o':=3) KN rfl rfl) ?_
 refine dV 4 rfl (fun _ hw=>AH Bk rfl (((q5b.ext E4a).ext E2a).ext hw) (by simp only [List.drop_succ_cons,List.drop_zero,List.take_succ_cons,List.take_zero];rfl) rfl) S5a ?_
 obtain ⟨r0a,h1c,f2c⟩:=Ab hr
 refine dc 2 rfl (by kernel_rfl) (by rfl) (Ae JB (by rfl)) (GX x0.Lo A1 c2 w3 (tbx X6a hT) (n3.ext X6a) r0a h1c) ?_
 rintro _ w4 E7a ⟨A8a,c9a,rfl,n3c⟩
 refine dnrm ?_
 have X0b:=xtr X6a E7a
 have S4c:=S5a.trans E7a
 obtain ⟨r1a,h5c,f6c⟩:=Ab f2c
 refine dc 5 rfl (by kernel_rfl) (by rfl) (Ae JB (by rfl)) (GX x0.Hi A4 c5 w4 (tbx X0b hT) (n6.ext X0b) r1a h5c) ?_
 rintro _ w5 E3a ⟨A1b,c2b,rfl,n7c⟩
 refine dnrm ?_
 have X8c:=xtr X0b E3a
 have S4d:=S4c.trans E3a
 refine dA 6 rfl (fun _=>Bc (vals:=[(0,.agg #[.bool r0a.m.Neg,.slice A8a (sz r0a.m.Abs) c9a,.int .i64 r0a.e]),(1,.agg #[.bool r1a.m.Neg,.slice A1b (sz r1a.m.Abs) c2b,.int .i64 r1a.e])]) (cells:=[.bool r0a.m.Neg,.slice A8a (sz r0a.m.Abs) c9a,.int .i64 r0a.e,.bool r1a.m.Neg,.slice A1b (sz r1a.m.Abs) c2b,.int .i64 r1a.e]) (by rfl) (by kernel_rfl)) ?_
 have q3b:=((q8b.ext E2a).ext E7a).ext E3a
 refine dk 7 rfl (by kernel_rfl) (by decide) (by rfl) OV rfl rfl q3b rfl rfl rfl rfl (by simp only [SP0,SP1,S0,S1,Nat.reduceAdd];rfl) fun w6 U4b q9c=>?_
 have X0d:=belU X8c U4b g9b
 refine CU (by kernel_rfl) ?_
 refine h6b _ _<|wp_ret ?_
 have n1d:=(n3c.ext E3a).upd U4b q3b (by decide)
 obtain rfl:=sj f6c
 exact fin rfl (Res.cellN rfl Ka q9c rfl rfl Res.nil) (Ak X0d ⟨A8a,c9a,A1b,c2b,rfl,n1d,(n7c.upd U4b q3b (by decide))⟩)
theorem c_wide_Int_Mul (x0:Ah) (x1:Ah) (A1:Option Addr) (c2:Nat) (A4:Option Addr) (c5:Nat) (w:World) (hT:TB w) (n3:RU w A1 c2 x0.Abs) (n6:RU w A4 c5 x1.Abs) (r:Ah) (hr:HI x0 x1=some r) :
  Calls Tryz.prog 193 #[.agg #[.bool x0.Neg,.slice A1 (sz x0.Abs) c2],.agg #[.bool x1.Neg,.slice A4 (sz x1.Abs) c5]] w (Ret KH w r):=by
 unfold HI at hr
 go_enter Tryz.func193,Tryz.ntmps193
 refine wp_seq_k fun K7 h7=>Af<|BT rfl rfl fun b8 w1 E9 g7c q0b=>?_
 refine nrm ?_
 refine BT rfl rfl fun b8c w2 E6a g6b q1b=>?_
 refine nrm ?_
 have g9c:=nlt E9.size g6b
 have X2b:=xtr E9 E6a
 refine Aw Hl fun b0d w3 E1a g7b q3b=>?_
 refine nrm ?_
 have g8b:=nlt X2b.size g7b
 have X9b:=xtr X2b E1a
 refine Ad<|h7 _ _<|wp_seq_k fun K4b h4b=>Ei [11] 12 mo rfl fun w4 E0a S2a=>have X4a:=xtr X9b E0a;dA 0 rfl (fun _=>Ai (o':=0) EC rfl rfl) ?_
 refine dV 1 rfl (fun _ hw=>Ag Ik rfl (Bx.cell ((((q0b.ext E6a).ext E1a).ext E0a).ext hw) rfl)) S2a ?_
 refine dA 2 rfl (fun _=>Ai (o':=0) EC rfl rfl) ?_
 refine dV 3 rfl (fun _ hw=>Ag Ik rfl (Bx.cell (((q1b.ext E1a).ext E0a).ext hw) rfl)) S2a ?_
 refine dab 4 rfl (by kernel_rfl) (fun _ _ _ h=>h) (by rfl) (fun _=>NB OM rfl rfl) fun z3a hz3a=>?_
 refine dnrm ?_
 refine dA 5 rfl (fun _=>Ai (o':=1) Bs rfl rfl) ?_
 refine dV 6 rfl (fun _ hw=>Ag CQ rfl (Bx.cell ((((q0b.ext E6a).ext E1a).ext E0a).ext hw) rfl)) S2a ?_
 refine dA 7 rfl (fun _=>Ai (o':=1) Bs rfl rfl) ?_
 refine dV 8 rfl (fun _ hw=>Ag CQ rfl (Bx.cell (((q1b.ext E1a).ext E0a).ext hw) rfl)) S2a ?_
 obtain ⟨r7a,h0c,f1c⟩:=Ab hr
 refine dc 9 rfl (by kernel_rfl) (by rfl) (Ae Pb (by rfl)) (Hx x0.Abs x1.Abs A1 c2 A4 c5 w4 (tbx X4a hT) (n3.ext X4a) (n6.ext X4a) r7a h0c) ?_
 rintro _ w5 E5a ⟨A8a,c9a,rfl,n2c⟩
 refine dnrm ?_
 have X3c:=xtr X4a E5a
 have S1d:=S2a.trans E5a
 refine dA 10 rfl (fun _=>Bc (vals:=[(0,.bool z3a),(1,.slice A8a (sz r7a) c9a)]) (cells:=[.bool z3a,.slice A8a (sz r7a) c9a]) (by rfl) (by kernel_rfl)) ?_
 refine dk 11 rfl (by kernel_rfl) (by decide) (by rfl) Gt rfl rfl ((q3b.ext E0a).ext E5a) rfl rfl rfl rfl (by simp only [SP0,SP1,S0,S1,Nat.reduceAdd];rfl) fun w6 U5b q4c=>?_
 have X5c:=belU X3c U5b g8b
 refine CU (by kernel_rfl) ?_
 refine h4b _ _<|wp_ret ?_
 obtain rfl:z3a=decide (¬x0.Neg=x1.Neg):=bz hz3a
 have n6c:=n2c.upd U5b ((q3b.ext E0a).ext E5a) (by decide)
 obtain rfl:=sj f1c
 exact fin rfl (Res.cellN rfl DS q4c rfl rfl Res.nil) (Ak X5c ⟨A8a,c9a,rfl,n6c⟩)
theorem HP (x0:An) (x1:An) (A1:Option Addr) (c2:Nat) (A4:Option Addr) (c5:Nat) (w:World) (hT:TB w) (n3:RU w A1 c2 x0.m.Abs) (n6:RU w A4 c5 x1.m.Abs) (r:An) (hr:Du x0 x1=some r) :
  Calls Tryz.prog 117 #[.agg #[.bool x0.m.Neg,.slice A1 (sz x0.m.Abs) c2,.int .i64 x0.e],.agg #[.bool x1.m.Neg,.slice A4 (sz x1.m.Abs) c5,.int .i64 x1.e]] w (Ret HW w r):=by
 unfold Du at hr
 go_enter Tryz.func117,Tryz.ntmps117
 refine wp_seq_k fun K7 h7=>Af<|BT rfl rfl fun b8 w1 E9 g5d q7a=>?_
 refine nrm ?_
 refine BT rfl rfl fun b6d w2 E4a g5b q8a=>?_
 refine nrm ?_
 have g7d:=nlt E9.size g5b
 have X9a:=xtr E9 E4a
 refine Aw Ba fun b8d w3 E1a g6b q7b=>?_
 refine nrm ?_
 have g8b:=nlt X9a.size g6b
 have X9b:=xtr X9a E1a
 refine Ad<|h7 _ _<|wp_seq_k fun K0b h0b=>Ei [11] 12 mo rfl fun w4 E0a S2a=>have X3a:=xtr X9b E0a;dA 0 rfl (fun _=>Ai (o':=0) BZ rfl rfl) ?_
 refine dV 1 rfl (fun _ hw=>AH DS rfl ((((q7a.ext E4a).ext E1a).ext E0a).ext hw) (by simp only [List.drop_zero,List.take_succ_cons,List.take_zero];rfl) rfl) S2a ?_
 refine dA 2 rfl (fun _=>Ai (o':=0) BZ rfl rfl) ?_
 refine dV 3 rfl (fun _ hw=>AH DS rfl (((q8a.ext E1a).ext E0a).ext hw) (by simp only [List.drop_zero,List.take_succ_cons,List.take_zero];rfl) rfl) S2a ?_
 refine dA 5 rfl (fun _=>Ai (o':=2) DE rfl rfl) ?_
 refine dV 6 rfl (fun _ hw=>Ag Ey rfl (Bx.cell ((((q7a.ext E4a).ext E1a).ext E0a).ext hw) rfl)) S2a ?_
 refine dA 7 rfl (fun _=>Ai (o':=2) DE rfl rfl) ?_
 refine dV 8 rfl (fun _ hw=>Ag Ey rfl (Bx.cell (((q8a.ext E1a).ext E0a).ext hw) rfl)) S2a ?_
 refine dA 9 rfl (fun _=>Bd (c:=wi64 (x0.e+x1.e)) rfl rfl rfl) ?_
 obtain ⟨r1b,h0c,f1c⟩:=Ab hr
 refine dc 4 rfl (by kernel_rfl) (by rfl) (Ae en_193 (by rfl)) (c_wide_Int_Mul x0.m x1.m A1 c2 A4 c5 w4 (tbx X3a hT) (n3.ext X3a) (n6.ext X3a) r1b h0c) ?_
 rintro _ w5 E5a ⟨A2c,c3c,rfl,n4c⟩
 refine dnrm ?_
 have X2b:=xtr X3a E5a
 have S5c:=S2a.trans E5a
 obtain ⟨r6c,h7c,f8c⟩:=Ab f1c
 refine dc 10 rfl (by kernel_rfl) (by rfl) (Ae Ky (by rfl)) (FE r1b (wi64 (x0.e+x1.e)) A2c c3c w5 (tbx X2b hT) n4c r6c h7c) ?_
 rintro _ w6 E6a ⟨A9c,c0d,rfl,n1d⟩
 refine dnrm ?_
 have X2d:=xtr X2b E6a
 have S9d:=S5c.trans E6a
 have q3b:=((q7b.ext E0a).ext E5a).ext E6a
 refine dk 11 rfl (by kernel_rfl) (by decide) (by rfl) BX rfl rfl q3b rfl rfl rfl rfl (by simp only [SP0,SP1,S0,S1,Nat.reduceAdd];rfl) fun w7 U4b q3d=>?_
 have X4d:=belU X2d U4b g8b
 refine CU (by kernel_rfl) ?_
 refine h0b _ _<|wp_ret ?_
 obtain rfl:=sj f8c
 exact fin rfl (Res.cellN rfl AE q3d rfl rfl Res.nil) (Ak X4d ⟨A9c,c0d,rfl,(n1d.upd U4b q3b (by decide))⟩)
theorem c_dyad_span_outward (x0:Av) (x1:Int) (A1:Option Addr) (c2:Nat) (A4:Option Addr) (c5:Nat) (w:World) (hT:TB w) (n3:RU w A1 c2 x0.lo.m.Abs) (n6:RU w A4 c5 x0.hi.m.Abs) (r:Av) (hr:Hb x0 x1=some r) :
  Calls Tryz.prog 118 #[.agg #[.bool x0.lo.m.Neg,.slice A1 (sz x0.lo.m.Abs) c2,.int .i64 x0.lo.e,.bool x0.hi.m.Neg,.slice A4 (sz x0.hi.m.Abs) c5,.int .i64 x0.hi.e],.int .i64 x1] w (Ret NX w r):=by
 unfold Hb at hr
 go_enter Tryz.func118,Tryz.ntmps118
 refine wp_seq_k fun K7 h7=>Af<|BT rfl rfl fun b8 w1 E9 g2d q5b=>?_
 refine nrm ?_
 refine Aw Pd fun b3d w2 E4a g7b q8b=>?_
 refine nrm ?_
 have g9b:=nlt E9.size g7b
 have X0c:=xtr E9 E4a
 refine Ad<|h7 _ _<|wp_seq_k fun K6b h6b=>Ei [9] 10 mo rfl fun w3 E2a S5a=>have X6a:=xtr X0c E2a;dA 0 rfl (fun _=>Ai (o':=0) Eg rfl rfl) ?_
 refine dV 1 rfl (fun _ hw=>AH AE rfl (((q5b.ext E4a).ext E2a).ext hw) (by simp only [List.drop_zero,List.take_succ_cons,List.take_zero];rfl) rfl) S5a ?_
 refine dA 2 rfl (fun _=>Aa rfl) ?_
 refine dA 4 rfl (fun _=>Ai (o':=3) EB rfl rfl) ?_
 refine dV 5 rfl (fun _ hw=>AH AE rfl (((q5b.ext E4a).ext E2a).ext hw) (by simp only [List.drop_succ_cons,List.drop_zero,List.take_succ_cons,List.take_zero];rfl) rfl) S5a ?_
 refine dA 6 rfl (fun _=>Aa rfl) ?_
 obtain ⟨r0a,h1c,f2c⟩:=Ab hr
 refine dc 3 rfl (by kernel_rfl) (by rfl) (Ae LR (by rfl)) (FN x0.lo x1 5 false A1 c2 w3 (tbx X6a hT) (n3.ext X6a) r0a h1c) ?_
 rintro _ w4 E7a ⟨A8a,c9a,rfl,n3c⟩
 refine dnrm ?_
 have X0b:=xtr X6a E7a
 have S4c:=S5a.trans E7a
 obtain ⟨r1a,h5c,f6c⟩:=Ab f2c
 refine dc 7 rfl (by kernel_rfl) (by rfl) (Ae LR (by rfl)) (FN x0.hi x1 4 false A4 c5 w4 (tbx X0b hT) (n6.ext X0b) r1a h5c) ?_
 rintro _ w5 E3a ⟨A1b,c2b,rfl,n7c⟩
 refine dnrm ?_
 have X8c:=xtr X0b E3a
 have S4d:=S4c.trans E3a
 refine dA 8 rfl (fun _=>Bc (vals:=[(0,.agg #[.bool r0a.m.Neg,.slice A8a (sz r0a.m.Abs) c9a,.int .i64 r0a.e]),(1,.agg #[.bool r1a.m.Neg,.slice A1b (sz r1a.m.Abs) c2b,.int .i64 r1a.e])]) (cells:=[.bool r0a.m.Neg,.slice A8a (sz r0a.m.Abs) c9a,.int .i64 r0a.e,.bool r1a.m.Neg,.slice A1b (sz r1a.m.Abs) c2b,.int .i64 r1a.e]) (by rfl) (by kernel_rfl)) ?_
 have q3b:=((q8b.ext E2a).ext E7a).ext E3a
 refine dk 9 rfl (by kernel_rfl) (by decide) (by rfl) OV rfl rfl q3b rfl rfl rfl rfl (by simp only [SP0,SP1,S0,S1,Nat.reduceAdd];rfl) fun w6 U4b q9c=>?_
 have X0d:=belU X8c U4b g9b
 refine CU (by kernel_rfl) ?_
 refine h6b _ _<|wp_ret ?_
 have n1d:=(n3c.ext E3a).upd U4b q3b (by decide)
 obtain rfl:=sj f6c
 exact fin rfl (Res.cellN rfl Ka q9c rfl rfl Res.nil) (Ak X0d ⟨A8a,c9a,A1b,c2b,rfl,n1d,(n7c.upd U4b q3b (by decide))⟩)
theorem Fk (x0:Av) (A1:Option Addr) (c2:Nat) (A4:Option Addr) (c5:Nat) (w:World) (hT:TB w) (n3:RU w A1 c2 x0.lo.m.Abs) (n6:RU w A4 c5 x0.hi.m.Abs) (r:Except Int (AC)) (hr:Gk x0=some r) :
  Calls Tryz.prog 107 #[.agg #[.bool x0.lo.m.Neg,.slice A1 (sz x0.lo.m.Abs) c2,.int .i64 x0.lo.e,.bool x0.hi.m.Neg,.slice A4 (sz x0.hi.m.Abs) c5,.int .i64 x0.hi.e]] w (RetE 201 Mk w r):=by
 unfold Gk at hr
 go_enter Tryz.func107,Tryz.ntmps107
 refine wp_seq_k fun K7 h7=>Af<|BT rfl rfl fun b8 w1 E9 g4d q7b=>?_
 refine nrm ?_
 refine Aw Hp fun b5d w2 E7a g9b q0c=>?_
 refine nrm ?_
 have g1c:=nlt E9.size g9b
 have X2c:=xtr E9 E7a
 refine Ad<|h7 _ _<|wp_seq_k fun K8b h8b=>Ei [7] 8 mo rfl fun w3 E6a S8a=>have X2a:=xtr X2c E6a;dA 0 rfl (fun _=>Ai (o':=0) Eg rfl rfl) ?_
 refine dV 1 rfl (fun _ hw=>AH AE rfl (((q7b.ext E7a).ext E6a).ext hw) (by simp only [List.drop_zero,List.take_succ_cons,List.take_zero];rfl) rfl) S8a ?_
 refine dA 3 rfl (fun _=>Ai (o':=3) EB rfl rfl) ?_
 refine dV 4 rfl (fun _ hw=>AH AE rfl (((q7b.ext E7a).ext E6a).ext hw) (by simp only [List.drop_succ_cons,List.drop_zero,List.take_succ_cons,List.take_zero];rfl) rfl) S8a ?_
 rcases AG hr with ⟨r0a,h9a,f3c⟩ | ⟨r0a,h9a,rfl⟩
 ·refine dcO 2 rfl (by kernel_rfl) (by rfl) (Ae Jh (by rfl)) (Dc x0.lo A1 c2 w3 (tbx X2a hT) (n3.ext X2a) (.ok r0a) h9a) ?_
  rintro _ w4 E5a ⟨A0b,c1b,rfl,n4c⟩
  refine dnrm ?_
  have X3a:=xtr X2a E5a
  have S5c:=S8a.trans E5a
  rcases AG f3c with ⟨r1a,h2b,f6c⟩ | ⟨r1a,h2b,rfl⟩
  ·refine dcO 5 rfl (by kernel_rfl) (by rfl) (Ae Jh (by rfl)) (Dc x0.hi A4 c5 w4 (tbx X3a hT) (n6.ext X3a) (.ok r1a) h2b) ?_
   rintro _ w5 E4a ⟨A3b,c4b,rfl,n7c⟩
   refine dnrm ?_
   have X8c:=xtr X3a E4a
   have S6d:=S5c.trans E4a
   refine dA 6 rfl (fun _=>Bc (vals:=[(0,.agg #[.bool r0a.Man.Neg,.slice A0b (sz r0a.Man.Abs) c1b,.int .i64 r0a.Exp]),(1,.agg #[.bool r1a.Man.Neg,.slice A3b (sz r1a.Man.Abs) c4b,.int .i64 r1a.Exp])]) (cells:=[.bool r0a.Man.Neg,.slice A0b (sz r0a.Man.Abs) c1b,.int .i64 r0a.Exp,.bool r1a.Man.Neg,.slice A3b (sz r1a.Man.Abs) c4b,.int .i64 r1a.Exp]) (by rfl) (by kernel_rfl)) ?_
   have q5b:=((q0c.ext E6a).ext E5a).ext E4a
   refine dk 7 rfl (by kernel_rfl) (by decide) (by rfl) GJ rfl rfl q5b rfl rfl rfl rfl (by simp only [SP0,SP1,S0,S1,Nat.reduceAdd];rfl) fun w6 U6b q9c=>?_
   have X0d:=belU X8c U6b g1c
   refine CU (by kernel_rfl) ?_
   refine h8b _ _<|wp_ret ?_
   have n1d:=(n4c.ext E4a).upd U6b q5b (by decide)
   obtain rfl:=sj f6c
   exact fin rfl (Res.cellN rfl CP q9c rfl rfl Res.nil) (DT X0d ⟨A0b,c1b,A3b,c4b,rfl,n1d,(n7c.upd U6b q5b (by decide))⟩)
  ·refine dcP 5 rfl (by kernel_rfl) (by rfl) (Ae Jh (by rfl)) (Dc x0.hi A4 c5 w4 (tbx X3a hT) (n6.ext X3a) (.error r1a) h2b) fun w5 E4a=>?_
   have X2d:=xtr X3a E4a
   exact ⟨rfl,BP X2d⟩
 ·refine dcP 2 rfl (by kernel_rfl) (by rfl) (Ae Jh (by rfl)) (Dc x0.lo A1 c2 w3 (tbx X2a hT) (n3.ext X2a) (.error r0a) h9a) fun w4 E5a=>?_
  have X3d:=xtr X2a E5a
  exact ⟨rfl,BP X3d⟩
end Go.Proofs

