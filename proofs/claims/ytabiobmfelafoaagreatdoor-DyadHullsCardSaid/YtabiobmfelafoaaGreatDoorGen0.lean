import Derived.Test.YtabiobmfelafoaaGreatDoorLeafN
namespace Go.Proofs
set_option linter.unusedVariables false
set_option linter.unusedSimpArgs false
set_option maxHeartbeats 4000000
open Go.RowKit Go.Sb Go.Proofs.Sbn
theorem c_sorobanref03_ValidInt (x0:Ay) (A1:Option Addr) (c2:Nat) (w:World) (hT:TB w) (n3:RLu w A1 c2 x0.Abs) (r:Bool) (hr:CM x0=some r) :
  Calls Tryz.prog 61 #[.agg #[.bool x0.Neg,.slice A1 x0.Abs.length c2]] w (Ret FN w r):=by
 unfold CM at hr
 go_enter Tryz.func61,Tryz.ntmps61
 refine wp_seq_k fun _ h4=>Af<|Bm rfl rfl fun b5 w1 E6 g7 q8=>?_
 refine nrm ?_
 refine sV (Ab rfl) ?_
 refine wh h4<|wp_seq_k fun _ h9=>Af<|sV2 (Ah (o':=1) Eb rfl rfl) (Ai Gf rfl (Bx.cell q8 rfl)) ?_
 refine scr hr (Ad en_143 (by rfl)) (HL x0.Abs A1 c2 w1 (tbx E6 hT) (n3.ext E6)) fun r0d f9b w2 E3a=>?_
 have X0c:=xtr E6 E3a
 refine sV (Aa rfl) ?_
 obtain ⟨m1c,h2c,f3c⟩:=Ac f9b
 refine BH 14 (fun l l' w'=>∃(t9a:Value) (t0b:Value) (t1b:Value) (t2b:Value) (t3b:Value) (t4b:Value) (t5b:Value) (t6b:Value) (t7b:Value),w2=w'∧l'=((((((((((l.set 7 t9a).set 8 t0b).set 9 t1b).set 10 t2b).set 11 t3b).set 12 t4b).set 13 t5b).set 14 t6b).set 15 t7b).set 16 (.bool m1c))) ?_ ?_
 ·intro HJ55
  rcases zb h2c with ⟨e0a,f4c⟩ | ⟨e0a,f5c⟩
  ·refine sV (Ah (o':=0) IP rfl rfl) ?_ (hw:=wgT rfl e0a)
   refine sV (Ai HZ rfl (Bx.cell (q8.ext E3a) rfl)) ?_ (hw:=wgT rfl e0a)
   refine sb (Fq rfl) ?_ (hw:=wgT rfl e0a)
   intro z2a hz2a
   refine nrm ?_
   refine sV (Aa rfl) ?_ (hw:=wgT rfl e0a)
   obtain ⟨m8b,h6c,f7c⟩:=Ac f4c
   refine BH 13 (fun l l' w'=>∃(t4a:Value) (t5a:Value) (t6a:Value) (t7a:Value),w2=w'∧l'=(((((l.set 11 t4a).set 12 t5a).set 13 t6a).set 14 t7a).set 15 (.bool m8b))) ?_ ?_
   ·intro HJ76
    rcases zi hz2a h6c with ⟨e1a,_,f8c⟩ | ⟨e1a,_,f9c⟩
    ·refine sQ rfl e1a ?_
     refine sQ rfl e1a ?_
     refine sQ rfl e1a ?_
     refine sQ rfl e1a ?_
     refine sV (AA (evb rfl e1a) rfl) ?_ (hw:=wgT rfl e0a)
     obtain rfl:=sj f8c
     exact HJ76 _ _ ⟨uu,uu,uu,uu,rfl,(by kernel_rfl)⟩
    ·refine sV (Ah (o':=1) Eb rfl rfl) ?_ (hw:=wgT rfl e1a)
     refine sV (Ai Gf rfl (Bx.cell (q8.ext E3a) rfl)) ?_ (hw:=wgT rfl e1a)
     refine sV (AG Dn rfl) ?_ (hw:=wgT rfl e1a)
     refine sb (Gm rfl rfl) ?_ (hw:=wgT rfl e1a)
     intro z8a hz8a
     refine nrm ?_
     refine sV (AC (evb rfl e1a) rfl) ?_ (hw:=wgT rfl e0a)
     obtain rfl:z8a=decide (0<(x0.Abs.length:Int)):=bz hz8a
     obtain rfl:=sj f9c
     exact HJ76 _ _ ⟨(.pointer (some ⟨b5,1,none⟩)),(.slice A1 x0.Abs.length c2),(.int .i64 (x0.Abs.length:Int)),(.bool (decide (0<(x0.Abs.length:Int)))),rfl,(by kernel_rfl)⟩
   ·rintro l' _ ⟨t4a,t5a,t6a,t7a,rfl,hq'⟩ l'' hl
    rw [hq'] at hl
    clear hq'
    simp only [S0,S1] at hl
    subst hl
    refine sV (AA (evb rfl e0a) rfl) ?_
    obtain rfl:=sj f7c
    exact HJ55 _ _ ⟨(.pointer (some ⟨b5,0,none⟩)),(.bool x0.Neg),(.bool z2a),(.bool z2a),t4a,t5a,t6a,t7a,(.bool m8b),rfl,(by kernel_rfl)⟩
  ·refine sQ rfl e0a ?_
   refine sQ rfl e0a ?_
   refine sQ rfl e0a ?_
   refine sQ rfl e0a ?_
   refine sP ?_
   refine sP ?_
   refine sP ?_
   refine sP ?_
   refine sQ rfl e0a ?_
   refine sV (AC (evb rfl e0a) rfl) ?_
   obtain rfl:=sj f5c
   exact HJ55 _ _ ⟨uu,uu,uu,uu,uu,uu,uu,uu,uu,rfl,(by kernel_rfl)⟩
 ·rintro l' _ ⟨t9a,t0b,t1b,t2b,t3b,t4b,t5b,t6b,t7b,rfl,hq'⟩ l'' hl
  rw [hq'] at hl
  clear hq'
  simp only [S0,S1] at hl
  subst hl
  refine sV (Ab rfl) ?_
  refine wh h9<|wp_ret ?_
  exact BG f3c X0c rfl
theorem c_sorobanref04_Valid (x0:Aq) (A1:Option Addr) (c2:Nat) (w:World) (hT:TB w) (n3:RLu w A1 c2 x0.Man.Abs) (r:Bool) (hr:Cy x0=some r) :
  Calls Tryz.prog 45 #[.agg #[.bool x0.Man.Neg,.slice A1 x0.Man.Abs.length c2,.int .i64 x0.Exp]] w (Ret FN w r):=by
 unfold Cy at hr
 go_enter Tryz.func45,Tryz.ntmps45
 refine wp_seq_k fun _ h4=>Af<|Bm rfl rfl fun b5 w1 E6 g7 q8=>?_
 refine nrm ?_
 refine sV (Ab rfl) ?_
 refine wh h4<|wp_seq_k fun _ h9=>wp_seq_k fun _ h9b=>Af<|sV2 (Ah (o':=0) HF rfl rfl) (dld GS q8) ?_
 refine scr hr (Ad en_61 (by rfl)) (c_sorobanref03_ValidInt x0.Man A1 c2 w1 (tbx E6 hT) (n3.ext E6)) fun r2e f0c w2 E2a=>?_
 have X3a:=xtr E6 E2a
 refine sb (Fq rfl) fun z0b hz0b=>?_
 refine nrm ?_
 refine wh h9b ?_
 rcases zi hz0b f0c with ⟨e4a,_,f1c⟩ | ⟨e4a,_,f2c⟩
 ·refine wp_cond_true (Ak (evb rfl e4a))<|wp_seq_k fun _ h3c=>Af<|sV (Ab rfl) ?_
  refine wh h3c<|wp_ret ?_
  exact BG f1c X3a rfl
 ·refine wp_cond_false (Ak (evb rfl e4a))<|wp_skip<|h9 _ _<|wp_seq_k fun _ h4c=>wp_seq_k fun _ h5c=>Af<|sV3 (Ah (o':=0) HF rfl rfl) (Ah (o':=1) Eb rfl rfl) (Ai Gf rfl (Bx.cell (q8.ext E2a) rfl)) ?_
  refine sV (AG Dn rfl) ?_
  refine sb (CG rfl rfl) fun z1b hz1b=>?_
  refine nrm ?_
  refine wh h5c ?_
  rcases zi hz1b f2c with ⟨e5a,_,f6c⟩ | ⟨e5a,_,f7c⟩
  ·refine wp_cond_true (Ak (evb rfl e5a))<|wp_seq_k fun _ h8c=>Af<|sV2 (Ah (o':=2) Hj rfl rfl) (Ai FM rfl (Bx.cell (q8.ext E2a) rfl)) ?_
   refine sb (CG rfl rfl) fun z6a hz6a=>?_
   refine nrm ?_
   refine sV (Ab rfl) ?_
   refine wh h8c<|wp_ret ?_
   obtain rfl:z6a=decide (x0.Exp=0):=bz hz6a
   exact BG f6c X3a rfl
  ·refine wp_cond_false (Ak (evb rfl e5a))<|wp_skip<|h4c _ _<|wp_seq_k fun _ h9c=>Af<|sV3 (Ah (o':=0) HF rfl rfl) (Ah (o':=1) Eb rfl rfl) (Ai Gf rfl (Bx.cell (q8.ext E2a) rfl)) ?_
   refine scr f7c (Ad Pp (by rfl)) (Ha x0.Man.Abs 0 A1 c2 w2 (tbx X3a hT) (n3.ext X3a)) fun r3e f0d w3 E7a=>?_
   have X1d:=xtr X3a E7a
   refine sb (CG rfl rfl) fun z2b hz2b=>?_
   refine nrm ?_
   refine sV (Aa rfl) ?_
   obtain ⟨m2d,h3d,f4d⟩:=Ac f0d
   refine BH 10 (fun l l' w'=>∃(t3b:Value) (t4b:Value) (t5b:Value),w3=w'∧l'=((((l.set 21 t3b).set 22 t4b).set 23 t5b).set 24 (.bool m2d))) ?_ ?_
   ·intro HJ63
    rcases zi hz2b h3d with ⟨e0a,_,f5d⟩ | ⟨e0a,_,f6d⟩
    ·refine sV (Ah (o':=2) Hj rfl rfl) ?_ (hw:=wgT rfl e0a)
     refine sV (Ai FM rfl (Bx.cell ((q8.ext E2a).ext E7a) rfl)) ?_ (hw:=wgT rfl e0a)
     refine sb (FP rfl rfl) ?_ (hw:=wgT rfl e0a)
     intro z8a hz8a
     refine nrm ?_
     refine sV (AA (evb rfl e0a) rfl) ?_
     obtain rfl:z8a=decide ((-1048576)≤x0.Exp):=bz hz8a
     obtain rfl:=sj f5d
     exact HJ63 _ _ ⟨(.pointer (some ⟨b5,2,none⟩)),(.int .i64 x0.Exp),(.bool (decide ((-1048576)≤x0.Exp))),rfl,(by kernel_rfl)⟩
    ·refine sQ rfl e0a ?_
     refine sQ rfl e0a ?_
     refine sQ rfl e0a ?_
     refine sV (AC (evb rfl e0a) rfl) ?_
     obtain rfl:=sj f6d
     exact HJ63 _ _ ⟨uu,uu,uu,rfl,(by kernel_rfl)⟩
   ·rintro l' _ ⟨t3b,t4b,t5b,rfl,hq'⟩ l'' hl
    rw [hq'] at hl
    clear hq'
    simp only [S0,S1] at hl
    subst hl
    refine sV (Aa rfl) ?_
    obtain ⟨m7d,h8d,f9d⟩:=Ac f4d
    refine BH 15 (fun l l' w'=>∃(t6b:Value) (t7b:Value) (t8b:Value),w3=w'∧l'=((((l.set 26 t6b).set 27 t7b).set 28 t8b).set 29 (.bool m7d))) ?_ ?_
    ·intro HJ83
     rcases zb h8d with ⟨e1a,f0e⟩ | ⟨e1a,f1e⟩
     ·refine sV (Ah (o':=2) Hj rfl rfl) ?_ (hw:=wgT rfl e1a)
      refine sV (Ai FM rfl (Bx.cell ((q8.ext E2a).ext E7a) rfl)) ?_ (hw:=wgT rfl e1a)
      refine sb (Jh rfl rfl) ?_ (hw:=wgT rfl e1a)
      intro z9a hz9a
      refine nrm ?_
      refine sV (AA (evb rfl e1a) rfl) ?_
      obtain rfl:z9a=decide (x0.Exp≤1048576):=bz hz9a
      obtain rfl:=sj f0e
      exact HJ83 _ _ ⟨(.pointer (some ⟨b5,2,none⟩)),(.int .i64 x0.Exp),(.bool (decide (x0.Exp≤1048576))),rfl,(by kernel_rfl)⟩
     ·refine sQ rfl e1a ?_
      refine sQ rfl e1a ?_
      refine sQ rfl e1a ?_
      refine sV (AC (evb rfl e1a) rfl) ?_
      obtain rfl:=sj f1e
      exact HJ83 _ _ ⟨uu,uu,uu,rfl,(by kernel_rfl)⟩
    ·rintro l' _ ⟨t6b,t7b,t8b,rfl,hq'⟩ l'' hl
     rw [hq'] at hl
     clear hq'
     simp only [S0,S1] at hl
     subst hl
     refine sV (Ab rfl) ?_
     refine wh h9c<|wp_ret ?_
     exact BG f9d X1d rfl
theorem HC (x0:Bool) (x1:Nat) (A1:Option Addr) (c2:Nat) (w:World) (hT:TB w) (n3:RU w A1 c2 x1) (r:Ae) (hr:AO x0 x1=some r) :
  Calls Tryz.prog 178 #[.bool x0,.slice A1 (sz x1) c2] w (Ret Mm w r):=by
 unfold AO at hr
 go_enter Tryz.func178,Tryz.ntmps178
 refine wp_seq_k fun _ h4=>Af<|Ax Lz fun b5 w1 E6 g7 q8=>?_
 refine nrm ?_
 refine wh h4<|wp_seq_k fun _ h9=>Af<|sV2 (Aa rfl) (Aa rfl) ?_
 obtain ⟨m1a,h7a,f8a⟩:=Ac hr
 refine BH 6 (fun l l' w'=>∃(t3a:Value) (t4a:Value) (t5a:Value),w1=w'∧l'=((((l.set 7 t3a).set 8 t4a).set 9 t5a).set 10 (.bool m1a))) ?_ ?_
 ·intro HJ23
  rcases zb h7a with ⟨e0a,f9a⟩ | ⟨e0a,f0b⟩
  ·refine sV (Aa rfl) ?_ (hw:=wgT rfl e0a)
   refine sV (AG Dn rfl) ?_ (hw:=wgT rfl e0a)
   refine sb (Gm rfl rfl) ?_ (hw:=wgT rfl e0a)
   intro z2a hz2a
   refine nrm ?_
   refine sV (AA (evb rfl e0a) rfl) ?_
   obtain rfl:z2a=decide (0<(sz x1:Int)):=bz hz2a
   obtain rfl:=sj f9a
   exact HJ23 _ _ ⟨(.slice A1 (sz x1) c2),(.int .i64 (sz x1:Int)),(.bool (decide (0<(sz x1:Int)))),rfl,(by kernel_rfl)⟩
  ·refine sQ rfl e0a ?_
   refine sQ rfl e0a ?_
   refine sQ rfl e0a ?_
   refine sV (AC (evb rfl e0a) rfl) ?_
   obtain rfl:=sj f0b
   exact HJ23 _ _ ⟨uu,uu,uu,rfl,(by kernel_rfl)⟩
 ·rintro l' _ ⟨t3a,t4a,t5a,rfl,hq'⟩ l'' hl
  rw [hq'] at hl
  clear hq'
  simp only [S0,S1] at hl
  subst hl
  refine sV2 (Aa rfl) (Bb (vals:=[(0,.bool m1a),(1,.slice A1 (sz x1) c2)]) (cells:=[.bool m1a,.slice A1 (sz x1) c2]) (by rfl) (by kernel_rfl)) ?_
  refine ss Kd q8 fun w2 U1b q2b=>?_
  have F6a:=belU E6 U1b g7
  refine wh h9<|wp_ret ?_
  exact CV f8a rfl (Res.cellN rfl GS q2b rfl rfl Res.nil) (Av F6a ⟨A1,c2,rfl,(n3.ext F6a)⟩)
theorem JA (x0:Int) (w:World) (hT:TB w) (r:Ae) (hr:Gy x0=some r) :
  Calls Tryz.prog 96 #[.int .i64 x0] w (Ret Mm w r):=by
 unfold Gy at hr
 go_enter Tryz.func96,Tryz.ntmps96
 refine wp_seq_k fun _ h1=>Af<|Ax Lz fun b2 w1 E3 g4 q5=>?_
 refine nrm ?_
 refine wh h1<|wp_seq_k fun _ h6=>wp_seq_k fun _ h7=>Af<|sV (Aa rfl) ?_
 refine sb (Cn rfl rfl) fun z8 hz8=>?_
 refine nrm ?_
 refine wh h7 ?_
 rcases zi hz8 hr with ⟨e0a,_,f9a⟩ | ⟨e0a,_,f0b⟩
 ·refine wp_cond_true (Ak (evb rfl e0a))<|wp_seq_k fun _ h1b=>Af<|sV3 (Aa rfl) (Qp (c:=wi64 (-x0)) rfl rfl) (Ba (c:=wu64 (wi64 (-x0))) it_3 AW rfl rfl) ?_
  refine scn f9a (Ad PK (by rfl)) (HG (wu64 (wi64 (-x0))) w1 (tbx E3 hT)) fun r2b f3b w2 A4b c5b E1a n6b=>?_
  have X5a:=xtr E3 E1a
  refine scn f3b (Ad Px (by rfl)) (HC true r2b A4b c5b w2 (tbx X5a hT) n6b) fun r9d f7b w3 A8b c9b E2a n0c=>?_
  have X1c:=xtr X5a E2a
  refine ss Kd ((q5.ext E1a).ext E2a) fun w4 U6a q2c=>?_
  have X3c:=belU X1c U6a g4
  refine wh h1b<|wp_ret ?_
  have n4c:=n0c.upd U6a ((q5.ext E1a).ext E2a) (by decide)
  exact CV f7b rfl (Res.cellN rfl GS q2c rfl rfl Res.nil) (Av X3c ⟨A8b,c9b,rfl,n4c⟩)
 ·refine wp_cond_false (Ak (evb rfl e0a))<|wp_skip<|h6 _ _<|wp_seq_k fun _ h5c=>Af<|sV2 (Aa rfl) (Ba (c:=wu64 x0) it_3 AW rfl rfl) ?_
  refine scn f0b (Ad PK (by rfl)) (HG (wu64 x0) w1 (tbx E3 hT)) fun r6c f7c w2 A8c c9c E3a n0d=>?_
  have X7a:=xtr E3 E3a
  refine scn f7c (Ad Px (by rfl)) (HC false r6c A8c c9c w2 (tbx X7a hT) n0d) fun r0e f1d w3 A2d c3d E4a n4d=>?_
  have X5d:=xtr X7a E4a
  refine ss Kd ((q5.ext E3a).ext E4a) fun w4 U8a q6d=>?_
  have X7d:=belU X5d U8a g4
  refine wh h5c<|wp_ret ?_
  have n8d:=n4d.upd U8a ((q5.ext E3a).ext E4a) (by decide)
  exact CV f1d rfl (Res.cellN rfl GS q6d rfl rfl Res.nil) (Av X7d ⟨A2d,c3d,rfl,n8d⟩)
theorem EU (b b':Nat) (v0 v1 v2:Value) (u:Value) (n:Int) {w:World} (qa:Bx w b 27 [v0,v1,v2]) (qb:Bx w b' 33 [u]) :
  CallsD Tryz.prog 135 #[.pointer (some ⟨b,0,none⟩),.pointer (some ⟨b',0,none⟩)] (.panicking [entry 201 n]) w fun e u' w'=>e = .returned (.tuple #[])∧u' = .panicking [{ entry 201 n with recovered:=true }]∧(Upd2 b b' w w'∧Bx w' b 27 [.bool false,.slice none 0 0,.int .i64 0]∧Bx w' b' 33 [.int .i64 n]):=by
 refine JM Tryz.func135 rfl [.pointer (some ⟨b,0,none⟩),.pointer (some ⟨b',0,none⟩),uu,uu,uu,uu,uu,uu,uu,uu,uu,uu,uu,uu,uu,uu,uu,uu,uu,uu,uu,uu,uu,uu,uu,uu] (by simp [Tryz.ntmps135]) fun c₀ cs hu=>?_
 apply wpS_seq
 refine Rq hu rfl ?_
 simp only [S0,S1]
 refine wpS_of_wp<|wp_seq_k fun _ h1=>Af<|sV2 (Aa rfl) (Lx Ld rfl) ?_
 refine wh h1<|wp_cond_true (Ak (evb rfl rfl))<|wp_seq_k fun _ h2=>Af<|sV3 (Aa rfl) (KH MM rfl) (Aa rfl) ?_
 refine sV2 (Aj rfl rfl) (Aj rfl rfl) ?_
 refine Ax Nq fun b3 w1 E4 g5 q6=>?_
 refine nrm ?_
 have X7:=(Upd2.refl b b' w).ext E4
 refine ss No q6 fun w2 U8 q9=>?_
 have X3a:=X7.upd U8 (.inl g5)
 refine sV (Ab rfl) ?_
 refine wh h2<|wp_seq_k fun _ h9a=>wp_seq_k fun _ h0b=>Af<|sV2 (Aa rfl) (Mr rfl rfl rfl) ?_
 refine wh h0b<|wp_cond_false (Ak (evb rfl rfl))<|wp_skip<|h9a _ _<|wp_seq_k fun _ h1b=>Af<|Ax Hq fun b8c w3 E1a g2b q3b=>?_
 refine nrm ?_
 have g9c:=nlt X3a.size g2b
 have X4b:=X3a.ext E1a
 refine wh h1b<|DK [6,8] 9 mo rfl fun w4 E0a S5b=>have X6b:=X4b.ext E0a;dA 0 rfl (fun _=>Aa rfl) ?_
 refine dA 1 rfl (fun _=>Aa rfl) ?_
 refine dV 2 rfl (fun _ hw=>Am BT rfl ((q3b.ext E0a).ext hw) rfl) S5b ?_
 refine dA 3 rfl (fun _=>Ah (o':=0) LL rfl rfl) ?_
 refine dA 5 rfl (fun _=>Bv rfl) ?_
 refine JQ #[true,true,true,true,true,true,true,false,false] 2 (fun l l' w'=>UpdS [b] w4 w'∧Bx w' b 27 [.bool false,.slice none 0 0,.int .i64 0]∧l'=(l.set 23 (.int .i64 n))) ?_ ?_
 ·intro HJ38
  refine CP 4 6 (by kernel_rfl) ?_ ?_
  ·refine opV 4 rfl (by rfl) (Ai BW rfl (Bx.cell ((q9.ext E1a).ext E0a) rfl)) (dnrm ?_)
   refine AM 6 (by kernel_rfl) ?_
   ·have F7b:=belU E4 U8 g5
    refine opK 6 rfl (by decide) (by rfl) FI rfl rfl (((qa.ext F7b).ext E1a).ext E0a) rfl rfl rfl rfl (by simp only [SP0,SP1,S0,S1,Nat.reduceAdd];rfl) fun w5 U8b q9b=>?_
    exact Cm (by kernel_rfl) (HJ38 _ _ ⟨((UpdS.refl _ _).upd U8b (.inl im0)),q9b,(by kernel_rfl)⟩)
  ·have F4a:=belU E4 U8 g5
   refine opK 6 rfl (by decide) (by rfl) FI rfl rfl (((qa.ext F4a).ext E1a).ext E0a) rfl rfl rfl rfl (by simp only [SP0,SP1,S0,S1,Nat.reduceAdd];rfl) fun w5 U5a q0c=>?_
   refine AM 4 (by kernel_rfl) ?_
   ·have ne1c:=(Bx.neT ((q9.ext E1a).ext E0a) (((qa.ext F4a).ext E1a).ext E0a) (by decide))
    have q2c:=((q9.ext E1a).ext E0a).upd U5a ne1c
    refine opV 4 rfl (by rfl) (Ai BW rfl (Bx.cell q2c rfl)) (dnrm ?_)
    exact Cm (by kernel_rfl) (HJ38 _ _ ⟨((UpdS.refl _ _).upd U5a (.inl im0)),q0c,(by kernel_rfl)⟩)
 ·rintro l' w5 ⟨U6a,q3c,hq'⟩ l'' hl
  rw [hq'] at hl
  clear hq'
  simp only [S0,S1] at hl
  subst hl
  have X4c:=X6b.updS U6a (alc (.inr (.inl rfl)) al0)
  refine dA 7 rfl (fun _=>Bv rfl) ?_
  have F2a:=belU E4 U8 g5
  have ne7a:=(Bx.neT (((qb.ext F2a).ext E1a).ext E0a) (((qa.ext F2a).ext E1a).ext E0a) (by decide))
  have q5c:=(((qb.ext F2a).ext E1a).ext E0a).updS U6a (nmc ne7a nm0)
  refine dkk 8 GW q5c fun w6 U8a q6c=>?_
  have X7c:=X4c.upd U8a (.inr (.inr rfl))
  refine CE (by kernel_rfl) ?_
  exact Rw (by kernel_rfl) ⟨rfl,rfl,X7c,(q3c.upd U8a (Ne.symm ne7a)),q6c⟩
theorem Hz:Qt Tryz.prog 135:=by
 intro ar b b' w ha
 subst ha
 refine JM Tryz.func135 rfl [.pointer (some ⟨b,0,none⟩),.pointer (some ⟨b',0,none⟩),uu,uu,uu,uu,uu,uu,uu,uu,uu,uu,uu,uu,uu,uu,uu,uu,uu,uu,uu,uu,uu,uu,uu,uu] (by simp [Tryz.ntmps135]) fun c₀ cs hu=>?_
 apply wpS_seq
 refine Qr hu rfl ?_
 simp only [S0,S1]
 refine wpS_of_wp<|wp_seq_k fun _ h1=>Af<|sV2 (Aa rfl) (JY Ld rfl) ?_
 refine wh h1<|wp_cond_false (Ak (evb rfl rfl))<|wp_skip ?_
 exact PM hu (by kernel_rfl) ⟨rfl,rfl,rfl⟩
theorem Ju (x0:Ay) (A1:Option Addr) (c2:Nat) (w:World) (hT:TB w) (n3:RLu w A1 c2 x0.Abs) (r:Bool) (hr:Dd x0=some r) :
  Calls Tryz.prog 151 #[.agg #[.bool x0.Neg,.slice A1 x0.Abs.length c2]] w (Ret FN w r):=by
 unfold Dd at hr
 go_enter Tryz.func151,Tryz.ntmps151
 refine wp_seq_k fun _ h4=>Af<|Bm rfl rfl fun b5 w1 E6 g7 q8=>?_
 refine nrm ?_
 refine sV (Ab rfl) ?_
 refine wh h4<|wp_seq_k fun _ h9=>Af<|sV2 (Ah (o':=1) Eb rfl rfl) (Ai Gf rfl (Bx.cell q8 rfl)) ?_
 refine scr hr (Ad PR (by rfl)) (JH x0.Abs A1 c2 w1 (tbx E6 hT) (n3.ext E6)) fun r0d f9b w2 E3a=>?_
 have X0c:=xtr E6 E3a
 refine sV (Aa rfl) ?_
 obtain ⟨m1c,h2c,f3c⟩:=Ac f9b
 refine BH 14 (fun l l' w'=>∃(t9a:Value) (t0b:Value) (t1b:Value) (t2b:Value) (t3b:Value) (t4b:Value) (t5b:Value) (t6b:Value) (t7b:Value),w2=w'∧l'=((((((((((l.set 7 t9a).set 8 t0b).set 9 t1b).set 10 t2b).set 11 t3b).set 12 t4b).set 13 t5b).set 14 t6b).set 15 t7b).set 16 (.bool m1c))) ?_ ?_
 ·intro HJ55
  rcases zb h2c with ⟨e0a,f4c⟩ | ⟨e0a,f5c⟩
  ·refine sV (Ah (o':=0) IP rfl rfl) ?_ (hw:=wgT rfl e0a)
   refine sV (Ai HZ rfl (Bx.cell (q8.ext E3a) rfl)) ?_ (hw:=wgT rfl e0a)
   refine sb (Fq rfl) ?_ (hw:=wgT rfl e0a)
   intro z2a hz2a
   refine nrm ?_
   refine sV (Aa rfl) ?_ (hw:=wgT rfl e0a)
   obtain ⟨m8b,h6c,f7c⟩:=Ac f4c
   refine BH 13 (fun l l' w'=>∃(t4a:Value) (t5a:Value) (t6a:Value) (t7a:Value),w2=w'∧l'=(((((l.set 11 t4a).set 12 t5a).set 13 t6a).set 14 t7a).set 15 (.bool m8b))) ?_ ?_
   ·intro HJ76
    rcases zi hz2a h6c with ⟨e1a,_,f8c⟩ | ⟨e1a,_,f9c⟩
    ·refine sQ rfl e1a ?_
     refine sQ rfl e1a ?_
     refine sQ rfl e1a ?_
     refine sQ rfl e1a ?_
     refine sV (AA (evb rfl e1a) rfl) ?_ (hw:=wgT rfl e0a)
     obtain rfl:=sj f8c
     exact HJ76 _ _ ⟨uu,uu,uu,uu,rfl,(by kernel_rfl)⟩
    ·refine sV (Ah (o':=1) Eb rfl rfl) ?_ (hw:=wgT rfl e1a)
     refine sV (Ai Gf rfl (Bx.cell (q8.ext E3a) rfl)) ?_ (hw:=wgT rfl e1a)
     refine sV (AG Dn rfl) ?_ (hw:=wgT rfl e1a)
     refine sb (Gm rfl rfl) ?_ (hw:=wgT rfl e1a)
     intro z8a hz8a
     refine nrm ?_
     refine sV (AC (evb rfl e1a) rfl) ?_ (hw:=wgT rfl e0a)
     obtain rfl:z8a=decide (0<(x0.Abs.length:Int)):=bz hz8a
     obtain rfl:=sj f9c
     exact HJ76 _ _ ⟨(.pointer (some ⟨b5,1,none⟩)),(.slice A1 x0.Abs.length c2),(.int .i64 (x0.Abs.length:Int)),(.bool (decide (0<(x0.Abs.length:Int)))),rfl,(by kernel_rfl)⟩
   ·rintro l' _ ⟨t4a,t5a,t6a,t7a,rfl,hq'⟩ l'' hl
    rw [hq'] at hl
    clear hq'
    simp only [S0,S1] at hl
    subst hl
    refine sV (AA (evb rfl e0a) rfl) ?_
    obtain rfl:=sj f7c
    exact HJ55 _ _ ⟨(.pointer (some ⟨b5,0,none⟩)),(.bool x0.Neg),(.bool z2a),(.bool z2a),t4a,t5a,t6a,t7a,(.bool m8b),rfl,(by kernel_rfl)⟩
  ·refine sQ rfl e0a ?_
   refine sQ rfl e0a ?_
   refine sQ rfl e0a ?_
   refine sQ rfl e0a ?_
   refine sP ?_
   refine sP ?_
   refine sP ?_
   refine sP ?_
   refine sQ rfl e0a ?_
   refine sV (AC (evb rfl e0a) rfl) ?_
   obtain rfl:=sj f5c
   exact HJ55 _ _ ⟨uu,uu,uu,uu,uu,uu,uu,uu,uu,rfl,(by kernel_rfl)⟩
 ·rintro l' _ ⟨t9a,t0b,t1b,t2b,t3b,t4b,t5b,t6b,t7b,rfl,hq'⟩ l'' hl
  rw [hq'] at hl
  clear hq'
  simp only [S0,S1] at hl
  subst hl
  refine sV (Ab rfl) ?_
  refine wh h9<|wp_ret ?_
  exact BG f3c X0c rfl
theorem AZ (x0:Bool) (x1:Int) (w:World) (hT:TB w) (r:Except Int (Unit)) (hr:BB x0 x1=some r) :
  Calls Tryz.prog 102 #[.bool x0,.int .i64 x1] w (RetE 201 Lc w r):=by
 unfold BB at hr
 go_enter Tryz.func102,Tryz.ntmps102
 refine wp_seq_k fun _ h1=>Af<|sV (Aa rfl) ?_
 refine sb (Fq rfl) fun z2 hz2=>?_
 refine nrm ?_
 refine wh h1 ?_
 rcases zi hz2 hr with ⟨e8,_,f0a⟩ | ⟨e8,_,f1a⟩
 ·refine wp_cond_true (Ak (evb rfl e8))<|Af<|sV2 (Aa rfl) (Bb (vals:=[(0,.int .i64 x1)]) (cells:=[.int .i64 x1]) (by rfl) (by kernel_rfl)) ?_
  refine sV (Lm MM rfl) ?_
  refine PE rfl ?_
  obtain rfl:=sj f0a
  exact ⟨rfl,BK (Ext.refl _)⟩
 ·refine wp_cond_false (Ak (evb rfl e8))<|wp_skip ?_
  obtain rfl:=sj f1a
  exact Ng rfl Res.nil (DC (Ext.refl _) rfl)
theorem LF (x0:Ae) (A1:Option Addr) (c2:Nat) (w:World) (hT:TB w) (n3:RU w A1 c2 x0.Abs) (r:Ae) (hr:IG x0=some r) :
  Calls Tryz.prog 137 #[.agg #[.bool x0.Neg,.slice A1 (sz x0.Abs) c2]] w (Ret MI w r):=by
 unfold IG at hr
 go_enter Tryz.func137,Tryz.ntmps137
 refine wp_seq_k fun _ h4=>Af<|Bm rfl rfl fun b5 w1 E6 g7 q8=>?_
 refine nrm ?_
 refine Ax HD fun b9 w2 E0a g1a q3a=>?_
 refine nrm ?_
 have g8a:=nlt E6.size g1a
 refine wh h4<|wp_seq_k fun _ h4a=>Af<|sV3 (Ah (o':=0) IP rfl rfl) (Ai HZ rfl (Bx.cell (q8.ext E0a) rfl)) (Ah (o':=1) Eb rfl rfl) ?_
 refine sV2 (Ai Gf rfl (Bx.cell (q8.ext E0a) rfl)) (Bb (vals:=[(0,.bool x0.Neg),(1,.slice A1 (sz x0.Abs) c2)]) (cells:=[.bool x0.Neg,.slice A1 (sz x0.Abs) c2]) (by rfl) (by kernel_rfl)) ?_
 refine ss Hd q3a fun w3 U5a q6a=>?_
 have F7a:=belU E0a U5a g1a
 have X2a:=xtr E6 F7a
 refine wh h4a<|wp_ret ?_
 exact CV hr rfl (Res.cellN rfl EF q6a rfl rfl Res.nil) (Av X2a ⟨A1,c2,rfl,(n3.ext X2a)⟩)
theorem GF (x0:Ae) (x1:Int) (A1:Option Addr) (c2:Nat) (w:World) (hT:TB w) (n3:RU w A1 c2 x0.Abs) (r:An) (hr:CO x0 x1=some r) :
  Calls Tryz.prog 152 #[.agg #[.bool x0.Neg,.slice A1 (sz x0.Abs) c2],.int .i64 x1] w (Ret IX w r):=by
 unfold CO at hr
 go_enter Tryz.func152,Tryz.ntmps152
 refine wp_seq_k fun _ h4=>Af<|Bm rfl rfl fun b5 w1 E6 g7 q8=>?_
 refine nrm ?_
 refine Ax Bn fun b9 w2 E0a g2b q3b=>?_
 refine nrm ?_
 have g7b:=nlt E6.size g2b
 have X7a:=xtr E6 E0a
 refine wh h4<|wp_seq_k fun _ h8b=>wp_seq_k fun _ h9b=>Af<|sV3 (Ah (o':=1) Bt rfl rfl) (Ai Dk rfl (Bx.cell (q8.ext E0a) rfl)) (AG As rfl) ?_
 refine sb (CG rfl rfl) fun z4b hz4b=>?_
 refine nrm ?_
 refine wh h9b ?_
 rcases zi hz4b hr with ⟨e8a,_,f32⟩ | ⟨e8a,_,f0c⟩
 ·refine wp_cond_true (Ak (evb rfl e8a))<|wp_seq_k fun _ h1c=>Af<|sV (Bb (vals:=[]) (cells:=[.bool false,.slice none 0 0,.int .i64 0]) (by rfl) (by kernel_rfl)) ?_
  refine ss BO q3b fun w3 U2c q3c=>?_
  have F4c:=belU E0a U2c g2b
  have X5c:=xtr E6 F4c
  refine wh h1c<|wp_ret ?_
  exact CV f32 rfl (Res.cellN rfl Aw q3c rfl rfl Res.nil) (Av X5c ⟨none,0,rfl,(RU.nil _)⟩)
 ·refine wp_cond_false (Ak (evb rfl e8a))<|wp_skip<|h8b _ _<|wp_seq_k fun _ h6c=>Af<|sV2 (Ah (o':=1) Bt rfl rfl) (Ai Dk rfl (Bx.cell (q8.ext E0a) rfl)) ?_
  refine scr f0c (Ad en_213 (by rfl)) (Jq x0.Abs A1 c2 w2 (tbx X7a hT) (n3.ext X7a)) fun r3a f7c w3 E4a=>?_
  have X8c:=xtr X7a E4a
  refine sV (Ab rfl) ?_
  refine wh h6c<|wp_seq_k fun _ h9c=>DK [11] 12 mo rfl fun w4 E5a S9a=>have X0b:=xtr X8c E5a;dA 0 rfl (fun _=>Ah (o':=0) En rfl rfl) ?_
  refine dV 1 rfl (fun _ hw=>Ai HZ rfl (Bx.cell ((((q8.ext E0a).ext E4a).ext E5a).ext hw) rfl)) S9a ?_
  refine dA 2 rfl (fun _=>Ah (o':=1) Bt rfl rfl) ?_
  refine dV 3 rfl (fun _ hw=>Ai Dk rfl (Bx.cell ((((q8.ext E0a).ext E4a).ext E5a).ext hw) rfl)) S9a ?_
  refine dA 4 rfl (fun _=>Aa rfl) ?_
  refine dA 7 rfl (fun _=>Aa rfl) ?_
  refine dA 8 rfl (fun _=>Aa rfl) ?_
  refine dA 9 rfl (fun _=>Bj (c:=wi64 (x1+r3a)) rfl rfl rfl) ?_
  refine dcn f7c 5 rfl (by rfl) (Ad NE (by rfl)) (GM x0.Abs r3a A1 c2 w4 (tbx X0b hT) (n3.ext X0b)) fun r6a f0d w5 A1a c2a E1b n1d=>?_
  have X2d:=xtr X0b E1b
  have S5d:=S9a.trans E1b
  refine dA 6 rfl (fun _=>Bb (vals:=[(0,.bool x0.Neg),(1,.slice A1a (sz r6a) c2a)]) (cells:=[.bool x0.Neg,.slice A1a (sz r6a) c2a]) (by rfl) (by kernel_rfl)) ?_
  refine dA 10 rfl (fun _=>Bb (vals:=[(0,.agg #[.bool x0.Neg,.slice A1a (sz r6a) c2a]),(1,.int .i64 (wi64 (x1+r3a)))]) (cells:=[.bool x0.Neg,.slice A1a (sz r6a) c2a,.int .i64 (wi64 (x1+r3a))]) (by rfl) (by kernel_rfl)) ?_
  have q5b:=((q3b.ext E4a).ext E5a).ext E1b
  refine dkk 11 BO q5b fun w6 U6b q3d=>?_
  have X4d:=belU X2d U6b g7b
  refine CE (by kernel_rfl) ?_
  refine h9c _ _<|wp_ret ?_
  exact CV f0d rfl (Res.cellN rfl Aw q3d rfl rfl Res.nil) (Av X4d ⟨A1a,c2a,rfl,(n1d.upd U6b q5b (by decide))⟩)
theorem c_wide_Int_Out (x0:Ae) (A1:Option Addr) (c2:Nat) (w:World) (hT:TB w) (n3:RU w A1 c2 x0.Abs) (r:Ae) (hr:Jb x0=some r) :
  Calls Tryz.prog 202 #[.agg #[.bool x0.Neg,.slice A1 (sz x0.Abs) c2]] w (Ret Mm w r):=by
 unfold Jb at hr
 go_enter Tryz.func202,Tryz.ntmps202
 refine wp_seq_k fun _ h4=>Af<|Bm rfl rfl fun b5 w1 E6 g7 q8=>?_
 refine nrm ?_
 refine Ax Lz fun b9 w2 E1a g4a q1b=>?_
 refine nrm ?_
 have g1c:=nlt E6.size g4a
 refine wh h4<|wp_seq_k fun _ h2b=>Af<|sV3 (Ah (o':=0) En rfl rfl) (Ai HZ rfl (Bx.cell (q8.ext E1a) rfl)) (Aa rfl) ?_
 obtain ⟨m2a,h5a,f3b⟩:=Ac hr
 refine BH 8 (fun l l' w'=>∃(t6a:Value) (t7a:Value) (t8a:Value) (t9a:Value),w2=w'∧l'=(((((l.set 6 t6a).set 7 t7a).set 8 t8a).set 9 t9a).set 10 (.bool m2a))) ?_ ?_
 ·intro HJ30
  rcases bft x0.Neg with e0a | e0a
  ·have p4b:=e0a
   have f5b:=ifP p4b h5a
   refine sV (Ah (o':=1) Bt rfl rfl) ?_ (hw:=wgT rfl e0a)
   refine sV (Ai Dk rfl (Bx.cell (q8.ext E1a) rfl)) ?_ (hw:=wgT rfl e0a)
   refine sV (AG As rfl) ?_ (hw:=wgT rfl e0a)
   refine sb (Gm rfl rfl) ?_ (hw:=wgT rfl e0a)
   intro z3a hz3a
   refine nrm ?_
   refine sV (AA (evb rfl e0a) rfl) ?_
   obtain rfl:z3a=decide (0<(sz x0.Abs:Int)):=bz hz3a
   obtain rfl:=sj f5b
   exact HJ30 _ _ ⟨(.pointer (some ⟨b5,1,none⟩)),(.slice A1 (sz x0.Abs) c2),(.int .i64 (sz x0.Abs:Int)),(.bool (decide (0<(sz x0.Abs:Int)))),rfl,(by kernel_rfl)⟩
  ·have p6b:=bF e0a
   have f7b:=ifN p6b h5a
   refine sQ rfl e0a ?_
   refine sQ rfl e0a ?_
   refine sQ rfl e0a ?_
   refine sQ rfl e0a ?_
   refine sV (AC (evb rfl e0a) rfl) ?_
   obtain rfl:=sj f7b
   exact HJ30 _ _ ⟨uu,uu,uu,uu,rfl,(by kernel_rfl)⟩
 ·rintro l' _ ⟨t6a,t7a,t8a,t9a,rfl,hq'⟩ l'' hl
  rw [hq'] at hl
  clear hq'
  simp only [S0,S1] at hl
  subst hl
  refine sV3 (Ah (o':=1) Bt rfl rfl) (Ai Dk rfl (Bx.cell (q8.ext E1a) rfl)) (Bb (vals:=[(0,.bool m2a),(1,.slice A1 (sz x0.Abs) c2)]) (cells:=[.bool m2a,.slice A1 (sz x0.Abs) c2]) (by rfl) (by kernel_rfl)) ?_
  refine ss Kd q1b fun w3 U8b q9b=>?_
  have F0c:=belU E1a U8b g4a
  have X0b:=xtr E6 F0c
  refine wh h2b<|wp_ret ?_
  exact CV f3b rfl (Res.cellN rfl GS q9b rfl rfl Res.nil) (Av X0b ⟨A1,c2,rfl,(n3.ext X0b)⟩)
theorem Fx (x0:An) (A1:Option Addr) (c2:Nat) (w:World) (hT:TB w) (n3:RU w A1 c2 x0.m.Abs) (r:Except Int (Ag)) (hr:EG x0=some r) :
  Calls Tryz.prog 136 #[.agg #[.bool x0.m.Neg,.slice A1 (sz x0.m.Abs) c2,.int .i64 x0.e]] w (RetE 201 Oy w r):=by
 unfold EG at hr
 go_enter Tryz.func136,Tryz.ntmps136
 refine wp_seq_k fun _ h4=>Af<|Bm rfl rfl fun b5 w1 E6 g7 q8=>?_
 refine nrm ?_
 refine Ax Hq fun b9 w2 E3a g1d q9b=>?_
 refine nrm ?_
 have g2d:=nlt E6.size g1d
 have X6a:=xtr E6 E3a
 refine wh h4<|wp_seq_k fun _ h3d=>Af<|sV3 (Ah (o':=0) BS rfl rfl) (Ah (o':=1) Bt rfl rfl) (Ai Dk rfl (Bx.cell (q8.ext E3a) rfl)) ?_
 refine sV (AG As rfl) ?_
 refine sb (Jh rfl rfl) fun z0c hz0c=>?_
 refine nrm ?_
 refine sV (Aa rfl) ?_
 obtain ⟨m4d,h5d,f6d⟩:=Ac hr
 refine BH 10 (fun l l' w'=>∃(t1c:Value) (t2c:Value) (t3c:Value),w2=w'∧l'=((((l.set 9 t1c).set 10 t2c).set 11 t3c).set 12 (.bool m4d))) ?_ ?_
 ·intro HJ30
  rcases zi hz0c h5d with ⟨e0a,_,f7d⟩ | ⟨e0a,_,f8d⟩
  ·refine sV (Ah (o':=2) CZ rfl rfl) ?_ (hw:=wgT rfl e0a)
   refine sV (Ai FM rfl (Bx.cell (q8.ext E3a) rfl)) ?_ (hw:=wgT rfl e0a)
   refine sb (Jh rfl rfl) ?_ (hw:=wgT rfl e0a)
   intro z8a hz8a
   refine nrm ?_
   refine sV (AA (evb rfl e0a) rfl) ?_
   obtain rfl:z8a=decide (x0.e≤1048576):=bz hz8a
   obtain rfl:=sj f7d
   exact HJ30 _ _ ⟨(.pointer (some ⟨b5,2,none⟩)),(.int .i64 x0.e),(.bool (decide (x0.e≤1048576))),rfl,(by kernel_rfl)⟩
  ·refine sQ rfl e0a ?_
   refine sQ rfl e0a ?_
   refine sQ rfl e0a ?_
   refine sV (AC (evb rfl e0a) rfl) ?_
   obtain rfl:=sj f8d
   exact HJ30 _ _ ⟨uu,uu,uu,rfl,(by kernel_rfl)⟩
 ·rintro l' _ ⟨t1c,t2c,t3c,rfl,hq'⟩ l'' hl
  rw [hq'] at hl
  clear hq'
  simp only [S0,S1] at hl
  subst hl
  refine sV (Aa rfl) ?_
  obtain ⟨m9a,h9d,f0e⟩:=Ac f6d
  refine BH 15 (fun l l' w'=>∃(t4c:Value) (t5c:Value) (t6c:Value),w2=w'∧l'=((((l.set 14 t4c).set 15 t5c).set 16 t6c).set 17 (.bool m9a))) ?_ ?_
  ·intro HJ50
   rcases zb h9d with ⟨e1a,f1e⟩ | ⟨e1a,f2e⟩
   ·refine sV (Ah (o':=2) CZ rfl rfl) ?_ (hw:=wgT rfl e1a)
    refine sV (Ai FM rfl (Bx.cell (q8.ext E3a) rfl)) ?_ (hw:=wgT rfl e1a)
    refine sb (FP rfl rfl) ?_ (hw:=wgT rfl e1a)
    intro z0b hz0b
    refine nrm ?_
    refine sV (AA (evb rfl e1a) rfl) ?_
    obtain rfl:z0b=decide ((-1048576)≤x0.e):=bz hz0b
    obtain rfl:=sj f1e
    exact HJ50 _ _ ⟨(.pointer (some ⟨b5,2,none⟩)),(.int .i64 x0.e),(.bool (decide ((-1048576)≤x0.e))),rfl,(by kernel_rfl)⟩
   ·refine sQ rfl e1a ?_
    refine sQ rfl e1a ?_
    refine sQ rfl e1a ?_
    refine sV (AC (evb rfl e1a) rfl) ?_
    obtain rfl:=sj f2e
    exact HJ50 _ _ ⟨uu,uu,uu,rfl,(by kernel_rfl)⟩
  ·rintro l' _ ⟨t4c,t5c,t6c,rfl,hq'⟩ l'' hl
   rw [hq'] at hl
   clear hq'
   simp only [S0,S1] at hl
   subst hl
   rcases AF f0e with ⟨r1b,h2b,f3e⟩ | ⟨r1b,h2b,rfl⟩
   ·refine scO (Ad DY (by rfl)) (AZ m9a 2 w2 (tbx X6a hT)  (.ok r1b) h2b) ?_
    rintro _ w3 E2a rfl
    refine nrm ?_
    have X3b:=xtr X6a E2a
    refine wh h3d<|wp_seq_k fun _ h4e=>Af<|sV3 (Ah (o':=0) BS rfl rfl) (Ah (o':=1) Bt rfl rfl) (Ai Dk rfl (Bx.cell ((q8.ext E3a).ext E2a) rfl)) ?_
    refine scn f3e (Ad Pt (by rfl)) (c_slices_Clone_wide_Nat x0.m.Abs A1 c2 w3 (tbx X3b hT) (n3.ext X3b)) fun r5e f6e w4 A7e c8e E4a n9e=>?_
    have X0f:=xtr X3b E4a
    refine sV2 (Ah (o':=0) BS rfl rfl) (Ah (o':=1) Bt rfl rfl) ?_
    refine ss sz_115 (((q8.ext E3a).ext E2a).ext E4a) fun w5 U4b q7c=>?_
    have X1f:=belU X0f U4b g7
    refine wh h4e<|wp_seq_k fun _ h2f=>DK [6] 7 mo rfl fun w6 E5a S5b=>have X8c:=xtr X1f E5a;dA 0 rfl (fun _=>Ah (o':=0) BS rfl rfl) ?_
    refine dV 1 rfl (fun _ hw=>dld EF ((q7c.ext E5a).ext hw)) S5b ?_
    refine dA 3 rfl (fun _=>Ah (o':=2) CZ rfl rfl) ?_
    refine dV 4 rfl (fun _ hw=>Ai FM rfl (Bx.cell ((q7c.ext E5a).ext hw) rfl)) S5b ?_
    have n3f:=(n9e.upd U4b (((q8.ext E3a).ext E2a).ext E4a) (by decide)).ext E5a
    refine dcn f6e 2 rfl (by rfl) (Ad en_202 (by rfl)) (c_wide_Int_Out (⟨x0.m.Neg,r5e⟩:Ae) A7e c8e w6 (tbx X8c hT) n3f) fun r7a f4f w7 A6b c7b E8b n5f=>?_
    have X6f:=xtr X8c E8b
    have S1g:=S5b.trans E8b
    refine dA 5 rfl (fun _=>Bb (vals:=[(0,.agg #[.bool r7a.Neg,.slice A6b (sz r7a.Abs) c7b]),(1,.int .i64 x0.e)]) (cells:=[.bool r7a.Neg,.slice A6b (sz r7a.Abs) c7b,.int .i64 x0.e]) (by rfl) (by kernel_rfl)) ?_
    have ne7f:=(Bx.neT ((q9b.ext E2a).ext E4a) (((q8.ext E3a).ext E2a).ext E4a) (by decide))
    have q9c:=((((q9b.ext E2a).ext E4a).upd U4b ne7f).ext E5a).ext E8b
    refine dkk 6 FI q9c fun w8 U0d q8f=>?_
    have X9f:=belU X6f U0d g2d
    refine CE (by kernel_rfl) ?_
    refine h2f _ _<|wp_ret ?_
    exact CV f4f rfl (Res.cellN rfl BT q8f rfl rfl Res.nil) (DC X9f ⟨A6b,c7b,rfl,(n5f.upd U0d q9c (by decide))⟩)
   ·refine scP (Ad DY (by rfl)) (AZ m9a 2 w2 (tbx X6a hT)  (.error r1b) h2b) fun w3 E2a=>?_
    have X0g:=xtr X6a E2a
    exact ⟨rfl,BK X0g⟩
theorem c_dyad_Make (x0:Ay) (x1:Int) (A1:Option Addr) (c2:Nat) (w:World) (hT:TB w) (n3:RLu w A1 c2 x0.Abs) (r:Ag × Int) (hr:LI x0 x1=some r) :
  Calls Tryz.prog 60 #[.agg #[.bool x0.Neg,.slice A1 x0.Abs.length c2],.int .i64 x1] w (Ret Ob w r):=by
 unfold LI at hr
 obtain ⟨q0,hq0,hr0⟩:=Ac hr
 unfold MG at hq0
 go_enter_defers Tryz.func60,Tryz.ntmps60
 refine wp_seq_k fun _ h4=>Af<|Bm rfl rfl fun b5 w1 E6 g7 q8=>?_
 refine nrm ?_
 refine Ax Hq fun b9 w2 E7a g1e q8a=>?_
 refine nrm ?_
 have g9a:=nlt E6.size g1e
 have X4c:=xtr E6 E7a
 refine Ax Jk fun b6b w3 E3a g2e q4a=>?_
 refine nrm ?_
 have g0b:=nlt X4c.size g2e
 have X7b:=xtr X4c E3a
 refine wh h4<|wp_seq_k fun _ h3e=>Af<|Hw (vs:=[.pointer (some ⟨b9,0,none⟩),.pointer (some ⟨b6b,0,none⟩)]) (by rfl) (by rfl)<|wh h3e<|wp_seq_k fun _ h4e=>Af<|sV (Am GS rfl ((q8.ext E7a).ext E3a) rfl) ?_
 refine scr hq0 (Ad Oj (by rfl)) (Ju x0 A1 c2 w3 (tbx X7b hT) (n3.ext X7b)) fun r5c f5e w4 E1a=>?_
 have X1b:=xtr X7b E1a
 rcases AF f5e with ⟨r2b,h8b,f6e⟩ | ⟨r2b,h8b,rfl⟩
 ·refine scO (Ad DY (by rfl)) (AZ r5c 1 w4 (tbx X1b hT)  (.ok r2b) h8b) ?_
  rintro _ w5 E0a rfl
  refine nrm ?_
  have X3b:=xtr X1b E0a
  refine wh h4e<|wp_seq_k fun _ h7e=>wp_seq_k fun _ h8e=>Af<|sV (Ah (o':=1) Eb rfl rfl) ?_
  have q6c:=(((q8.ext E7a).ext E3a).ext E1a).ext E0a
  refine sV2 (Ai Gf rfl (Bx.cell q6c rfl)) (AG Dn rfl) ?_
  refine sb (CG rfl rfl) fun z7c hz7c=>?_
  refine nrm ?_
  refine wh h8e ?_
  rcases zi hz7c f6e with ⟨e9b,_,f9e⟩ | ⟨e9b,_,f0f⟩
  ·refine wp_cond_true (Ak (evb rfl e9b))<|wp_seq_k fun _ h1f=>Af<|sV (Bb (vals:=[]) (cells:=[.bool false,.slice none 0 0,.int .i64 0]) (by rfl) (by kernel_rfl)) ?_
   have q8c:=((q8a.ext E3a).ext E1a).ext E0a
   refine ss FI q8c fun w6 U9c q2f=>?_
   have X3f:=belU X3b U9c g9a
   have ne0d:=(Bx.neT ((q4a.ext E1a).ext E0a) q8c (by decide))
   have q4f:=((q4a.ext E1a).ext E0a).upd U9c ne0d
   refine ss GW q4f fun w7 U1d q5f=>?_
   have X6f:=belU X3f U1d g0b
   refine wh h1f<|wp_ret ?_
   obtain rfl:=sj f9e
   obtain rfl:=sj hr0
   exact Mj Hz KQ rfl (Res.cellN rfl BT (q2f.upd U1d (Ne.symm ne0d)) rfl rfl (Res.cell1 rfl BW (Bx.cell q5f rfl) Res.nil)) (Av X6f ⟨none,0,rfl,(RU.nil _)⟩)
  ·refine wp_cond_false (Ak (evb rfl e9b))<|wp_skip<|h7e _ _<|wp_seq_k fun _ h7f=>Af<|sV (Ab rfl) ?_
   refine wh h7f<|wp_seq_k fun _ h8f=>Af<|sV (Am GS rfl q6c rfl) ?_
   obtain ⟨m2d,h9f,f0g⟩:=Ac f0f
   have hx3d:=AU h9f
   have n1g:RU w5 A1 c2 m2d:=by unfold RU;rw [hx3d];exact (n3.ext X3b)
   refine scn f0g (Ad PN (by simp only [sz,hx3d];rfl)) (LF (⟨x0.Neg,m2d⟩:Ae) A1 c2 w5 (tbx X3b hT) n1g) fun r2g f3g w6 A4g c5g E5a n6g=>?_
   have X4d:=xtr X3b E5a
   refine sV2 (Aa rfl) (Qp (c:=(-1099511627776)) rfl (by decide)) ?_
   refine sV3 (Aa rfl) (Aa rfl) (Qc rfl rfl) ?_
   refine sV (Nt rfl rfl) ?_
   refine scn f3g (Ad Ms (by rfl)) (GF r2g (max (-1099511627776) (min x1 1099511627776)) A4g c5g w6 (tbx X4d hT) n6g) fun r5d f7g w7 A6d c7d E6a n8d=>?_
   have X4b:=xtr X4d E6a
   rcases AF f7g with ⟨r5b,h0c,f8g⟩ | ⟨r5b,h0c,rfl⟩
   ·refine scO (Ad Ly (by rfl)) (Fx r5d A6d c7d w7 (tbx X4b hT) n8d (.ok r5b) h0c) ?_
    rintro _ w8 E2a ⟨A9g,c0h,rfl,n1h⟩
    refine nrm ?_
    have X2h:=xtr X4b E2a
    have q1c:=(((((q8a.ext E3a).ext E1a).ext E0a).ext E5a).ext E6a).ext E2a
    refine ss FI q1c fun w9 U2c q3h=>?_
    have X4h:=belU X2h U2c g9a
    have ne9d:=(Bx.neT (((((q4a.ext E1a).ext E0a).ext E5a).ext E6a).ext E2a) q1c (by decide))
    have q0e:=(((((q4a.ext E1a).ext E0a).ext E5a).ext E6a).ext E2a).upd U2c ne9d
    refine ss GW q0e fun w7a U3c q5h=>?_
    have X6h:=belU X4h U3c g0b
    refine wh h8f<|wp_ret ?_
    have n7h:=(n1h.upd U2c q1c (by decide)).upd U3c q0e (by decide)
    obtain rfl:=sj f8g
    obtain rfl:=sj hr0
    exact Mj Hz KQ rfl (Res.cellN rfl BT (q3h.upd U3c (Ne.symm ne9d)) rfl rfl (Res.cell1 rfl BW (Bx.cell q5h rfl) Res.nil)) (Av X6h ⟨A9g,c0h,rfl,n7h⟩)
   ·refine scP (Ad Ly (by rfl)) (Fx r5d A6d c7d w7 (tbx X4b hT) n8d (.error r5b) h0c) fun w8 E2a=>?_
    have X8h:=xtr X4b E2a
    have q9h:=(((((q8a.ext E3a).ext E1a).ext E0a).ext E5a).ext E6a).ext E2a
    have q0i:=((((q4a.ext E1a).ext E0a).ext E5a).ext E6a).ext E2a
    refine Ir KQ (EU b9 b6b (.bool false:Value) (.slice none 0 0:Value) (.int .i64 0:Value) (.int .i64 0:Value) r5b q9h q0i) rfl ?_
    rintro w9 ⟨u9,q9,q9'⟩
    obtain rfl:=sj hr0
    exact ⟨_,(Res.cellN rfl BT q9 rfl rfl (Res.cell1 rfl BW (Bx.cell q9' rfl) Res.nil)),Av (u9.toExt X8h g9a g0b) ⟨none,0,rfl,RU.nil _⟩⟩
 ·refine scP (Ad DY (by rfl)) (AZ r5c 1 w4 (tbx X1b hT)  (.error r2b) h8b) fun w5 E0a=>?_
  have X1i:=xtr X1b E0a
  have q2i:=((q8a.ext E3a).ext E1a).ext E0a
  refine Ir KQ (EU b9 b6b (.bool false:Value) (.slice none 0 0:Value) (.int .i64 0:Value) (.int .i64 0:Value) r2b q2i ((q4a.ext E1a).ext E0a)) rfl ?_
  rintro w9 ⟨u9,q9,q9'⟩
  obtain rfl:=sj hr0
  exact ⟨_,(Res.cellN rfl BT q9 rfl rfl (Res.cell1 rfl BW (Bx.cell q9' rfl) Res.nil)),Av (u9.toExt X1i g9a g0b) ⟨none,0,rfl,RU.nil _⟩⟩
theorem c_sorobanref04_Of (x0:Ae) (x1:Int) (A1:Option Addr) (c2:Nat) (w:World) (hT:TB w) (n3:RU w A1 c2 x0.Abs) (r:Ag) (hr:EH x0 x1=some r) :
  Calls Tryz.prog 62 #[.agg #[.bool x0.Neg,.slice A1 (sz x0.Abs) c2],.int .i64 x1] w (Ret Oy w r):=by
 unfold EH at hr
 go_enter Tryz.func62,Tryz.ntmps62
 refine wp_seq_k fun _ h4=>Af<|Bm rfl rfl fun b5 w1 E6 g7 q8=>?_
 refine nrm ?_
 refine Ax Hq fun b9 w2 E0a g2b q3b=>?_
 refine nrm ?_
 have g7b:=nlt E6.size g2b
 have X7a:=xtr E6 E0a
 refine wh h4<|wp_seq_k fun _ h8b=>wp_seq_k fun _ h9b=>Af<|sV3 (Ah (o':=1) Eb rfl rfl) (Ai Gf rfl (Bx.cell (q8.ext E0a) rfl)) (AG Dn rfl) ?_
 refine sb (CG rfl rfl) fun z4b hz4b=>?_
 refine nrm ?_
 refine wh h9b ?_
 rcases zi hz4b hr with ⟨e8a,_,f32⟩ | ⟨e8a,_,f0c⟩
 ·refine wp_cond_true (Ak (evb rfl e8a))<|wp_seq_k fun _ h1c=>Af<|sV (Bb (vals:=[]) (cells:=[.bool false,.slice none 0 0,.int .i64 0]) (by rfl) (by kernel_rfl)) ?_
  refine ss FI q3b fun w3 U2c q3c=>?_
  have F4c:=belU E0a U2c g2b
  have X5c:=xtr E6 F4c
  refine wh h1c<|wp_ret ?_
  exact CV f32 rfl (Res.cellN rfl BT q3c rfl rfl Res.nil) (Av X5c ⟨none,0,rfl,(RU.nil _)⟩)
 ·refine wp_cond_false (Ak (evb rfl e8a))<|wp_skip<|h8b _ _<|wp_seq_k fun _ h6c=>Af<|sV2 (Ah (o':=1) Eb rfl rfl) (Ai Gf rfl (Bx.cell (q8.ext E0a) rfl)) ?_
  refine scr f0c (Ad en_153 (by rfl)) (HQ x0.Abs A1 c2 w2 (tbx X7a hT) (n3.ext X7a)) fun r3a f7c w3 E4a=>?_
  have X8c:=xtr X7a E4a
  refine sV (Ab rfl) ?_
  refine wh h6c<|wp_seq_k fun _ h9c=>DK [11] 12 mo rfl fun w4 E5a S9a=>have X0b:=xtr X8c E5a;dA 0 rfl (fun _=>Ah (o':=0) IP rfl rfl) ?_
  refine dV 1 rfl (fun _ hw=>Ai HZ rfl (Bx.cell ((((q8.ext E0a).ext E4a).ext E5a).ext hw) rfl)) S9a ?_
  refine dA 2 rfl (fun _=>Ah (o':=1) Eb rfl rfl) ?_
  refine dV 3 rfl (fun _ hw=>Ai Gf rfl (Bx.cell ((((q8.ext E0a).ext E4a).ext E5a).ext hw) rfl)) S9a ?_
  refine dA 4 rfl (fun _=>Aa rfl) ?_
  refine dA 7 rfl (fun _=>Aa rfl) ?_
  refine dA 8 rfl (fun _=>Aa rfl) ?_
  refine dA 9 rfl (fun _=>Bj (c:=wi64 (x1+r3a)) rfl rfl rfl) ?_
  refine dcn f7c 5 rfl (by rfl) (Ad Rr (by rfl)) (IE x0.Abs r3a A1 c2 w4 (tbx X0b hT) (n3.ext X0b)) fun r6a f0d w5 A1a c2a E1b n1d=>?_
  have X2d:=xtr X0b E1b
  have S5d:=S9a.trans E1b
  refine dA 6 rfl (fun _=>Bb (vals:=[(0,.bool x0.Neg),(1,.slice A1a (sz r6a) c2a)]) (cells:=[.bool x0.Neg,.slice A1a (sz r6a) c2a]) (by rfl) (by kernel_rfl)) ?_
  refine dA 10 rfl (fun _=>Bb (vals:=[(0,.agg #[.bool x0.Neg,.slice A1a (sz r6a) c2a]),(1,.int .i64 (wi64 (x1+r3a)))]) (cells:=[.bool x0.Neg,.slice A1a (sz r6a) c2a,.int .i64 (wi64 (x1+r3a))]) (by rfl) (by kernel_rfl)) ?_
  have q5b:=((q3b.ext E4a).ext E5a).ext E1b
  refine dkk 11 FI q5b fun w6 U6b q3d=>?_
  have X4d:=belU X2d U6b g7b
  refine CE (by kernel_rfl) ?_
  refine h9c _ _<|wp_ret ?_
  exact CV f0d rfl (Res.cellN rfl BT q3d rfl rfl Res.nil) (Av X4d ⟨A1a,c2a,rfl,(n1d.upd U6b q5b (by decide))⟩)
theorem BM (x0:Int) (x1:Int) (w:World) (hT:TB w) (r:Ag) (hr:Bl x0 x1=some r) :
  Calls Tryz.prog 38 #[.int .i64 x0,.int .i64 x1] w (Ret Oy w r):=by
 unfold Bl at hr
 go_enter Tryz.func38,Tryz.ntmps38
 refine wp_seq_k fun _ h1=>Af<|Ax Hq fun b2 w1 E3 g4 q5=>?_
 refine nrm ?_
 refine wh h1<|wp_seq_k fun _ h6=>Af<|sV (Aa rfl) ?_
 refine scn hr (Ad RN (by rfl)) (JA x0 w1 (tbx E3 hT)) fun r7 f9 w2 A4a c5a E0a n6a=>?_
 have X2a:=xtr E3 E0a
 refine sV (Aa rfl) ?_
 refine scn f9 (Ad en_62 (by rfl)) (c_sorobanref04_Of r7 x1 A4a c5a w2 (tbx X2a hT) n6a) fun r5b f7a w3 A8a c9a E1a n0b=>?_
 have X1b:=xtr X2a E1a
 refine ss FI ((q5.ext E0a).ext E1a) fun w4 U3a q2b=>?_
 have X3b:=belU X1b U3a g4
 refine wh h6<|wp_ret ?_
 have n4b:=n0b.upd U3a ((q5.ext E0a).ext E1a) (by decide)
 exact CV f7a rfl (Res.cellN rfl BT q2b rfl rfl Res.nil) (Av X3b ⟨A8a,c9a,rfl,n4b⟩)
theorem Ic (x0:Aq) (A1:Option Addr) (c2:Nat) (w:World) (hT:TB w) (n3:RLu w A1 c2 x0.Man.Abs) (r:Bool) (hr:Ed x0=some r) :
  Calls Tryz.prog 64 #[.agg #[.bool x0.Man.Neg,.slice A1 x0.Man.Abs.length c2,.int .i64 x0.Exp]] w (Ret FN w r):=by
 unfold Ed at hr
 go_enter Tryz.func64,Tryz.ntmps64
 refine wp_seq_k fun _ h4=>Af<|Bm rfl rfl fun b5 w1 E6 g7 q8=>?_
 refine nrm ?_
 refine sV (Ab rfl) ?_
 refine wh h4<|wp_seq_k fun _ h9=>wp_seq_k fun _ h8b=>Af<|sV2 (Ah (o':=0) HF rfl rfl) (dld GS q8) ?_
 refine scr hr (Ad Oj (by rfl)) (Ju x0.Man A1 c2 w1 (tbx E6 hT) (n3.ext E6)) fun r4e f9b w2 E2a=>?_
 have X3a:=xtr E6 E2a
 refine sb (Fq rfl) fun z9a hz9a=>?_
 refine nrm ?_
 refine wh h8b ?_
 rcases zi hz9a f9b with ⟨e4a,_,f0c⟩ | ⟨e4a,_,f1c⟩
 ·refine wp_cond_true (Ak (evb rfl e4a))<|wp_seq_k fun _ h2c=>Af<|sV (Ab rfl) ?_
  refine wh h2c<|wp_ret ?_
  exact BG f0c X3a rfl
 ·refine wp_cond_false (Ak (evb rfl e4a))<|wp_skip<|h9 _ _<|wp_seq_k fun _ h3c=>wp_seq_k fun _ h4c=>Af<|sV3 (Ah (o':=0) HF rfl rfl) (Ah (o':=1) Eb rfl rfl) (Ai Gf rfl (Bx.cell (q8.ext E2a) rfl)) ?_
  refine sV (AG Dn rfl) ?_
  refine sb (CG rfl rfl) fun z0b hz0b=>?_
  refine nrm ?_
  refine wh h4c ?_
  rcases zi hz0b f1c with ⟨e5a,_,f5c⟩ | ⟨e5a,_,f6c⟩
  ·refine wp_cond_true (Ak (evb rfl e5a))<|wp_seq_k fun _ h7c=>Af<|sV2 (Ah (o':=2) Hj rfl rfl) (Ai FM rfl (Bx.cell (q8.ext E2a) rfl)) ?_
   refine sb (CG rfl rfl) fun z6a hz6a=>?_
   refine nrm ?_
   refine sV (Ab rfl) ?_
   refine wh h7c<|wp_ret ?_
   obtain rfl:z6a=decide (x0.Exp=0):=bz hz6a
   exact BG f5c X3a rfl
  ·refine wp_cond_false (Ak (evb rfl e5a))<|wp_skip<|h3c _ _<|wp_seq_k fun _ h8c=>Af<|sV3 (Ah (o':=0) HF rfl rfl) (Ah (o':=1) Eb rfl rfl) (Ai Gf rfl (Bx.cell (q8.ext E2a) rfl)) ?_
   obtain ⟨u5e,h9c,f0d⟩:=Ac f6c
   obtain ⟨bb47,oo48,hA1d,ia2d,ib3d,hc50⟩:=RL.nth (n3.ext X3a) h9c
   refine sV3 (AD Dn Au rfl rfl hA1d ia2d ib3d) (Ai Bg rfl hc50) (Ps (k:=.u32) rfl rfl) ?_
   refine sb (CG rfl rfl) fun z1b hz1b=>?_
   refine nrm ?_
   refine sV (Aa rfl) ?_
   obtain ⟨m4d,h5d,f6d⟩:=Ac f0d
   refine BH 12 (fun l l' w'=>∃(t2b:Value) (t3b:Value) (t4b:Value),w2=w'∧l'=((((l.set 23 t2b).set 24 t3b).set 25 t4b).set 26 (.bool m4d))) ?_ ?_
   ·intro HJ68
    rcases zi hz1b h5d with ⟨e0a,_,f7d⟩ | ⟨e0a,_,f8d⟩
    ·refine sV (Ah (o':=2) Hj rfl rfl) ?_ (hw:=wgT rfl e0a)
     refine sV (Ai FM rfl (Bx.cell (q8.ext E2a) rfl)) ?_ (hw:=wgT rfl e0a)
     refine sb (Jh rfl rfl) ?_ (hw:=wgT rfl e0a)
     intro z7a hz7a
     refine nrm ?_
     refine sV (AA (evb rfl e0a) rfl) ?_
     obtain rfl:z7a=decide (x0.Exp≤1048576):=bz hz7a
     obtain rfl:=sj f7d
     exact HJ68 _ _ ⟨(.pointer (some ⟨b5,2,none⟩)),(.int .i64 x0.Exp),(.bool (decide (x0.Exp≤1048576))),rfl,(by kernel_rfl)⟩
    ·refine sQ rfl e0a ?_
     refine sQ rfl e0a ?_
     refine sQ rfl e0a ?_
     refine sV (AC (evb rfl e0a) rfl) ?_
     obtain rfl:=sj f8d
     exact HJ68 _ _ ⟨uu,uu,uu,rfl,(by kernel_rfl)⟩
   ·rintro l' _ ⟨t2b,t3b,t4b,rfl,hq'⟩ l'' hl
    rw [hq'] at hl
    clear hq'
    simp only [S0,S1] at hl
    subst hl
    refine sV (Aa rfl) ?_
    obtain ⟨m9d,h0e,f1e⟩:=Ac f6d
    refine BH 17 (fun l l' w'=>∃(t5b:Value) (t6b:Value) (t7b:Value),w2=w'∧l'=((((l.set 28 t5b).set 29 t6b).set 30 t7b).set 31 (.bool m9d))) ?_ ?_
    ·intro HJ88
     rcases zb h0e with ⟨e1a,f2e⟩ | ⟨e1a,f3e⟩
     ·refine sV (Ah (o':=2) Hj rfl rfl) ?_ (hw:=wgT rfl e1a)
      refine sV (Ai FM rfl (Bx.cell (q8.ext E2a) rfl)) ?_ (hw:=wgT rfl e1a)
      refine sb (FP rfl rfl) ?_ (hw:=wgT rfl e1a)
      intro z8a hz8a
      refine nrm ?_
      refine sV (AA (evb rfl e1a) rfl) ?_
      obtain rfl:z8a=decide ((-1048576)≤x0.Exp):=bz hz8a
      obtain rfl:=sj f2e
      exact HJ88 _ _ ⟨(.pointer (some ⟨b5,2,none⟩)),(.int .i64 x0.Exp),(.bool (decide ((-1048576)≤x0.Exp))),rfl,(by kernel_rfl)⟩
     ·refine sQ rfl e1a ?_
      refine sQ rfl e1a ?_
      refine sQ rfl e1a ?_
      refine sV (AC (evb rfl e1a) rfl) ?_
      obtain rfl:=sj f3e
      exact HJ88 _ _ ⟨uu,uu,uu,rfl,(by kernel_rfl)⟩
    ·rintro l' _ ⟨t5b,t6b,t7b,rfl,hq'⟩ l'' hl
     rw [hq'] at hl
     clear hq'
     simp only [S0,S1] at hl
     subst hl
     refine sV (Ab rfl) ?_
     refine wh h8c<|wp_ret ?_
     exact BG f1e X3a rfl
theorem IB (x0_0:Aq) (bp0:Nat) (A1:Option Addr) (c2:Nat) (w:World) (hT:TB w) (n3:RLu w A1 c2 x0_0.Man.Abs) (q4:Bx w bp0 27 [.bool x0_0.Man.Neg,.slice A1 x0_0.Man.Abs.length c2,.int .i64 x0_0.Exp]) (r:Except Int (Unit)) (hr:Gs x0_0=some r) :
  Calls Tryz.prog 120 #[.slice (some ⟨bp0,0,none⟩) 1 1] w (RetE 201 Lc w r):=by
 unfold Gs at hr
 go_enter Tryz.func120,Tryz.ntmps120
 refine wp_seq_k fun _ h5=>Af<|sV3 (Aa rfl) (AG KE rfl) (Aa rfl) ?_
 refine wh h5 ?_
 apply wp_block
 refine Hh<|Bk<|wp_seq_k fun _ h6=>Af<|sV (IN (v:=.bool true) (Cn rfl rfl) (by rfl)) ?_
 refine wh h6<|wp_seq_k fun _ h7=>wp_cond_true (Ak (evb rfl rfl))<|wp_skip<|h7 _ _<|wp_seq_k fun _ h8=>?_
 apply wp_block
 refine wp_seq_k fun _ h9=>Af<|sV (Ht (o':=0) KE FI rfl rfl (by decide) (by decide) (by decide)) ?_
 refine sV (Am BT rfl q4 rfl) ?_
 refine Ax Hq fun b7b w1 E6a g7a q8a=>?_
 refine nrm ?_
 refine ss FI q8a fun w2 U9a q0b=>?_
 have F1a:=belU E6a U9a g7a
 refine wh h9<|Af<|sV (Am BT rfl q0b rfl) ?_
 refine scr hr (Ad NQ (by rfl)) (Ic x0_0 A1 c2 w2 (tbx F1a hT) (n3.ext F1a)) fun r5a f1b w3 E2b=>?_
 have X0a:=xtr F1a E2b
 rcases AF f1b with ⟨r2a,h3a,f3b⟩ | ⟨r2a,h3a,rfl⟩
 ·refine scO (Ad DY (by rfl)) (AZ r5a 1 w3 (tbx X0a hT)  (.ok r2a) h3a) ?_
  rintro _ w4 E4a rfl
  refine nrm ?_
  have X4b:=xtr X0a E4a
  refine wh h8<|Af<|sV (Bj (c:=1) rfl rfl (by decide)) ?_
  refine sV (Aa rfl) ?_
  refine AK<|Bk<|wp_seq_k fun _ h5b=>Af<|sV (IN (v:=.bool false) (Cn rfl rfl) (by rfl)) ?_
  refine wh h5b<|wp_seq_k fun _ h8b=>wp_cond_false (Ak (evb rfl rfl))<|wp_exit ?_
  simp only [Exit.then,Exit.inBlock,↓reduceIte,Nat.reduceEqDiff]
  obtain rfl:=sj f3b
  exact Ng rfl Res.nil (DC X4b rfl)
 ·refine scP (Ad DY (by rfl)) (AZ r5a 1 w3 (tbx X0a hT)  (.error r2a) h3a) fun w4 E4a=>?_
  have X6b:=xtr X0a E4a
  exact ⟨rfl,BK X6b⟩
theorem Dj (x0:Int) (w:World) (hT:TB w) (r:Except Int (Unit)) (hr:EN x0=some r) :
  Calls Tryz.prog 138 #[.int .i64 x0] w (RetE 201 Lc w r):=by
 unfold EN at hr
 go_enter Tryz.func138,Tryz.ntmps138
 refine Af<|sV (Aa rfl) ?_
 refine sb (FP rfl rfl) fun z1 hz1=>?_
 refine nrm ?_
 refine sV (Aa rfl) ?_
 obtain ⟨m8,h9,f7a⟩:=Ac hr
 refine BH 6 (fun l l' w'=>∃(t5a:Value) (t6a:Value),w=w'∧l'=(((l.set 5 t5a).set 6 t6a).set 7 (.bool m8))) ?_ ?_
 ·intro HJ14
  rcases zi hz1 h9 with ⟨e0a,_,f8a⟩ | ⟨e0a,_,f9a⟩
  ·refine sV (Aa rfl) ?_ (hw:=wgT rfl e0a)
   refine sb (Jh rfl rfl) ?_ (hw:=wgT rfl e0a)
   intro z1a hz1a
   refine nrm ?_
   refine sV (AA (evb rfl e0a) rfl) ?_
   obtain rfl:z1a=decide (x0≤4096):=bz hz1a
   obtain rfl:=sj f8a
   exact HJ14 _ _ ⟨(.int .i64 x0),(.bool (decide (x0≤4096))),rfl,(by kernel_rfl)⟩
  ·refine sQ rfl e0a ?_
   refine sQ rfl e0a ?_
   refine sV (AC (evb rfl e0a) rfl) ?_
   obtain rfl:=sj f9a
   exact HJ14 _ _ ⟨uu,uu,rfl,(by kernel_rfl)⟩
 ·rintro l' _ ⟨t5a,t6a,rfl,hq'⟩ l'' hl
  rw [hq'] at hl
  clear hq'
  simp only [S0,S1] at hl
  subst hl
  rcases AF f7a with ⟨r2a,h3a,f0b⟩ | ⟨r2a,h3a,rfl⟩
  ·refine scO (Ad DY (by rfl)) (AZ m8 1 w hT  (.ok r2a) h3a) ?_
   rintro _ w1 E4a rfl
   refine nrm ?_
   refine AK ?_
   obtain rfl:=sj f0b
   exact Ng rfl Res.nil (DC E4a rfl)
  ·refine scP (Ad DY (by rfl)) (AZ m8 1 w hT  (.error r2a) h3a) fun w1 E4a=>?_
   exact ⟨rfl,BK E4a⟩
theorem Li (x0:Int) (w:World) (hT:TB w) (r:Except Int (Unit)) (hr:JK x0=some r) :
  Calls Tryz.prog 139 #[.int .i64 x0] w (RetE 201 Lc w r):=by
 unfold JK at hr
 go_enter Tryz.func139,Tryz.ntmps139
 refine Af<|sV (Aa rfl) ?_
 refine sb (FP rfl rfl) fun z1 hz1=>?_
 refine nrm ?_
 refine sV (Aa rfl) ?_
 obtain ⟨m8,h9,f7a⟩:=Ac hr
 refine BH 6 (fun l l' w'=>∃(t5a:Value) (t6a:Value),w=w'∧l'=(((l.set 5 t5a).set 6 t6a).set 7 (.bool m8))) ?_ ?_
 ·intro HJ14
  rcases zi hz1 h9 with ⟨e0a,_,f8a⟩ | ⟨e0a,_,f9a⟩
  ·refine sV (Aa rfl) ?_ (hw:=wgT rfl e0a)
   refine sb (Jh rfl rfl) ?_ (hw:=wgT rfl e0a)
   intro z1a hz1a
   refine nrm ?_
   refine sV (AA (evb rfl e0a) rfl) ?_
   obtain rfl:z1a=decide (x0≤5):=bz hz1a
   obtain rfl:=sj f8a
   exact HJ14 _ _ ⟨(.int .i64 x0),(.bool (decide (x0≤5))),rfl,(by kernel_rfl)⟩
  ·refine sQ rfl e0a ?_
   refine sQ rfl e0a ?_
   refine sV (AC (evb rfl e0a) rfl) ?_
   obtain rfl:=sj f9a
   exact HJ14 _ _ ⟨uu,uu,rfl,(by kernel_rfl)⟩
 ·rintro l' _ ⟨t5a,t6a,rfl,hq'⟩ l'' hl
  rw [hq'] at hl
  clear hq'
  simp only [S0,S1] at hl
  subst hl
  rcases AF f7a with ⟨r2a,h3a,f0b⟩ | ⟨r2a,h3a,rfl⟩
  ·refine scO (Ad DY (by rfl)) (AZ m8 1 w hT  (.ok r2a) h3a) ?_
   rintro _ w1 E4a rfl
   refine nrm ?_
   refine AK ?_
   obtain rfl:=sj f0b
   exact Ng rfl Res.nil (DC E4a rfl)
  ·refine scP (Ad DY (by rfl)) (AZ m8 1 w hT  (.error r2a) h3a) fun w1 E4a=>?_
   exact ⟨rfl,BK E4a⟩
theorem Ig (x0:Ag) (A1:Option Addr) (c2:Nat) (w:World) (hT:TB w) (n3:RU w A1 c2 x0.Man.Abs) (r:An) (hr:FU x0=some r) :
  Calls Tryz.prog 121 #[.agg #[.bool x0.Man.Neg,.slice A1 (sz x0.Man.Abs) c2,.int .i64 x0.Exp]] w (Ret IX w r):=by
 unfold FU at hr
 go_enter Tryz.func121,Tryz.ntmps121
 refine wp_seq_k fun _ h4=>Af<|Bm rfl rfl fun b5 w1 E6 g7 q8=>?_
 refine nrm ?_
 refine Ax Bn fun b9 w2 E3a g0b q8a=>?_
 refine nrm ?_
 have g1b:=nlt E6.size g0b
 have X2b:=xtr E6 E3a
 refine wh h4<|wp_seq_k fun _ h3b=>DK [6] 7 mo rfl fun w3 E0a S4a=>have X5a:=xtr X2b E0a;dA 0 rfl (fun _=>Ah (o':=0) HF rfl rfl) ?_
 refine dV 1 rfl (fun _ hw=>dld GS (((q8.ext E3a).ext E0a).ext hw)) S4a ?_
 refine dA 3 rfl (fun _=>Ah (o':=2) Hj rfl rfl) ?_
 refine dV 4 rfl (fun _ hw=>Ai FM rfl (Bx.cell (((q8.ext E3a).ext E0a).ext hw) rfl)) S4a ?_
 refine dcn hr 2 rfl (by rfl) (Ad PN (by rfl)) (LF x0.Man A1 c2 w3 (tbx X5a hT) (n3.ext X5a)) fun r1a f4b w4 A6a c7a E2a n5b=>?_
 have X6b:=xtr X5a E2a
 have S0c:=S4a.trans E2a
 refine dA 5 rfl (fun _=>Bb (vals:=[(0,.agg #[.bool r1a.Neg,.slice A6a (sz r1a.Abs) c7a]),(1,.int .i64 x0.Exp)]) (cells:=[.bool r1a.Neg,.slice A6a (sz r1a.Abs) c7a,.int .i64 x0.Exp]) (by rfl) (by kernel_rfl)) ?_
 refine dkk 6 BO ((q8a.ext E0a).ext E2a) fun w5 U9a q7b=>?_
 have X8b:=belU X6b U9a g1b
 refine CE (by kernel_rfl) ?_
 refine h3b _ _<|wp_ret ?_
 have n9b:=n5b.upd U9a ((q8a.ext E0a).ext E2a) (by decide)
 exact CV f4b rfl (Res.cellN rfl Aw q7b rfl rfl Res.nil) (Av X8b ⟨A6a,c7a,rfl,n9b⟩)
theorem Ka (x0:Ae) (x1:Int) (A1:Option Addr) (c2:Nat) (w:World) (hT:TB w) (n3:RU w A1 c2 x0.Abs) (r:Ae) (hr:DW x0 x1=some r) :
  Calls Tryz.prog 203 #[.agg #[.bool x0.Neg,.slice A1 (sz x0.Abs) c2],.int .i64 x1] w (Ret MI w r):=by
 unfold DW at hr
 go_enter Tryz.func203,Tryz.ntmps203
 refine wp_seq_k fun _ h4=>Af<|Bm rfl rfl fun b5 w1 E6 g7 q8=>?_
 refine nrm ?_
 refine Ax HD fun b9 w2 E2a g0b q7a=>?_
 refine nrm ?_
 have g1b:=nlt E6.size g0b
 have X2b:=xtr E6 E2a
 refine wh h4<|wp_seq_k fun _ h3b=>DK [7] 8 mo rfl fun w3 E0a S3a=>have X4a:=xtr X2b E0a;dA 0 rfl (fun _=>Ah (o':=0) En rfl rfl) ?_
 refine dV 1 rfl (fun _ hw=>Ai HZ rfl (Bx.cell (((q8.ext E2a).ext E0a).ext hw) rfl)) S3a ?_
 refine dA 2 rfl (fun _=>Ah (o':=1) Bt rfl rfl) ?_
 refine dV 3 rfl (fun _ hw=>Ai Dk rfl (Bx.cell (((q8.ext E2a).ext E0a).ext hw) rfl)) S3a ?_
 refine dA 4 rfl (fun _=>Aa rfl) ?_
 refine dcn hr 5 rfl (by rfl) (Ad Kj (by rfl)) (CX x0.Abs x1 A1 c2 w3 (tbx X4a hT) (n3.ext X4a)) fun r8a f4b w4 A5a c6a E1a n5b=>?_
 have X6b:=xtr X4a E1a
 have S0c:=S3a.trans E1a
 refine dA 6 rfl (fun _=>Bb (vals:=[(0,.bool x0.Neg),(1,.slice A5a (sz r8a) c6a)]) (cells:=[.bool x0.Neg,.slice A5a (sz r8a) c6a]) (by rfl) (by kernel_rfl)) ?_
 refine dkk 7 Hd ((q7a.ext E0a).ext E1a) fun w5 U9a q7b=>?_
 have X8b:=belU X6b U9a g1b
 refine CE (by kernel_rfl) ?_
 refine h3b _ _<|wp_ret ?_
 have n9b:=n5b.upd U9a ((q7a.ext E0a).ext E1a) (by decide)
 exact CV f4b rfl (Res.cellN rfl EF q7b rfl rfl Res.nil) (Av X8b ⟨A5a,c6a,rfl,n9b⟩)
theorem c_wide_Away (x0:Bool) (x1:Int) (x2:Bool) (x3:Bool) (x4:Int) (w:World) (hT:TB w) (r:Bool) (hr:JB x0 x1 x2 x3 x4=some r) :
  Calls Tryz.prog 206 #[.bool x0,.int .i64 x1,.bool x2,.bool x3,.int .i64 x4] w (Ret FN w r):=by
 unfold JB at hr
 go_enter Tryz.func206,Tryz.ntmps206
 refine wp_seq_k fun _ h1=>Af<|sV (Ab rfl) ?_
 refine wh h1<|wp_seq_k fun _ h2=>wp_seq_k fun _ h3=>Af<|sV (Aa rfl) ?_
 refine wh h3 ?_
 rcases zb hr with ⟨e3a,f2c⟩ | ⟨e3a,f3c⟩
 ·refine wp_cond_true (Ak (evb rfl e3a))<|wp_seq_k fun _ h4c=>Af<|sV (Ab rfl) ?_
  refine wh h4c<|wp_ret ?_
  exact BG f2c (Ext.refl _) rfl
 ·refine wp_cond_false (Ak (evb rfl e3a))<|wp_skip<|h2 _ _<|wp_seq_k fun _ h5c=>wp_seq_k fun _ h6c=>Af<|sV (Aa rfl) ?_
  refine wh h6c ?_
  apply wp_block
  refine wp_seq_k fun _ h7c=>Af<|sb (CG rfl rfl) fun z1b hz1b=>?_
  refine nrm ?_
  refine sV (Ab rfl) ?_
  refine wh h7c ?_
  rcases zi hz1b f3c with ⟨e4a,_,f8c⟩ | ⟨e4a,_,f9c⟩
  ·refine wp_cond_true (Ak (evb rfl e4a))<|wp_seq_k fun _ h0d=>Af<|sV (Aa rfl) ?_
   refine sb (Gm rfl rfl) fun z2b hz2b=>?_
   refine nrm ?_
   refine sV (Aa rfl) ?_
   obtain ⟨m1d,h2d,f3d⟩:=Ac f8c
   refine BH 9 (fun l l' w'=>∃(t3b:Value) (t4b:Value) (t5b:Value) (t6b:Value) (t7b:Value),w=w'∧l'=((((((l.set 18 t3b).set 19 t4b).set 20 t5b).set 21 t6b).set 22 t7b).set 23 (.bool m1d))) ?_ ?_
   ·intro HJ251
    rcases zi hz2b h2d with ⟨e0a,_,f4d⟩ | ⟨e0a,_,f5d⟩
    ·refine sQ rfl e0a ?_
     refine sQ rfl e0a ?_
     refine sQ rfl e0a ?_
     refine sP ?_
     refine sQ rfl e0a ?_
     refine sV (AA (evb rfl e0a) rfl) ?_
     obtain rfl:=sj f4d
     exact HJ251 _ _ ⟨uu,uu,uu,uu,uu,rfl,(by kernel_rfl)⟩
    ·refine sV (Aa rfl) ?_ (hw:=wgT rfl e0a)
     refine sb (CG rfl rfl) ?_ (hw:=wgT rfl e0a)
     intro z2a hz2a
     refine nrm ?_
     refine sV (Aa rfl) ?_ (hw:=wgT rfl e0a)
     obtain ⟨m8b,h6d,f7d⟩:=Ac f5d
     refine BH 8 (fun l l' w'=>∃(t5a:Value),w=w'∧l'=((l.set 21 t5a).set 22 (.bool m8b))) ?_ ?_
     ·intro HJ268
      rcases zi hz2a h6d with ⟨e1a,_,f8d⟩ | ⟨e1a,_,f9d⟩
      ·refine sV (Aa rfl) ?_ (hw:=wgT rfl e1a)
       refine sV (AA (evb rfl e1a) rfl) ?_ (hw:=wgT rfl e0a)
       obtain rfl:=sj f8d
       exact HJ268 _ _ ⟨(.bool x2),rfl,(by kernel_rfl)⟩
      ·refine sQ rfl e1a ?_
       refine sV (AC (evb rfl e1a) rfl) ?_ (hw:=wgT rfl e0a)
       obtain rfl:=sj f9d
       exact HJ268 _ _ ⟨uu,rfl,(by kernel_rfl)⟩
     ·rintro l' _ ⟨t5a,rfl,hq'⟩ l'' hl
      rw [hq'] at hl
      clear hq'
      simp only [S0,S1] at hl
      subst hl
      refine sV (AC (evb rfl e0a) rfl) ?_
      obtain rfl:=sj f7d
      exact HJ251 _ _ ⟨(.int .i64 x1),(.bool z2a),(.bool z2a),t5a,(.bool m8b),rfl,(by kernel_rfl)⟩
   ·rintro l' _ ⟨t3b,t4b,t5b,t6b,t7b,rfl,hq'⟩ l'' hl
    rw [hq'] at hl
    clear hq'
    simp only [S0,S1] at hl
    subst hl
    refine sV (Ab rfl) ?_
    refine wh h0d<|wp_ret ?_
    exact BG f3d (Ext.refl _) rfl
  ·refine wp_cond_false (Ak (evb rfl e4a))<|wp_seq_k fun _ h0e=>Af<|sb (CG rfl rfl) fun z9b hz9b=>?_
   refine nrm ?_
   refine sV (Ab rfl) ?_
   refine wh h0e ?_
   rcases zi hz9b f9c with ⟨e6a,_,f1e⟩ | ⟨e6a,_,f2e⟩
   ·refine wp_cond_true (Ak (evb rfl e6a))<|wp_seq_k fun _ h3e=>Af<|sV (Aa rfl) ?_
    refine sb (FP rfl rfl) fun z7a hz7a=>?_
    refine nrm ?_
    refine sV (Ab rfl) ?_
    refine wh h3e<|wp_ret ?_
    obtain rfl:z7a=decide (0≤x1):=bz hz7a
    exact BG f1e (Ext.refl _) rfl
   ·refine wp_cond_false (Ak (evb rfl e6a))<|wp_seq_k fun _ h4e=>Af<|sb (CG rfl rfl) fun z0c hz0c=>?_
    refine nrm ?_
    refine sV (Ab rfl) ?_
    refine wh h4e ?_
    rcases zi hz0c f2e with ⟨e8a,_,f5e⟩ | ⟨e8a,_,f6e⟩
    ·refine wp_cond_true (Ak (evb rfl e8a))<|wp_seq_k fun _ h7e=>Af<|sV (Aa rfl) ?_
     refine sb (Fq rfl) fun z9a hz9a=>?_
     refine nrm ?_
     refine sV (Ab rfl) ?_
     refine wh h7e<|wp_ret ?_
     obtain rfl:z9a=decide (¬(x3=true)):=bz hz9a
     exact BG f5e (Ext.refl _) rfl
    ·refine wp_cond_false (Ak (evb rfl e8a))<|wp_seq_k fun _ h8e=>Af<|sb (CG rfl rfl) fun z1c hz1c=>?_
     refine nrm ?_
     refine sV (Ab rfl) ?_
     refine wh h8e ?_
     rcases zi hz1c f6e with ⟨e0b,_,f9e⟩ | ⟨e0b,_,f0f⟩
     ·refine wp_cond_true (Ak (evb rfl e0b))<|wp_seq_k fun _ h1f=>Af<|sV2 (Aa rfl) (Ab rfl) ?_
      refine wh h1f<|wp_ret ?_
      exact BG f9e (Ext.refl _) rfl
     ·refine wp_cond_false (Ak (evb rfl e0b))<|wp_skip<|h5c _ _<|wp_seq_k fun _ h2f=>Af<|sV (Ab rfl) ?_
      refine wh h2f<|wp_ret ?_
      exact BG f0f (Ext.refl _) rfl
set_option maxRecDepth 20000 in
theorem DD (x0:An) (x1:Int) (x2:Int) (x3:Bool) (A1:Option Addr) (c2:Nat) (w:World) (hT:TB w) (n3:RU w A1 c2 x0.m.Abs) (r:An) (hr:AR x0 x1 x2 x3=some r) :
  Calls Tryz.prog 140 #[.agg #[.bool x0.m.Neg,.slice A1 (sz x0.m.Abs) c2,.int .i64 x0.e],.int .i64 x1,.int .i64 x2,.bool x3] w (Ret IX w r):=by
 unfold AR at hr
 refine Ns Tryz.func140 rfl [.agg #[.bool x0.m.Neg,.slice A1 (sz x0.m.Abs) c2,.int .i64 x0.e],.int .i64 x1,.int .i64 x2,.bool x3,uu,uu,uu,uu,uu,uu,uu,uu,uu,uu,uu,uu,uu,uu,uu,uu,uu,uu,uu,uu,uu,uu,uu,uu,uu,uu,uu,uu,uu,uu,uu,uu,uu,uu,uu,uu,uu,uu,uu,uu,uu,uu,uu,uu,uu,uu,uu,uu,uu,uu,uu,uu,uu,uu,uu,uu,uu,uu,uu,uu,uu,uu,uu,uu,uu,uu,uu,uu,uu,uu,uu,uu,uu,uu,uu,uu,uu,uu,uu,uu,uu,uu,uu,uu,uu,uu,uu,uu,uu,uu,uu,uu,uu,uu,uu,uu,uu,uu,uu,uu] (by kernel_rfl) ?_
 refine wp_seq_k fun _ h4=>Af<|Bm rfl rfl fun b5 w1 E6 g7 q8=>?_
 refine nrm ?_
 refine Ax Bn fun b9 w2 E3a g2c q7b=>?_
 refine nrm ?_
 have g2d:=nlt E6.size g2c
 have X1b:=xtr E6 E3a
 refine wh h4<|wp_seq_k fun _ h8d=>Af<|sV3 (Ah (o':=0) BS rfl rfl) (Ah (o':=1) Bt rfl rfl) (Ai Dk rfl (Bx.cell (q8.ext E3a) rfl)) ?_
 refine scr hr (Ad Mq (by rfl)) (Ef x0.m.Abs A1 c2 w2 (tbx X1b hT) (n3.ext X1b)) fun r2a f6k w3 E4a=>?_
 have X2b:=xtr X1b E4a
 refine sV3 (Aa rfl) (BA (c:=wi64 (r2a - x1)) rfl rfl rfl) (Ab rfl) ?_
 refine wh h8d<|wp_seq_k fun _ h7k=>wp_seq_k fun _ h8k=>Af<|sV (Aa rfl) ?_
 refine sb (Jh rfl rfl) fun z2f hz2f=>?_
 refine nrm ?_
 refine sV (Aa rfl) ?_
 obtain ⟨m9k,h0l,f32⟩:=Ac f6k
 refine BH 6 (fun l l' w'=>∃(t3f:Value) (t4f:Value),w3=w'∧l'=(((l.set 23 t3f).set 24 t4f).set 25 (.bool m9k))) ?_ ?_
 ·intro HJ36
  rcases zi hz2f h0l with ⟨e3b,_,f1l⟩ | ⟨e3b,_,f2l⟩
  ·refine sV (Aa rfl) ?_ (hw:=wgT rfl e3b)
   refine sb (Fq rfl) ?_ (hw:=wgT rfl e3b)
   intro z9d hz9d
   refine nrm ?_
   refine sV (AA (evb rfl e3b) rfl) ?_
   obtain rfl:z9d=decide (¬(x3=true)):=bz hz9d
   obtain rfl:=sj f1l
   exact HJ36 _ _ ⟨(.bool x3),(.bool (decide (¬(x3=true)))),rfl,(by kernel_rfl)⟩
  ·refine sQ rfl e3b ?_
   refine sQ rfl e3b ?_
   refine sV (AC (evb rfl e3b) rfl) ?_
   obtain rfl:=sj f2l
   exact HJ36 _ _ ⟨uu,uu,rfl,(by kernel_rfl)⟩
 ·rintro l' _ ⟨t3f,t4f,rfl,hq'⟩ l'' hl
  rw [hq'] at hl
  clear hq'
  simp only [S0,S1] at hl
  subst hl
  refine wh h8k ?_
  rcases zb f32 with ⟨e0e,f64⟩ | ⟨e0e,f3l⟩
  ·refine wp_cond_true (Ak (evb rfl e0e))<|wp_seq_k fun _ h4l=>Af<|sV2 (Ah (o':=0) BS rfl rfl) (dld EF ((q8.ext E3a).ext E4a)) ?_
   refine sV2 (Ah (o':=2) CZ rfl rfl) (Ai FM rfl (Bx.cell ((q8.ext E3a).ext E4a) rfl)) ?_
   refine scn f64 (Ad Ms (by rfl)) (GF x0.m x0.e A1 c2 w3 (tbx X2b hT) (n3.ext X2b)) fun r4v f5l w4 A6l c7l E1e n8l=>?_
   have X9l:=xtr X2b E1e
   refine ss BO ((q7b.ext E4a).ext E1e) fun w5 U5f q0m=>?_
   have X1m:=belU X9l U5f g2d
   refine wh h4l<|wp_ret ?_
   have n2m:=n8l.upd U5f ((q7b.ext E4a).ext E1e) (by decide)
   exact CV f5l rfl (Res.cellN rfl Aw q0m rfl rfl Res.nil) (Av X1m ⟨A6l,c7l,rfl,n2m⟩)
  ·refine wp_cond_false (Ak (evb rfl e0e))<|wp_skip<|h7k _ _<|wp_seq_k fun _ h3m=>wp_seq_k fun _ h4m=>Af<|sV (Aa rfl) ?_
   refine sb (Cn rfl rfl) fun z6f hz6f=>?_
   refine nrm ?_
   refine wh h4m ?_
   obtain ⟨m0a,h5m,f6m⟩:=Ac f3l
   refine Dm (fun l l' w'=>∃(t7f:Value) (t8f:Value) (t9f:Value) (t0g:Value) (t1g:Value) (t2g:Value) (t3g:Value) (t4g:Value) (t5g:Value) (t6g:Value) (t7g:Value) (A3c:Option Addr) (c4c:Nat),UpdS [b5] w3 w'∧Bx w' b5 119 [.bool m0a.2.1,.slice A3c (sz m0a.2.2.1) c4c,.int .i64 m0a.2.2.2]∧RU w' A3c c4c m0a.2.2.1∧l'=((((((((((((l.set 9 (.int .i64 m0a.1)).set 33 t7f).set 34 t8f).set 35 t9f).set 36 t0g).set 37 t1g).set 38 t2g).set 39 t3g).set 40 t4g).set 41 t5g).set 42 t6g).set 43 t7g)) ?_ ?_
   ·rcases zi hz6f h5m with ⟨e2e,_,f7m⟩ | ⟨e2e,_,f8m⟩
    ·refine wp_cond_true (Ak (evb rfl e2e))<|wp_seq_k fun _ h9m=>DK [11] 12 mo rfl fun w4 E5c S3e=>have X8g:=xtr X2b E5c;dA 0 rfl (fun _=>Ah (o':=0) BS rfl rfl) ?_
     refine dV 1 rfl (fun _ hw=>dld EF ((((q8.ext E3a).ext E4a).ext E5c).ext hw)) S3e ?_
     refine dA 2 rfl (fun _=>Aa rfl) ?_
     refine dA 3 rfl (fun _=>BA (c:=wi64 (2 - (wi64 (r2a - x1)))) rfl rfl rfl) ?_
     refine dA 5 rfl (fun _=>Ah (o':=2) CZ rfl rfl) ?_
     refine dV 6 rfl (fun _ hw=>Ai FM rfl (Bx.cell ((((q8.ext E3a).ext E4a).ext E5c).ext hw) rfl)) S3e ?_
     refine dA 7 rfl (fun _=>BA (c:=wi64 (x0.e - 2)) rfl rfl rfl) ?_
     refine dA 8 rfl (fun _=>Aa rfl) ?_
     refine dA 9 rfl (fun _=>Bj (c:=wi64 ((wi64 (x0.e - 2))+(wi64 (r2a - x1)))) rfl rfl rfl) ?_
     refine dcn f7m 4 rfl (by rfl) (Ad Pw (by rfl)) (Ka x0.m (wi64 (2 - (wi64 (r2a - x1)))) A1 c2 w4 (tbx X8g hT) (n3.ext X8g)) fun r7a f0n w5 A6c c7c E4e n1n=>?_
     have S5v:=S3e.trans E4e
     refine dA 10 rfl (fun _=>Bb (vals:=[(0,.agg #[.bool r7a.Neg,.slice A6c (sz r7a.Abs) c7c]),(1,.int .i64 (wi64 ((wi64 (x0.e - 2))+(wi64 (r2a - x1)))))]) (cells:=[.bool r7a.Neg,.slice A6c (sz r7a.Abs) c7c,.int .i64 (wi64 ((wi64 (x0.e - 2))+(wi64 (r2a - x1))))]) (by rfl) (by kernel_rfl)) ?_
     have q9g:=(((q8.ext E3a).ext E4a).ext E5c).ext E4e
     refine dkk 11 BO q9g fun w6 U0h q2n=>?_
     refine CE (by kernel_rfl) ?_
     refine h9m _ _<|Af<|sV (Ab rfl) ?_
     refine AK ?_
     obtain rfl:=sj f0n
     exact ⟨_,rfl,(.pointer (some ⟨b5,0,none⟩)),(.agg #[.bool x0.m.Neg,.slice A1 (sz x0.m.Abs) c2]),(.int .i64 (wi64 (r2a - x1))),(.int .i64 (wi64 (2 - (wi64 (r2a - x1))))),(.agg #[.bool r7a.Neg,.slice A6c (sz r7a.Abs) c7c]),(.pointer (some ⟨b5,2,none⟩)),(.int .i64 x0.e),(.int .i64 (wi64 (x0.e - 2))),(.int .i64 (wi64 (r2a - x1))),(.int .i64 (wi64 ((wi64 (x0.e - 2))+(wi64 (r2a - x1))))),(.agg #[.bool r7a.Neg,.slice A6c (sz r7a.Abs) c7c,.int .i64 (wi64 ((wi64 (x0.e - 2))+(wi64 (r2a - x1))))]),A6c,c7c,((((UpdS.refl _ _).ext E5c).ext E4e).upd U0h (.inl im0)),q2n,(n1n.upd U0h q9g (by decide)),(by kernel_rfl)⟩
    ·refine wp_cond_false (Ak (evb rfl e2e))<|wp_skip ?_
     obtain rfl:=sj f8m
     exact ⟨_,rfl,uu,uu,uu,uu,uu,uu,uu,uu,uu,uu,uu,A1,c2,(UpdS.refl _ _),((q8.ext E3a).ext E4a),(n3.ext X2b),(by kernel_rfl)⟩
   ·rintro l' w4 ⟨t7f,t8f,t9f,t0g,t1g,t2g,t3g,t4g,t5g,t6g,t7g,A3c,c4c,U1h,q3d,n2h,hq'⟩ l'' hl
    rw [hq'] at hl
    clear hq'
    simp only [S0,S1] at hl
    subst hl
    have X3h:=Jf X2b U1h (X2b).size (alc g7 al0)
    refine h3m _ _<|wp_seq_k fun _ h3n=>Af<|sV3 (Ah (o':=0) BS rfl rfl) (Ah (o':=1) Bt rfl rfl) (Ai Dk rfl (Bx.cell q3d rfl)) ?_
    refine sV (Aa rfl) ?_
    refine scn f6m (Ad NE (by rfl)) (GM m0a.2.2.1 m0a.1 A3c c4c w4 (tbx X3h hT) n2h) fun r4d f4n w5 A8c c9c E8b n5d=>?_
    have X5n:=xtr X3h E8b
    refine sV (Ab rfl) ?_
    refine wh h3n<|wp_seq_k fun _ h6n=>DK [] 8 mo rfl fun w6 E5a S4h=>have X5h:=xtr X5n E5a;dA 0 rfl (fun _=>Ah (o':=0) BS rfl rfl) ?_
    refine dA 1 rfl (fun _=>Ah (o':=1) Bt rfl rfl) ?_
    refine dV 2 rfl (fun _ hw=>Ai Dk rfl (Bx.cell (((q3d.ext E8b).ext E5a).ext hw) rfl)) S4h ?_
    refine dA 3 rfl (fun _=>Aa rfl) ?_
    refine dA 4 rfl (fun _=>Aa rfl) ?_
    refine dcn f4n 5 rfl (by rfl) (Ad Kj (by rfl)) (CX r4d m0a.1 A8c c9c w6 (tbx X5h hT) (n5d.ext E5a)) fun r7n f8n w7 A9n c0o E6a n1o=>?_
    have X6h:=xtr X5h E6a
    have S2o:=S4h.trans E6a
    have n3o:=((n2h.ext E8b).ext E5a).ext E6a
    refine dcn f8n 6 rfl (by rfl) (Ad Nr (by rfl)) (FY m0a.2.2.1 r7n A3c c4c A9n c0o w7 (tbx X6h hT) n3o n1o) fun r4o f5o w8 A6o c7o E8a n8o=>?_
    have X7h:=xtr X6h E8a
    have S6v:=S2o.trans E8a
    refine dA 7 rfl (fun _=>Ab rfl) ?_
    refine CE (by kernel_rfl) ?_
    refine h6n _ _<|wp_seq_k fun _ h9o=>Af<|sV2 (Aa rfl) (AG As rfl) ?_
    refine sb (CG rfl rfl) fun z8h hz8h=>?_
    refine nrm ?_
    refine sV (Aa rfl) ?_
    obtain ⟨m9h,h0p,f1p⟩:=Ac f5o
    refine BH 7 (fun l l' w'=>∃(t0i:Value) (t1i:Value),w8=w'∧l'=(((l.set 60 t0i).set 61 t1i).set 62 (.bool m9h))) ?_ ?_
    ·intro HJ179
     rcases zi hz8h h0p with ⟨e4b,_,f2p⟩ | ⟨e4b,_,f3p⟩
     ·refine sV (Aa rfl) ?_ (hw:=wgT rfl e4b)
      refine sb (Fq rfl) ?_ (hw:=wgT rfl e4b)
      intro z5e hz5e
      refine nrm ?_
      refine sV (AA (evb rfl e4b) rfl) ?_
      obtain rfl:z5e=decide (¬(x3=true)):=bz hz5e
      obtain rfl:=sj f2p
      exact HJ179 _ _ ⟨(.bool x3),(.bool (decide (¬(x3=true)))),rfl,(by kernel_rfl)⟩
     ·refine sQ rfl e4b ?_
      refine sQ rfl e4b ?_
      refine sV (AC (evb rfl e4b) rfl) ?_
      obtain rfl:=sj f3p
      exact HJ179 _ _ ⟨uu,uu,rfl,(by kernel_rfl)⟩
    ·rintro l' _ ⟨t0i,t1i,rfl,hq'⟩ l'' hl
     rw [hq'] at hl
     clear hq'
     simp only [S0,S1] at hl
     subst hl
     refine sV (Ab rfl) ?_
     refine wh h9o<|wp_seq_k fun _ h4p=>Af<|sV (Aa rfl) ?_
     refine CI (vals:=[(0,.int .u32 1)]) (cs:=[.int .u32 1]) As Au HM (by rfl) (by decide) (by kernel_rfl) fun b5p w9 E9a g6p q7p=>?_
     refine nrm ?_
     have g7v:=nlt X7h.size g6p
     have X2i:=xtr X7h E9a
     have n8p:=RL.lit1 q7p (by decide)
     refine sV2 (Aa rfl) (BA (c:=wi64 (m0a.1 - 1)) rfl rfl rfl) ?_
     refine scn f1p (Ad Kj (by rfl)) (CX 1 (wi64 (m0a.1 - 1)) (some ⟨b5p,0,none⟩) 1 w9 (tbx X2i hT) n8p) fun r9p f0q w3a A1q c2q E0b n3q=>?_
     have X3i:=xtr X2i E0b
     refine scr f0q (Ad NB (by rfl)) (GP r4o r9p A6o c7o A1q c2q w3a (tbx X3i hT) ((n8o.ext E9a).ext E0b) n3q) fun r8v f4q w2c E5b=>?_
     have X5q:=xtr X3i E5b
     refine sV (Ab rfl) ?_
     refine wh h4p<|wp_seq_k fun _ h6q=>wp_seq_k fun _ h7q=>Af<|sV (Aa rfl) ?_
     refine sb (CG rfl rfl) fun z4i hz4i=>?_
     refine nrm ?_
     refine sV (Aa rfl) ?_
     obtain ⟨m8q,h9q,f0r⟩:=Ac f4q
     refine BH 5 (fun l l' w'=>∃(t5i:Value),w2c=w'∧l'=((l.set 72 t5i).set 73 (.bool m8q))) ?_ ?_
     ·intro HJ220
      rcases zi hz4i h9q with ⟨e0d,_,f1r⟩ | ⟨e0d,_,f2r⟩
      ·refine sV (Aa rfl) ?_ (hw:=wgT rfl e0d)
       refine sV (AA (evb rfl e0d) rfl) ?_
       obtain rfl:=sj f1r
       exact HJ220 _ _ ⟨(.bool x3),rfl,(by kernel_rfl)⟩
      ·refine sQ rfl e0d ?_
       refine sV (AC (evb rfl e0d) rfl) ?_
       obtain rfl:=sj f2r
       exact HJ220 _ _ ⟨uu,rfl,(by kernel_rfl)⟩
     ·rintro l' _ ⟨t5i,rfl,hq'⟩ l'' hl
      rw [hq'] at hl
      clear hq'
      simp only [S0,S1] at hl
      subst hl
      refine wh h7q ?_
      obtain ⟨m6i,h3r,f4r⟩:=Ac f0r
      refine Dm (fun l l' w'=>w2c=w'∧l'=(l.set 13 (.int .i64 m6i))) ?_ ?_
      ·rcases zb h3r with ⟨e6e,f5r⟩ | ⟨e6e,f6r⟩
       ·refine wp_cond_true (Ak (evb rfl e6e))<|Af<|sV (Ab rfl) ?_
        refine AK ?_
        obtain rfl:=sj f5r
        exact ⟨_,rfl,rfl,(by kernel_rfl)⟩
       ·refine wp_cond_false (Ak (evb rfl e6e))<|wp_skip ?_
        obtain rfl:=sj f6r
        exact ⟨_,rfl,rfl,(by kernel_rfl)⟩
      ·rintro l' _ ⟨rfl,hq'⟩ l'' hl
       rw [hq'] at hl
       clear hq'
       simp only [S0,S1] at hl
       subst hl
       refine h6q _ _<|wp_seq_k fun _ h7r=>wp_seq_k fun _ h8r=>DK [] 17 mo rfl fun w7b E6b S7e=>have X7i:=xtr X5q E6b;dA 0 rfl (fun _=>Aa rfl) ?_
       refine dA 1 rfl (fun _=>Aa rfl) ?_
       refine dA 2 rfl (fun _=>Aa rfl) ?_
       refine dA 3 rfl (fun _=>AG As rfl) ?_
       refine dab 4 rfl (by kernel_rfl) (fun _ _ _ h=>h) (by rfl) (fun _=>Gm rfl rfl) fun z8i hz8i=>?_
       refine dnrm ?_
       refine dA 5 rfl (fun _=>Aa rfl) ?_
       obtain ⟨m9i,h9r,f0s⟩:=Ac f4r
       refine JQ #[true,true,true,true,true,true,true,true,true,true,true,true,false,false,false,false,false] 5 (fun l l' w'=>∃(t0j:Value) (t1j:Value) (t2j:Value) (t3j:Value) (t4j:Value),w7b=w'∧l'=((((((l.set 80 t0j).set 81 t1j).set 82 t2j).set 83 t3j).set 84 t4j).set 85 (.bool m9i))) ?_ ?_
       ·intro HJ272
        rcases zi hz8i h9r with ⟨e1a,_,f1s⟩ | ⟨e1a,_,f2s⟩
        ·refine dA 6 rfl (fun _=>Aa rfl) ?_ (hw:=wgT rfl e1a)
         have n3s:=((((((n5d.ext E5a).ext E6a).ext E8a).ext E9a).ext E0b).ext E5b).ext E6b
         obtain ⟨u6d,h4s,f5s⟩:=Ac f1s
         obtain ⟨bb282,oo283,hA6s,ia7s,ib8s,hc285⟩:=RL.nth n3s h4s
         refine dA 7 rfl (fun _=>AD As Au rfl rfl hA6s ia7s ib8s) ?_ (hw:=wgT rfl e1a)
         refine dV 8 rfl (fun _ hw=>Ai Bg rfl (DZ hc285 hw)) S7e ?_ (hw:=wgT rfl e1a)
         refine dA 9 rfl (fun _=>Ps (k:=.u32) rfl rfl) ?_ (hw:=wgT rfl e1a)
         refine dab 10 rfl (by kernel_rfl) (fun _ _ _ h=>h) (wgT rfl e1a) (fun _=>CG rfl rfl) fun z8e hz8e=>?_
         refine dnrm ?_
         refine dA 11 rfl (fun _=>AA (evb rfl e1a) rfl) ?_
         obtain rfl:z8e=decide ((u6d%2)=1):=bz hz8e
         obtain rfl:=sj f5s
         exact Cm (by kernel_rfl) (HJ272 _ _ ⟨(.slice A8c (sz r4d) c9c),(.pointer (some ⟨bb282,oo283+(0:Int).toNat,none⟩)),(.int .u32 u6d),(.int .u32 (u6d%2)),(.bool (decide ((u6d%2)=1))),rfl,(by kernel_rfl)⟩)
        ·refine dP 6 rfl ?_ (hw:=wgF rfl e1a)
         refine dP 7 rfl ?_ (hw:=wgF rfl e1a)
         refine dP 8 rfl ?_ (hw:=wgF rfl e1a)
         refine dP 9 rfl ?_ (hw:=wgF rfl e1a)
         refine dP 10 rfl ?_ (hw:=wgF rfl e1a)
         refine dA 11 rfl (fun _=>AC (evb rfl e1a) rfl) ?_
         obtain rfl:=sj f2s
         exact Cm (by kernel_rfl) (HJ272 _ _ ⟨uu,uu,uu,uu,uu,rfl,(by kernel_rfl)⟩)
       ·rintro l' _ ⟨t0j,t1j,t2j,t3j,t4j,rfl,hq'⟩ l'' hl
        rw [hq'] at hl
        clear hq'
        simp only [S0,S1] at hl
        subst hl
        refine dA 12 rfl (fun _=>Ah (o':=0) BS rfl rfl) ?_
        refine dA 13 rfl (fun _=>Ah (o':=0) En rfl rfl) ?_
        refine dV 14 rfl (fun _ hw=>Ai HZ rfl (Bx.cell (((((((((q3d.ext E8b).ext E5a).ext E6a).ext E8a).ext E9a).ext E0b).ext E5b).ext E6b).ext hw) rfl)) S7e ?_
        refine dA 15 rfl (fun _=>Aa rfl) ?_
        refine dcr f0s 16 rfl (by rfl) (Ad en_206 (by rfl)) (c_wide_Away m9h m6i m9i m0a.2.1 x2 w7b (tbx X7i hT)) fun r9v f9s w2d E9b=>?_
        have X7d:=xtr X7i E9b
        have S0w:=S7e.trans E9b
        refine CE (by kernel_rfl) ?_
        refine h8r _ _ ?_
        obtain ⟨m1d,h0t,f1t⟩:=Ac f9s
        refine Dm (fun l l' w'=>∃(A0c:Option Addr) (c1c:Nat) (t5j:Value) (t6j:Value) (t7j:Value),UpdS [] w2d w'∧RU w' A0c c1c m1d∧l'=((((l.set 10 (.slice A0c (sz m1d) c1c)).set 91 t5j).set 92 t6j).set 93 t7j)) ?_ ?_
        ·rcases zb h0t with ⟨e9e,f2t⟩ | ⟨e9e,f3t⟩
         ·refine wp_cond_true (Ak (evb rfl e9e))<|Af<|sV (Aa rfl) ?_
          refine CI (vals:=[(0,.int .u32 1)]) (cs:=[.int .u32 1]) As Au HM (by rfl) (by decide) (by kernel_rfl) fun b8j w1b E0f g4t q5t=>?_
          refine nrm ?_
          have g1w:=nlt X7d.size g4t
          have X6t:=xtr X7d E0f
          have n7t:=RL.lit1 q5t (by decide)
          have n8t:=((((((((n5d.ext E5a).ext E6a).ext E8a).ext E9a).ext E0b).ext E5b).ext E6b).ext E9b).ext E0f
          refine scn f2t (Ad PA (by rfl)) (HW r4d 1 A8c c9c (some ⟨b8j,0,none⟩) 1 w1b (tbx X6t hT) n8t n7t) fun r9t f0u w8d A9j c0k E1u n2u=>?_
          refine sV (Ab rfl) ?_
          refine AK ?_
          obtain rfl:=sj f0u
          exact ⟨_,rfl,A9j,c0k,(.slice A8c (sz r4d) c9c),(.slice (some ⟨b8j,0,none⟩) (sz 1) 1),(.slice A9j (sz r9t) c0k),(((UpdS.refl _ _).ext E0f).ext E1u),n2u,(by kernel_rfl)⟩
         ·refine wp_cond_false (Ak (evb rfl e9e))<|wp_skip ?_
          have n3u:=(((((((n5d.ext E5a).ext E6a).ext E8a).ext E9a).ext E0b).ext E5b).ext E6b).ext E9b
          obtain rfl:=sj f3t
          exact ⟨_,rfl,A8c,c9c,uu,uu,uu,(UpdS.refl _ _),n3u,(by kernel_rfl)⟩
        ·rintro l' w1b ⟨A0c,c1c,t5j,t6j,t7j,U1f,n4u,hq'⟩ l'' hl
         rw [hq'] at hl
         clear hq'
         simp only [S0,S1] at hl
         subst hl
         have X1k:=Jf X7d U1f (X7d).size al0
         refine h7r _ _<|wp_seq_k fun _ h5u=>Af<|sV2 (Ah (o':=0) BS rfl rfl) (Ah (o':=0) En rfl rfl) ?_
         have q2k:=(((((((((q3d.ext E8b).ext E5a).ext E6a).ext E8a).ext E9a).ext E0b).ext E5b).ext E6b).ext E9b).updS U1f nm0
         refine sV3 (Ai HZ rfl (Bx.cell q2k rfl)) (Aa rfl) (Bb (vals:=[(0,.bool m0a.2.1),(1,.slice A0c (sz m1d) c1c)]) (cells:=[.bool m0a.2.1,.slice A0c (sz m1d) c1c]) (by rfl) (by kernel_rfl)) ?_
         refine sV3 (Ah (o':=2) CZ rfl rfl) (Ai FM rfl (Bx.cell q2k rfl)) (Aa rfl) ?_
         refine sV (Bj (c:=wi64 (m0a.2.2.2+m0a.1)) rfl rfl rfl) ?_
         refine scn f1t (Ad Ms (by rfl)) (GF (⟨m0a.2.1,m1d⟩:Ae) (wi64 (m0a.2.2.2+m0a.1)) A0c c1c w1b (tbx X1k hT) n4u) fun r2w f6u w8d A7u c8u E3k n9u=>?_
         have X0v:=xtr X1k E3k
         have ne1v:=(Bx.ne q8 g2c).symm
         have q4k:=((((((((((((q7b.ext E4a).updS U1h (nmc ne1v nm0)).ext E8b).ext E5a).ext E6a).ext E8a).ext E9a).ext E0b).ext E5b).ext E6b).ext E9b).updS U1f nm0).ext E3k
         refine ss BO q4k fun w2a U5k q2v=>?_
         have X3v:=belU X0v U5k g2d
         refine wh h5u<|wp_ret ?_
         exact CV f6u rfl (Res.cellN rfl Aw q2v rfl rfl Res.nil) (Av X3v ⟨A7u,c8u,rfl,(n9u.upd U5k q4k (by decide))⟩)
theorem MD (x0:Aq) (x1:Int) (x2:Int) (A1:Option Addr) (c2:Nat) (w:World) (hT:TB w) (n3:RLu w A1 c2 x0.Man.Abs) (r:Ag × Int) (hr:JW x0 x1 x2=some r) :
  Calls Tryz.prog 55 #[.agg #[.bool x0.Man.Neg,.slice A1 x0.Man.Abs.length c2,.int .i64 x0.Exp],.int .i64 x1,.int .i64 x2] w (Ret Ob w r):=by
 unfold JW at hr
 obtain ⟨q0,hq0,hr0⟩:=Ac hr
 unfold Me at hq0
 go_enter_defers Tryz.func55,Tryz.ntmps55
 refine wp_seq_k fun _ h4=>Af<|Bm rfl rfl fun b5 w1 E6 g7 q8=>?_
 refine nrm ?_
 refine Ax Hq fun b9 w2 E1b g0d q6a=>?_
 refine nrm ?_
 have g2b:=nlt E6.size g0d
 have X1d:=xtr E6 E1b
 refine Ax Jk fun b3b w3 E4a g4e q7a=>?_
 refine nrm ?_
 have g4b:=nlt X1d.size g4e
 have X2d:=xtr X1d E4a
 refine wh h4<|wp_seq_k fun _ h5e=>Af<|Hw (vs:=[.pointer (some ⟨b9,0,none⟩),.pointer (some ⟨b3b,0,none⟩)]) (by rfl) (by rfl)<|wh h5e<|wp_seq_k fun _ h6e=>Af<|sV (Am BT rfl ((q8.ext E1b).ext E4a) rfl) ?_
 refine CI (vals:=[(0,.agg #[.bool x0.Man.Neg,.slice A1 x0.Man.Abs.length c2,.int .i64 x0.Exp])]) (cs:=[.bool x0.Man.Neg,.slice A1 x0.Man.Abs.length c2,.int .i64 x0.Exp]) KE FI Hq (by rfl) (by decide) (by kernel_rfl) fun b3d w4 E1a g7e q4d=>?_
 refine nrm ?_
 have g5i:=nlt X2d.size g7e
 have X8a:=xtr X2d E1a
 rcases AF hq0 with ⟨r5b,h2c,f8e⟩ | ⟨r5b,h2c,rfl⟩
 ·refine scO (Ad MP (by rfl)) (IB x0 b3d A1 c2 w4 (tbx X8a hT) (n3.ext X8a) q4d (.ok r5b) h2c) ?_
  rintro _ w5 E0a rfl
  refine nrm ?_
  have X6b:=xtr X8a E0a
  refine wh h6e<|wp_seq_k fun _ h9e=>Af<|sV (Aa rfl) ?_
  rcases AF f8e with ⟨r7b,h3c,f0f⟩ | ⟨r7b,h3c,rfl⟩
  ·refine scO (Ad Ip (by rfl)) (Dj x1 w5 (tbx X6b hT)  (.ok r7b) h3c) ?_
   rintro _ w6 E2a rfl
   refine nrm ?_
   have X8b:=xtr X6b E2a
   refine wh h9e<|wp_seq_k fun _ h1f=>Af<|sV (Aa rfl) ?_
   rcases AF f0f with ⟨r9b,h4c,f2f⟩ | ⟨r9b,h4c,rfl⟩
   ·refine scO (Ad QF (by rfl)) (Li x2 w6 (tbx X8b hT)  (.ok r9b) h4c) ?_
    rintro _ w7 E3a rfl
    refine nrm ?_
    have X5c:=xtr X8b E3a
    refine wh h1f<|wp_seq_k fun _ h3f=>Af<|have q4f:=(((((q8.ext E1b).ext E4a).ext E1a).ext E0a).ext E2a).ext E3a;sV (Am BT rfl q4f rfl) ?_
    obtain ⟨m5d,h5f,f6f⟩:=Ac f2f
    have hx6d:=AU h5f
    have n7f:RU w7 A1 c2 m5d:=by unfold RU;rw [hx6d];exact (n3.ext X5c)
    refine scn f6f (Ad KT (by simp only [sz,hx6d];rfl)) (Ig (⟨(⟨x0.Man.Neg,m5d⟩:Ae),x0.Exp⟩:Ag) A1 c2 w7 (tbx X5c hT) n7f) fun r8f f9f w8 A0g c1g E9a n2g=>?_
    have X7d:=xtr X5c E9a
    refine sV2 (Aa rfl) (Aa rfl) ?_
    refine scn f9f (Ad KP (by rfl)) (DD r8f x1 x2 false A0g c1g w8 (tbx X7d hT) n2g) fun r8d f3g w9 A9d c0e E0b n1e=>?_
    have X0c:=xtr X7d E0b
    rcases AF f3g with ⟨r1c,h6c,f4g⟩ | ⟨r1c,h6c,rfl⟩
    ·refine scO (Ad Ly (by rfl)) (Fx r8d A9d c0e w9 (tbx X0c hT) n1e (.ok r1c) h6c) ?_
     rintro _ w1b E5a ⟨A5g,c6g,rfl,n7g⟩
     refine nrm ?_
     have X8g:=xtr X0c E5a
     have q7c:=(((((((q6a.ext E4a).ext E1a).ext E0a).ext E2a).ext E3a).ext E9a).ext E0b).ext E5a
     refine ss FI q7c fun w0d U8c q9g=>?_
     have X0h:=belU X8g U8c g2b
     have ne2e:=(Bx.neT (((((((q7a.ext E1a).ext E0a).ext E2a).ext E3a).ext E9a).ext E0b).ext E5a) q7c (by decide))
     have q3e:=(((((((q7a.ext E1a).ext E0a).ext E2a).ext E3a).ext E9a).ext E0b).ext E5a).upd U8c ne2e
     refine ss GW q3e fun w6a U9c q1h=>?_
     have X2h:=belU X0h U9c g4b
     refine wh h3f<|wp_ret ?_
     have n3h:=(n7g.upd U8c q7c (by decide)).upd U9c q3e (by decide)
     obtain rfl:=sj f4g
     obtain rfl:=sj hr0
     exact Mj Hz KQ rfl (Res.cellN rfl BT (q9g.upd U9c (Ne.symm ne2e)) rfl rfl (Res.cell1 rfl BW (Bx.cell q1h rfl) Res.nil)) (Av X2h ⟨A5g,c6g,rfl,n3h⟩)
    ·refine scP (Ad Ly (by rfl)) (Fx r8d A9d c0e w9 (tbx X0c hT) n1e (.error r1c) h6c) fun w1b E5a=>?_
     have X4h:=xtr X0c E5a
     have q5h:=(((((((q6a.ext E4a).ext E1a).ext E0a).ext E2a).ext E3a).ext E9a).ext E0b).ext E5a
     have q6h:=((((((q7a.ext E1a).ext E0a).ext E2a).ext E3a).ext E9a).ext E0b).ext E5a
     refine Ir KQ (EU b9 b3b (.bool false:Value) (.slice none 0 0:Value) (.int .i64 0:Value) (.int .i64 0:Value) r1c q5h q6h) rfl ?_
     rintro w9 ⟨u9,q9,q9'⟩
     obtain rfl:=sj hr0
     exact ⟨_,(Res.cellN rfl BT q9 rfl rfl (Res.cell1 rfl BW (Bx.cell q9' rfl) Res.nil)),Av (u9.toExt X4h g2b g4b) ⟨none,0,rfl,RU.nil _⟩⟩
   ·refine scP (Ad QF (by rfl)) (Li x2 w6 (tbx X8b hT)  (.error r9b) h4c) fun w7 E3a=>?_
    have X7h:=xtr X8b E3a
    have q8h:=((((q6a.ext E4a).ext E1a).ext E0a).ext E2a).ext E3a
    have q9h:=(((q7a.ext E1a).ext E0a).ext E2a).ext E3a
    refine Ir KQ (EU b9 b3b (.bool false:Value) (.slice none 0 0:Value) (.int .i64 0:Value) (.int .i64 0:Value) r9b q8h q9h) rfl ?_
    rintro w9 ⟨u9,q9,q9'⟩
    obtain rfl:=sj hr0
    exact ⟨_,(Res.cellN rfl BT q9 rfl rfl (Res.cell1 rfl BW (Bx.cell q9' rfl) Res.nil)),Av (u9.toExt X7h g2b g4b) ⟨none,0,rfl,RU.nil _⟩⟩
  ·refine scP (Ad Ip (by rfl)) (Dj x1 w5 (tbx X6b hT)  (.error r7b) h3c) fun w6 E2a=>?_
   have X0i:=xtr X6b E2a
   have q1i:=(((q6a.ext E4a).ext E1a).ext E0a).ext E2a
   have q2i:=((q7a.ext E1a).ext E0a).ext E2a
   refine Ir KQ (EU b9 b3b (.bool false:Value) (.slice none 0 0:Value) (.int .i64 0:Value) (.int .i64 0:Value) r7b q1i q2i) rfl ?_
   rintro w9 ⟨u9,q9,q9'⟩
   obtain rfl:=sj hr0
   exact ⟨_,(Res.cellN rfl BT q9 rfl rfl (Res.cell1 rfl BW (Bx.cell q9' rfl) Res.nil)),Av (u9.toExt X0i g2b g4b) ⟨none,0,rfl,RU.nil _⟩⟩
 ·refine scP (Ad MP (by rfl)) (IB x0 b3d A1 c2 w4 (tbx X8a hT) (n3.ext X8a) q4d (.error r5b) h2c) fun w5 E0a=>?_
  have X3i:=xtr X8a E0a
  have q4i:=((q6a.ext E4a).ext E1a).ext E0a
  refine Ir KQ (EU b9 b3b (.bool false:Value) (.slice none 0 0:Value) (.int .i64 0:Value) (.int .i64 0:Value) r5b q4i ((q7a.ext E1a).ext E0a)) rfl ?_
  rintro w9 ⟨u9,q9,q9'⟩
  obtain rfl:=sj hr0
  exact ⟨_,(Res.cellN rfl BT q9 rfl rfl (Res.cell1 rfl BW (Bx.cell q9' rfl) Res.nil)),Av (u9.toExt X3i g2b g4b) ⟨none,0,rfl,RU.nil _⟩⟩
theorem Di (x0:Int) (x1:Int) (w:World) (hT:TB w) (r:Al) (hr:Ck x0 x1=some r) :
  Calls Tryz.prog 97 #[.int .i64 x0,.int .i64 x1] w (Ret KA w r):=by
 unfold Ck at hr
 go_enter Tryz.func97,Tryz.ntmps97
 refine wp_seq_k fun _ h1=>Af<|Ax Cv fun b2 w1 E3 g4 q5=>?_
 refine nrm ?_
 refine wh h1<|wp_seq_k fun _ h6=>Af<|sV (Aa rfl) ?_
 refine scn hr (Ad LC (by rfl)) (BM x0 0 w1 (tbx E3 hT)) fun r7 f9 w2 A3a c4a E0b n6b=>?_
 have X1b:=xtr E3 E0b
 refine Ax Hq fun b4d w3 E7b g2b q8b=>?_
 refine nrm ?_
 have g5d:=nlt X1b.size g2b
 refine ss FI q8b fun w4 U9b q0c=>?_
 have F5a:=belU E7b U9b g2b
 have X3b:=xtr X1b F5a
 refine wh h6<|wp_seq_k fun _ h1c=>Af<|sV (Aa rfl) ?_
 refine scn f9 (Ad LC (by rfl)) (BM x1 0 w4 (tbx X3b hT)) fun r0a f2c w5 A6a c7a E2a n3c=>?_
 have X4b:=xtr X3b E2a
 refine Ax Hq fun b6d w6 E4c g5b q5c=>?_
 refine nrm ?_
 have g7d:=nlt X4b.size g5b
 refine ss FI q5c fun w7 U6c q7c=>?_
 have F1a:=belU E4c U6c g5b
 have X8c:=xtr X4b F1a
 refine wh h1c<|wp_seq_k fun _ h9c=>Af<|sV3 (Am BT rfl ((q0c.ext E2a).ext F1a) rfl) (Am BT rfl q7c rfl) (Bb (vals:=[(0,.agg #[.bool r7.Man.Neg,.slice A3a (sz r7.Man.Abs) c4a,.int .i64 r7.Exp]),(1,.agg #[.bool r0a.Man.Neg,.slice A6a (sz r0a.Man.Abs) c7a,.int .i64 r0a.Exp])]) (cells:=[.bool r7.Man.Neg,.slice A3a (sz r7.Man.Abs) c4a,.int .i64 r7.Exp,.bool r0a.Man.Neg,.slice A6a (sz r0a.Man.Abs) c7a,.int .i64 r0a.Exp]) (by rfl) (by kernel_rfl)) ?_
 have q8a:=(((q5.ext E0b).ext F5a).ext E2a).ext F1a
 refine ss Bp q8a fun w8 U9a q0d=>?_
 have X1d:=belU X8c U9a g4
 refine wh h9c<|wp_ret ?_
 have n2d:=(((n6b.ext F5a).ext E2a).ext F1a).upd U9a q8a (by decide)
 have n3d:=(n3c.ext F1a).upd U9a q8a (by decide)
 exact CV f2c rfl (Res.cellN rfl AI q0d rfl rfl Res.nil) (Av X1d ⟨A3a,c4a,A6a,c7a,rfl,n2d,n3d⟩)
theorem AL (b b':Nat) (v0 v1 v2 v3 v4 v5:Value) (u:Value) (n:Int) {w:World} (qa:Bx w b 29 [v0,v1,v2,v3,v4,v5]) (qb:Bx w b' 33 [u]) :
  CallsD Tryz.prog 161 #[.pointer (some ⟨b,0,none⟩),.pointer (some ⟨b',0,none⟩)] (.panicking [entry 201 n]) w fun e u' w'=>e = .returned (.tuple #[])∧u' = .panicking [{ entry 201 n with recovered:=true }]∧(Upd2 b b' w w'∧Bx w' b 29 [.bool false,.slice none 0 0,.int .i64 0,.bool false,.slice none 0 0,.int .i64 0]∧Bx w' b' 33 [.int .i64 n]):=by
 refine JM Tryz.func161 rfl [.pointer (some ⟨b,0,none⟩),.pointer (some ⟨b',0,none⟩),uu,uu,uu,uu,uu,uu,uu,uu,uu,uu,uu,uu,uu,uu,uu,uu,uu,uu,uu,uu,uu,uu,uu,uu] (by simp [Tryz.ntmps161]) fun c₀ cs hu=>?_
 apply wpS_seq
 refine Rq hu rfl ?_
 simp only [S0,S1]
 refine wpS_of_wp<|wp_seq_k fun _ h1=>Af<|sV2 (Aa rfl) (Lx Ld rfl) ?_
 refine wh h1<|wp_cond_true (Ak (evb rfl rfl))<|wp_seq_k fun _ h2=>Af<|sV3 (Aa rfl) (KH MM rfl) (Aa rfl) ?_
 refine sV2 (Aj rfl rfl) (Aj rfl rfl) ?_
 refine Ax Nq fun b3 w1 E4 g5 q6=>?_
 refine nrm ?_
 have X7:=(Upd2.refl b b' w).ext E4
 refine ss No q6 fun w2 U8 q9=>?_
 have X3a:=X7.upd U8 (.inl g5)
 refine sV (Ab rfl) ?_
 refine wh h2<|wp_seq_k fun _ h9a=>wp_seq_k fun _ h0b=>Af<|sV2 (Aa rfl) (Mr rfl rfl rfl) ?_
 refine wh h0b<|wp_cond_false (Ak (evb rfl rfl))<|wp_skip<|h9a _ _<|wp_seq_k fun _ h1b=>Af<|Ax Cv fun b8c w3 E1a g2b q3b=>?_
 refine nrm ?_
 have g9c:=nlt X3a.size g2b
 have X4b:=X3a.ext E1a
 refine wh h1b<|DK [6,8] 9 mo rfl fun w4 E0a S5b=>have X6b:=X4b.ext E0a;dA 0 rfl (fun _=>Aa rfl) ?_
 refine dA 1 rfl (fun _=>Aa rfl) ?_
 refine dV 2 rfl (fun _ hw=>Am AI rfl ((q3b.ext E0a).ext hw) rfl) S5b ?_
 refine dA 3 rfl (fun _=>Ah (o':=0) LL rfl rfl) ?_
 refine dA 5 rfl (fun _=>Bv rfl) ?_
 refine JQ #[true,true,true,true,true,true,true,false,false] 2 (fun l l' w'=>UpdS [b] w4 w'∧Bx w' b 29 [.bool false,.slice none 0 0,.int .i64 0,.bool false,.slice none 0 0,.int .i64 0]∧l'=(l.set 23 (.int .i64 n))) ?_ ?_
 ·intro HJ38
  refine CP 4 6 (by kernel_rfl) ?_ ?_
  ·refine opV 4 rfl (by rfl) (Ai BW rfl (Bx.cell ((q9.ext E1a).ext E0a) rfl)) (dnrm ?_)
   refine AM 6 (by kernel_rfl) ?_
   ·have F7b:=belU E4 U8 g5
    refine opK 6 rfl (by decide) (by rfl) Bp rfl rfl (((qa.ext F7b).ext E1a).ext E0a) rfl rfl rfl rfl (by simp only [SP0,SP1,S0,S1,Nat.reduceAdd];rfl) fun w5 U8b q9b=>?_
    exact Cm (by kernel_rfl) (HJ38 _ _ ⟨((UpdS.refl _ _).upd U8b (.inl im0)),q9b,(by kernel_rfl)⟩)
  ·have F4a:=belU E4 U8 g5
   refine opK 6 rfl (by decide) (by rfl) Bp rfl rfl (((qa.ext F4a).ext E1a).ext E0a) rfl rfl rfl rfl (by simp only [SP0,SP1,S0,S1,Nat.reduceAdd];rfl) fun w5 U5a q0c=>?_
   refine AM 4 (by kernel_rfl) ?_
   ·have ne1c:=(Bx.neT ((q9.ext E1a).ext E0a) (((qa.ext F4a).ext E1a).ext E0a) (by decide))
    have q2c:=((q9.ext E1a).ext E0a).upd U5a ne1c
    refine opV 4 rfl (by rfl) (Ai BW rfl (Bx.cell q2c rfl)) (dnrm ?_)
    exact Cm (by kernel_rfl) (HJ38 _ _ ⟨((UpdS.refl _ _).upd U5a (.inl im0)),q0c,(by kernel_rfl)⟩)
 ·rintro l' w5 ⟨U6a,q3c,hq'⟩ l'' hl
  rw [hq'] at hl
  clear hq'
  simp only [S0,S1] at hl
  subst hl
  have X4c:=X6b.updS U6a (alc (.inr (.inl rfl)) al0)
  refine dA 7 rfl (fun _=>Bv rfl) ?_
  have F2a:=belU E4 U8 g5
  have ne7a:=(Bx.neT (((qb.ext F2a).ext E1a).ext E0a) (((qa.ext F2a).ext E1a).ext E0a) (by decide))
  have q5c:=(((qb.ext F2a).ext E1a).ext E0a).updS U6a (nmc ne7a nm0)
  refine dkk 8 GW q5c fun w6 U8a q6c=>?_
  have X7c:=X4c.upd U8a (.inr (.inr rfl))
  refine CE (by kernel_rfl) ?_
  exact Rw (by kernel_rfl) ⟨rfl,rfl,X7c,(q3c.upd U8a (Ne.symm ne7a)),q6c⟩
theorem Dl:Qt Tryz.prog 161:=by
 intro ar b b' w ha
 subst ha
 refine JM Tryz.func161 rfl [.pointer (some ⟨b,0,none⟩),.pointer (some ⟨b',0,none⟩),uu,uu,uu,uu,uu,uu,uu,uu,uu,uu,uu,uu,uu,uu,uu,uu,uu,uu,uu,uu,uu,uu,uu,uu] (by simp [Tryz.ntmps161]) fun c₀ cs hu=>?_
 apply wpS_seq
 refine Qr hu rfl ?_
 simp only [S0,S1]
 refine wpS_of_wp<|wp_seq_k fun _ h1=>Af<|sV2 (Aa rfl) (JY Ld rfl) ?_
 refine wh h1<|wp_cond_false (Ak (evb rfl rfl))<|wp_skip ?_
 exact PM hu (by kernel_rfl) ⟨rfl,rfl,rfl⟩
theorem c_wide_Int_Sign (x0:Ae) (A1:Option Addr) (c2:Nat) (w:World) (hT:TB w) (n3:RU w A1 c2 x0.Abs) (r:Int) (hr:IC x0=some r) :
  Calls Tryz.prog 182 #[.agg #[.bool x0.Neg,.slice A1 (sz x0.Abs) c2]] w (Ret HO w r):=by
 unfold IC at hr
 go_enter Tryz.func182,Tryz.ntmps182
 refine wp_seq_k fun _ h4=>Af<|Bm rfl rfl fun b5 w1 E6 g7 q8=>?_
 refine nrm ?_
 refine sV (Ab rfl) ?_
 refine wh h4<|wp_seq_k fun _ h9=>?_
 apply wp_block
 refine wp_seq_k fun _ h3a=>Af<|sV3 (Ah (o':=1) Bt rfl rfl) (Ai Dk rfl (Bx.cell q8 rfl)) (AG As rfl) ?_
 refine sb (CG rfl rfl) fun z2a hz2a=>?_
 refine nrm ?_
 refine sV (Ab rfl) ?_
 refine wh h3a ?_
 rcases zi hz2a hr with ⟨e1a,_,f4a⟩ | ⟨e1a,_,f32⟩
 ·refine wp_cond_true (Ak (evb rfl e1a))<|wp_seq_k fun _ h5a=>Af<|sV (Ab rfl) ?_
  refine wh h5a<|wp_ret ?_
  exact BG f4a E6 rfl
 ·refine wp_cond_false (Ak (evb rfl e1a))<|wp_seq_k fun _ h6a=>Af<|sV3 (Ah (o':=0) En rfl rfl) (Ai HZ rfl (Bx.cell q8 rfl)) (Ab rfl) ?_
  refine wh h6a ?_
  rcases bft x0.Neg with e0a | e0a
  ·have p7a:=e0a
   have f8a:=ifP p7a f32
   refine wp_cond_true (Ak (evb rfl e0a))<|wp_seq_k fun _ h9a=>Af<|sV (Ab rfl) ?_
   refine wh h9a<|wp_ret ?_
   exact BG f8a E6 rfl
  ·have p0b:=bF e0a
   have f1b:=ifN p0b f32
   refine wp_cond_false (Ak (evb rfl e0a))<|wp_skip<|h9 _ _<|wp_seq_k fun _ h2b=>Af<|sV (Ab rfl) ?_
   refine wh h2b<|wp_ret ?_
   exact BG f1b E6 rfl
theorem CY (x0:An) (A1:Option Addr) (c2:Nat) (w:World) (hT:TB w) (n3:RU w A1 c2 x0.m.Abs) (r:Int) (hr:Bo x0=some r) :
  Calls Tryz.prog 103 #[.agg #[.bool x0.m.Neg,.slice A1 (sz x0.m.Abs) c2,.int .i64 x0.e]] w (Ret HO w r):=by
 unfold Bo at hr
 go_enter Tryz.func103,Tryz.ntmps103
 refine wp_seq_k fun _ h4=>Af<|Bm rfl rfl fun b5 w1 E6 g7 q8=>?_
 refine nrm ?_
 refine sV (Ab rfl) ?_
 refine wh h4<|wp_seq_k fun _ h9=>Af<|sV2 (Ah (o':=0) BS rfl rfl) (dld EF q8) ?_
 refine scr hr (Ad en_182 (by rfl)) (c_wide_Int_Sign x0.m A1 c2 w1 (tbx E6 hT) (n3.ext E6)) fun r3a f0a w2 E1a=>?_
 have X2a:=xtr E6 E1a
 refine sV (Ab rfl) ?_
 refine wh h9<|wp_ret ?_
 exact BG f0a X2a rfl
theorem LM (x0:Int) (x1:Int) (w:World) (hT:TB w) (r:Int) (hr:Fv x0 x1=some r) :
  Calls Tryz.prog 187 #[.int .i64 x0,.int .i64 x1] w (Ret HO w r):=by
 unfold Fv at hr
 go_enter Tryz.func187,Tryz.ntmps187
 refine wp_seq_k fun _ h1=>Af<|sV (Ab rfl) ?_
 refine wh h1<|wp_seq_k fun _ h2=>?_
 apply wp_block
 refine wp_seq_k fun _ h3=>Af<|sV2 (Aa rfl) (Aa rfl) ?_
 refine sb (Cn rfl rfl) fun z4 hz4=>?_
 refine nrm ?_
 refine sV (Ab rfl) ?_
 refine wh h3 ?_
 rcases zi hz4 hr with ⟨e0a,_,f3a⟩ | ⟨e0a,_,f4a⟩
 ·refine wp_cond_true (Ak (evb rfl e0a))<|wp_seq_k fun _ h5a=>Af<|sV (Ab rfl) ?_
  refine wh h5a<|wp_ret ?_
  exact BG f3a (Ext.refl _) rfl
 ·refine wp_cond_false (Ak (evb rfl e0a))<|wp_seq_k fun _ h6a=>Af<|sV2 (Aa rfl) (Aa rfl) ?_
  refine sb (Gm rfl rfl) fun z2a hz2a=>?_
  refine nrm ?_
  refine sV (Ab rfl) ?_
  refine wh h6a ?_
  rcases zi hz2a f4a with ⟨e1a,_,f7a⟩ | ⟨e1a,_,f8a⟩
  ·refine wp_cond_true (Ak (evb rfl e1a))<|wp_seq_k fun _ h9a=>Af<|sV (Ab rfl) ?_
   refine wh h9a<|wp_ret ?_
   exact BG f7a (Ext.refl _) rfl
  ·refine wp_cond_false (Ak (evb rfl e1a))<|wp_skip<|h2 _ _<|wp_seq_k fun _ h0b=>Af<|sV (Ab rfl) ?_
   refine wh h0b<|wp_ret ?_
   exact BG f8a (Ext.refl _) rfl
theorem Ge (x0:An) (A1:Option Addr) (c2:Nat) (w:World) (hT:TB w) (n3:RU w A1 c2 x0.m.Abs) (r:Int) (hr:DA x0=some r) :
  Calls Tryz.prog 122 #[.agg #[.bool x0.m.Neg,.slice A1 (sz x0.m.Abs) c2,.int .i64 x0.e]] w (Ret HO w r):=by
 unfold DA at hr
 go_enter Tryz.func122,Tryz.ntmps122
 refine wp_seq_k fun _ h4=>Af<|Bm rfl rfl fun b5 w1 E6 g7 q8=>?_
 refine nrm ?_
 refine sV (Ab rfl) ?_
 refine wh h4<|wp_seq_k fun _ h9=>DK [] 9 mo rfl fun w2 E0a S1a=>have X2a:=xtr E6 E0a;dA 0 rfl (fun _=>Ah (o':=0) BS rfl rfl) ?_
 refine dA 1 rfl (fun _=>Ah (o':=1) Bt rfl rfl) ?_
 refine dV 2 rfl (fun _ hw=>Ai Dk rfl (Bx.cell ((q8.ext E0a).ext hw) rfl)) S1a ?_
 refine dA 5 rfl (fun _=>Ah (o':=2) CZ rfl rfl) ?_
 refine dV 6 rfl (fun _ hw=>Ai FM rfl (Bx.cell ((q8.ext E0a).ext hw) rfl)) S1a ?_
 refine dcr hr 3 rfl (by rfl) (Ad Mq (by rfl)) (Ef x0.m.Abs A1 c2 w2 (tbx X2a hT) (n3.ext X2a)) fun r3a f5a w3 E4a=>?_
 have X6a:=xtr X2a E4a
 have S7a:=S1a.trans E4a
 refine dA 4 rfl (fun _=>BA (c:=wi64 (r3a - 1)) rfl rfl rfl) ?_
 refine dA 7 rfl (fun _=>Bj (c:=wi64 ((wi64 (r3a - 1))+x0.e)) rfl rfl rfl) ?_
 refine dA 8 rfl (fun _=>Ab rfl) ?_
 refine CE (by kernel_rfl) ?_
 refine h9 _ _<|wp_ret ?_
 exact BG f5a X6a rfl
theorem c_wide_Int_Minus (x0:Ae) (A1:Option Addr) (c2:Nat) (w:World) (hT:TB w) (n3:RU w A1 c2 x0.Abs) (r:Ae) (hr:GX x0=some r) :
  Calls Tryz.prog 192 #[.agg #[.bool x0.Neg,.slice A1 (sz x0.Abs) c2]] w (Ret MI w r):=by
 unfold GX at hr
 go_enter Tryz.func192,Tryz.ntmps192
 refine wp_seq_k fun _ h4=>Af<|Bm rfl rfl fun b5 w1 E6 g7 q8=>?_
 refine nrm ?_
 refine Ax HD fun b9 w2 E1a g2a q4a=>?_
 refine nrm ?_
 have g9a:=nlt E6.size g2a
 refine wh h4<|wp_seq_k fun _ h5a=>Af<|sV2 (Ah (o':=0) En rfl rfl) (Ai HZ rfl (Bx.cell (q8.ext E1a) rfl)) ?_
 refine sb (Fq rfl) fun z0a hz0a=>?_
 refine nrm ?_
 refine sV3 (Ah (o':=1) Bt rfl rfl) (Ai Dk rfl (Bx.cell (q8.ext E1a) rfl)) (Bb (vals:=[(0,.bool z0a),(1,.slice A1 (sz x0.Abs) c2)]) (cells:=[.bool z0a,.slice A1 (sz x0.Abs) c2]) (by rfl) (by kernel_rfl)) ?_
 refine ss Hd q4a fun w3 U6a q7a=>?_
 have F8a:=belU E1a U6a g2a
 have X3a:=xtr E6 F8a
 refine wh h5a<|wp_ret ?_
 obtain rfl:z0a=decide (¬(x0.Neg=true)):=bz hz0a
 exact CV hr rfl (Res.cellN rfl EF q7a rfl rfl Res.nil) (Av X3a ⟨A1,c2,rfl,(n3.ext X3a)⟩)
theorem Jp (x0:An) (A1:Option Addr) (c2:Nat) (w:World) (hT:TB w) (n3:RU w A1 c2 x0.m.Abs) (r:An) (hr:Em x0=some r) :
  Calls Tryz.prog 115 #[.agg #[.bool x0.m.Neg,.slice A1 (sz x0.m.Abs) c2,.int .i64 x0.e]] w (Ret IX w r):=by
 unfold Em at hr
 go_enter Tryz.func115,Tryz.ntmps115
 refine wp_seq_k fun _ h4=>Af<|Bm rfl rfl fun b5 w1 E6 g7 q8=>?_
 refine nrm ?_
 refine Ax Bn fun b9 w2 E3a g0b q8a=>?_
 refine nrm ?_
 have g1b:=nlt E6.size g0b
 have X2b:=xtr E6 E3a
 refine wh h4<|wp_seq_k fun _ h3b=>DK [6] 7 mo rfl fun w3 E0a S4a=>have X5a:=xtr X2b E0a;dA 0 rfl (fun _=>Ah (o':=0) BS rfl rfl) ?_
 refine dV 1 rfl (fun _ hw=>dld EF (((q8.ext E3a).ext E0a).ext hw)) S4a ?_
 refine dA 3 rfl (fun _=>Ah (o':=2) CZ rfl rfl) ?_
 refine dV 4 rfl (fun _ hw=>Ai FM rfl (Bx.cell (((q8.ext E3a).ext E0a).ext hw) rfl)) S4a ?_
 refine dcn hr 2 rfl (by rfl) (Ad en_192 (by rfl)) (c_wide_Int_Minus x0.m A1 c2 w3 (tbx X5a hT) (n3.ext X5a)) fun r1a f4b w4 A6a c7a E2a n5b=>?_
 have X6b:=xtr X5a E2a
 have S0c:=S4a.trans E2a
 refine dA 5 rfl (fun _=>Bb (vals:=[(0,.agg #[.bool r1a.Neg,.slice A6a (sz r1a.Abs) c7a]),(1,.int .i64 x0.e)]) (cells:=[.bool r1a.Neg,.slice A6a (sz r1a.Abs) c7a,.int .i64 x0.e]) (by rfl) (by kernel_rfl)) ?_
 refine dkk 6 BO ((q8a.ext E0a).ext E2a) fun w5 U9a q7b=>?_
 have X8b:=belU X6b U9a g1b
 refine CE (by kernel_rfl) ?_
 refine h3b _ _<|wp_ret ?_
 have n9b:=n5b.upd U9a ((q8a.ext E0a).ext E2a) (by decide)
 exact CV f4b rfl (Res.cellN rfl Aw q7b rfl rfl Res.nil) (Av X8b ⟨A6a,c7a,rfl,n9b⟩)
theorem c_wide_Int_Add (x0:Ae) (x1:Ae) (A1:Option Addr) (c2:Nat) (A4:Option Addr) (c5:Nat) (w:World) (hT:TB w) (n3:RU w A1 c2 x0.Abs) (n6:RU w A4 c5 x1.Abs) (r:Ae) (hr:Fl x0 x1=some r) :
  Calls Tryz.prog 196 #[.agg #[.bool x0.Neg,.slice A1 (sz x0.Abs) c2],.agg #[.bool x1.Neg,.slice A4 (sz x1.Abs) c5]] w (Ret MI w r):=by
 unfold Fl at hr
 go_enter Tryz.func196,Tryz.ntmps196
 refine wp_seq_k fun _ h7=>Af<|Bm rfl rfl fun b8 w1 E9 g0h q3a=>?_
 refine nrm ?_
 refine Bm rfl rfl fun b1h w2 E2a g0e q4a=>?_
 refine nrm ?_
 have g2h:=nlt E9.size g0e
 have X8c:=xtr E9 E2a
 refine Ax HD fun b3h w3 E0a g1e q9a=>?_
 refine nrm ?_
 have g7b:=nlt X8c.size g1e
 have X6a:=xtr X8c E0a
 refine wh h7<|wp_seq_k fun _ h2e=>wp_seq_k fun _ h3e=>Af<|sV3 (Ah (o':=0) En rfl rfl) (Ai HZ rfl (Bx.cell ((q3a.ext E2a).ext E0a) rfl)) (Ah (o':=0) En rfl rfl) ?_
 refine sV (Ai HZ rfl (Bx.cell (q4a.ext E0a) rfl)) ?_
 refine sb (PC Qv rfl rfl) fun z9c hz9c=>?_
 refine nrm ?_
 refine wh h3e ?_
 rcases zi hz9c hr with ⟨e8b,_,f4e⟩ | ⟨e8b,_,f5e⟩
 ·refine wp_cond_true (Ak (evb rfl e8b))<|wp_seq_k fun _ h6e=>DK [8] 9 mo rfl fun w4 E5a S0b=>have X1b:=xtr X6a E5a;dA 0 rfl (fun _=>Ah (o':=0) En rfl rfl) ?_
  refine dV 1 rfl (fun _ hw=>Ai HZ rfl (Bx.cell ((((q3a.ext E2a).ext E0a).ext E5a).ext hw) rfl)) S0b ?_
  refine dA 2 rfl (fun _=>Ah (o':=1) Bt rfl rfl) ?_
  refine dV 3 rfl (fun _ hw=>Ai Dk rfl (Bx.cell ((((q3a.ext E2a).ext E0a).ext E5a).ext hw) rfl)) S0b ?_
  refine dA 4 rfl (fun _=>Ah (o':=1) Bt rfl rfl) ?_
  refine dV 5 rfl (fun _ hw=>Ai Dk rfl (Bx.cell (((q4a.ext E0a).ext E5a).ext hw) rfl)) S0b ?_
  refine dcn f4e 6 rfl (by rfl) (Ad PA (by rfl)) (HW x0.Abs x1.Abs A1 c2 A4 c5 w4 (tbx X1b hT) (n3.ext X1b) (n6.ext X1b)) fun r0d f7e w5 A9b c0c E2b n8e=>?_
  have X9e:=xtr X1b E2b
  have S4h:=S0b.trans E2b
  refine dA 7 rfl (fun _=>Bb (vals:=[(0,.bool x0.Neg),(1,.slice A9b (sz r0d) c0c)]) (cells:=[.bool x0.Neg,.slice A9b (sz r0d) c0c]) (by rfl) (by kernel_rfl)) ?_
  refine dkk 8 Hd ((q9a.ext E5a).ext E2b) fun w6 U1d q0f=>?_
  have X1f:=belU X9e U1d g7b
  refine CE (by kernel_rfl) ?_
  refine h6e _ _<|wp_ret ?_
  have n2f:=n8e.upd U1d ((q9a.ext E5a).ext E2b) (by decide)
  exact CV f7e rfl (Res.cellN rfl EF q0f rfl rfl Res.nil) (Av X1f ⟨A9b,c0c,rfl,n2f⟩)
 ·refine wp_cond_false (Ak (evb rfl e8b))<|wp_skip<|h2e _ _<|wp_seq_k fun _ h3f=>wp_seq_k fun _ h4f=>Af<|sV3 (Ah (o':=1) Bt rfl rfl) (Ai Dk rfl (Bx.cell ((q3a.ext E2a).ext E0a) rfl)) (Ah (o':=1) Bt rfl rfl) ?_
  refine sV (Ai Dk rfl (Bx.cell (q4a.ext E0a) rfl)) ?_
  refine scr f5e (Ad NB (by rfl)) (GP x0.Abs x1.Abs A1 c2 A4 c5 w3 (tbx X6a hT) (n3.ext X6a) (n6.ext X6a)) fun r5h f5f w4 E1a=>?_
  have X2d:=xtr X6a E1a
  refine sb (FP rfl rfl) fun z3d hz3d=>?_
  refine nrm ?_
  refine wh h4f ?_
  rcases zi hz3d f5f with ⟨e1c,_,f6f⟩ | ⟨e1c,_,f7f⟩
  ·refine wp_cond_true (Ak (evb rfl e1c))<|wp_seq_k fun _ h8f=>DK [8] 9 mo rfl fun w5 E7a S3b=>have X4b:=xtr X2d E7a;dA 0 rfl (fun _=>Ah (o':=0) En rfl rfl) ?_
   refine dV 1 rfl (fun _ hw=>Ai HZ rfl (Bx.cell (((((q3a.ext E2a).ext E0a).ext E1a).ext E7a).ext hw) rfl)) S3b ?_
   refine dA 2 rfl (fun _=>Ah (o':=1) Bt rfl rfl) ?_
   refine dV 3 rfl (fun _ hw=>Ai Dk rfl (Bx.cell (((((q3a.ext E2a).ext E0a).ext E1a).ext E7a).ext hw) rfl)) S3b ?_
   refine dA 4 rfl (fun _=>Ah (o':=1) Bt rfl rfl) ?_
   refine dV 5 rfl (fun _ hw=>Ai Dk rfl (Bx.cell ((((q4a.ext E0a).ext E1a).ext E7a).ext hw) rfl)) S3b ?_
   refine dcn f6f 6 rfl (by rfl) (Ad Nr (by rfl)) (FY x0.Abs x1.Abs A1 c2 A4 c5 w5 (tbx X4b hT) (n3.ext X4b) (n6.ext X4b)) fun r4d f9f w6 A2c c3c E4c n0g=>?_
   have X1g:=xtr X4b E4c
   have S6h:=S3b.trans E4c
   refine dA 7 rfl (fun _=>Bb (vals:=[(0,.bool x0.Neg),(1,.slice A2c (sz r4d) c3c)]) (cells:=[.bool x0.Neg,.slice A2c (sz r4d) c3c]) (by rfl) (by kernel_rfl)) ?_
   have q5d:=((q9a.ext E1a).ext E7a).ext E4c
   refine dkk 8 Hd q5d fun w7 U6d q2g=>?_
   have X3g:=belU X1g U6d g7b
   refine CE (by kernel_rfl) ?_
   refine h8f _ _<|wp_ret ?_
   exact CV f9f rfl (Res.cellN rfl EF q2g rfl rfl Res.nil) (Av X3g ⟨A2c,c3c,rfl,(n0g.upd U6d q5d (by decide))⟩)
  ·refine wp_cond_false (Ak (evb rfl e1c))<|wp_skip<|h3f _ _<|wp_seq_k fun _ h4g=>DK [8] 9 mo rfl fun w5 E8a S5b=>have X6b:=xtr X2d E8a;dA 0 rfl (fun _=>Ah (o':=0) En rfl rfl) ?_
   refine dV 1 rfl (fun _ hw=>Ai HZ rfl (Bx.cell ((((q4a.ext E0a).ext E1a).ext E8a).ext hw) rfl)) S5b ?_
   refine dA 2 rfl (fun _=>Ah (o':=1) Bt rfl rfl) ?_
   refine dV 3 rfl (fun _ hw=>Ai Dk rfl (Bx.cell ((((q4a.ext E0a).ext E1a).ext E8a).ext hw) rfl)) S5b ?_
   refine dA 4 rfl (fun _=>Ah (o':=1) Bt rfl rfl) ?_
   refine dV 5 rfl (fun _ hw=>Ai Dk rfl (Bx.cell (((((q3a.ext E2a).ext E0a).ext E1a).ext E8a).ext hw) rfl)) S5b ?_
   refine dcn f7f 6 rfl (by rfl) (Ad Nr (by rfl)) (FY x1.Abs x0.Abs A4 c5 A1 c2 w5 (tbx X6b hT) (n6.ext X6b) (n3.ext X6b)) fun r7d f5g w6 A5c c6c E7c n6g=>?_
   have X7g:=xtr X6b E7c
   have S7h:=S5b.trans E7c
   refine dA 7 rfl (fun _=>Bb (vals:=[(0,.bool x1.Neg),(1,.slice A5c (sz r7d) c6c)]) (cells:=[.bool x1.Neg,.slice A5c (sz r7d) c6c]) (by rfl) (by kernel_rfl)) ?_
   have q8d:=((q9a.ext E1a).ext E8a).ext E7c
   refine dkk 8 Hd q8d fun w7 U9d q8g=>?_
   have X9g:=belU X7g U9d g7b
   refine CE (by kernel_rfl) ?_
   refine h4g _ _<|wp_ret ?_
   exact CV f5g rfl (Res.cellN rfl EF q8g rfl rfl Res.nil) (Av X9g ⟨A5c,c6c,rfl,(n6g.upd U9d q8d (by decide))⟩)
theorem c_dyad_num_plus_1 (x0:Ae) (x1:Ae) (x2:Int) (A1:Option Addr) (c2:Nat) (A4:Option Addr) (c5:Nat) (w:World) (hT:TB w) (n3:RU w A1 c2 x0.Abs) (n6:RU w A4 c5 x1.Abs) (r:An) (hr:DR x0 x1 x2=some r) :
  Calls Tryz.prog 195 #[.agg #[.bool x0.Neg,.slice A1 (sz x0.Abs) c2],.agg #[.bool x1.Neg,.slice A4 (sz x1.Abs) c5],.int .i64 x2] w (Ret IX w r):=by
 unfold DR at hr
 go_enter Tryz.func195,Tryz.ntmps195
 refine wp_seq_k fun _ h7=>Af<|Bm rfl rfl fun b8 w1 E9 g8c q9a=>?_
 refine nrm ?_
 refine Bm rfl rfl fun b9c w2 E4a g0b q1b=>?_
 refine nrm ?_
 have g0d:=nlt E9.size g0b
 have X5a:=xtr E9 E4a
 refine Ax Bn fun b1d w3 E1a g2b q6a=>?_
 refine nrm ?_
 have g3b:=nlt X5a.size g2b
 have X0a:=xtr X5a E1a
 refine wh h7<|wp_seq_k fun _ h4b=>Af<|sV2 (Am EF rfl ((q9a.ext E4a).ext E1a) rfl) (Am EF rfl (q1b.ext E1a) rfl) ?_
 refine scn hr (Ad en_196 (by rfl)) (c_wide_Int_Add x0 x1 A1 c2 A4 c5 w3 (tbx X0a hT) (n3.ext X0a) (n6.ext X0a)) fun r5b f6b w4 A7b c8b E2a n9b=>?_
 have X7a:=xtr X0a E2a
 refine sV (Aa rfl) ?_
 refine scn f6b (Ad Ms (by rfl)) (GF r5b x2 A7b c8b w4 (tbx X7a hT) n9b) fun r2d f0c w5 A1c c2c E3a n3c=>?_
 have X4c:=xtr X7a E3a
 refine ss BO ((q6a.ext E2a).ext E3a) fun w6 U8a q5c=>?_
 have X6c:=belU X4c U8a g3b
 refine wh h4b<|wp_ret ?_
 have n7c:=n3c.upd U8a ((q6a.ext E2a).ext E3a) (by decide)
 exact CV f0c rfl (Res.cellN rfl Aw q5c rfl rfl Res.nil) (Av X6c ⟨A1c,c2c,rfl,n7c⟩)
theorem c_dyad_aligned__dyad_num_plus_1 (x0:An) (x1:An) (A1:Option Addr) (c2:Nat) (A4:Option Addr) (c5:Nat) (w:World) (hT:TB w) (n3:RU w A1 c2 x0.m.Abs) (n6:RU w A4 c5 x1.m.Abs) (r:An) (hr:Bu x0 x1=some r) :
  Calls Tryz.prog 194 #[.agg #[.bool x0.m.Neg,.slice A1 (sz x0.m.Abs) c2,.int .i64 x0.e],.agg #[.bool x1.m.Neg,.slice A4 (sz x1.m.Abs) c5,.int .i64 x1.e],.func (.func 195) #[] #[]] w (Ret IX w r):=by
 unfold Bu at hr
 go_enter Tryz.func194,Tryz.ntmps194
 refine wp_seq_k fun _ h7=>Af<|Bm rfl rfl fun b8 w1 E9 g7l q1c=>?_
 refine nrm ?_
 refine Bm rfl rfl fun b5f w2 E2b g8l q2a=>?_
 refine nrm ?_
 have g8u:=nlt E9.size g8l
 have X6f:=xtr E9 E2b
 refine Ax Bn fun b9u w3 E0a g9l q8d=>?_
 refine nrm ?_
 have g0m:=nlt X6f.size g9l
 have X1m:=xtr X6f E0a
 refine wh h7<|wp_seq_k fun _ h2m=>Af<|sV3 (Ah (o':=2) CZ rfl rfl) (Ai FM rfl (Bx.cell ((q1c.ext E2b).ext E0a) rfl)) (Ah (o':=2) CZ rfl rfl) ?_
 refine sV3 (Ai FM rfl (Bx.cell (q2a.ext E0a) rfl)) (Qc rfl rfl) (Ab rfl) ?_
 refine wh h2m<|wp_seq_k fun _ h3m=>wp_seq_k fun _ h4m=>Af<|sV3 (Ah (o':=0) BS rfl rfl) (Ah (o':=1) Bt rfl rfl) (Ai Dk rfl (Bx.cell ((q1c.ext E2b).ext E0a) rfl)) ?_
 refine sV (AG As rfl) ?_
 refine sb (CG rfl rfl) fun z7f hz7f=>?_
 refine nrm ?_
 refine wh h4m ?_
 obtain ⟨m5m,h6m,f7m⟩:=Ac hr
 refine Dm (fun l l' w'=>∃(t8f:Value) (t9f:Value),w3=w'∧l'=(((l.set 7 (.int .i64 m5m)).set 20 t8f).set 21 t9f)) ?_ ?_
 ·rcases zi hz7f h6m with ⟨e9d,_,f8m⟩ | ⟨e9d,_,f9m⟩
  ·refine wp_cond_true (Ak (evb rfl e9d))<|Af<|sV3 (Ah (o':=2) CZ rfl rfl) (Ai FM rfl (Bx.cell (q2a.ext E0a) rfl)) (Ab rfl) ?_
   refine AK ?_
   obtain rfl:=sj f8m
   exact ⟨_,rfl,(.pointer (some ⟨b5f,2,none⟩)),(.int .i64 x1.e),rfl,(by kernel_rfl)⟩
  ·refine wp_cond_false (Ak (evb rfl e9d))<|wp_skip ?_
   obtain rfl:=sj f9m
   exact ⟨_,rfl,uu,uu,rfl,(by kernel_rfl)⟩
 ·rintro l' _ ⟨t8f,t9f,rfl,hq'⟩ l'' hl
  rw [hq'] at hl
  clear hq'
  simp only [S0,S1] at hl
  subst hl
  refine h3m _ _<|wp_seq_k fun _ h0n=>wp_seq_k fun _ h1n=>Af<|sV3 (Ah (o':=0) BS rfl rfl) (Ah (o':=1) Bt rfl rfl) (Ai Dk rfl (Bx.cell (q2a.ext E0a) rfl)) ?_
  refine sV (AG As rfl) ?_
  refine sb (CG rfl rfl) fun z0g hz0g=>?_
  refine nrm ?_
  refine wh h1n ?_
  obtain ⟨m6a,h2n,f3n⟩:=Ac f7m
  refine Dm (fun l l' w'=>∃(t1g:Value) (t2g:Value),w3=w'∧l'=(((l.set 7 (.int .i64 m6a)).set 27 t1g).set 28 t2g)) ?_ ?_
  ·rcases zi hz0g h2n with ⟨e0e,_,f64⟩ | ⟨e0e,_,f4n⟩
   ·refine wp_cond_true (Ak (evb rfl e0e))<|Af<|sV3 (Ah (o':=2) CZ rfl rfl) (Ai FM rfl (Bx.cell ((q1c.ext E2b).ext E0a) rfl)) (Ab rfl) ?_
    refine AK ?_
    obtain rfl:=sj f64
    exact ⟨_,rfl,(.pointer (some ⟨b8,2,none⟩)),(.int .i64 x0.e),rfl,(by kernel_rfl)⟩
   ·refine wp_cond_false (Ak (evb rfl e0e))<|wp_skip ?_
    obtain rfl:=sj f4n
    exact ⟨_,rfl,uu,uu,rfl,(by kernel_rfl)⟩
  ·rintro l' _ ⟨t1g,t2g,rfl,hq'⟩ l'' hl
   rw [hq'] at hl
   clear hq'
   simp only [S0,S1] at hl
   subst hl
   refine h0n _ _<|wp_seq_k fun _ h5n=>DK [6,7] 8 mo rfl fun w4 E1a S6n=>have X5a:=xtr X1m E1a;dA 0 rfl (fun _=>Ah (o':=0) BS rfl rfl) ?_
   refine dV 1 rfl (fun _ hw=>dld EF ((((q1c.ext E2b).ext E0a).ext E1a).ext hw)) S6n ?_
   refine dA 2 rfl (fun _=>Ah (o':=0) BS rfl rfl) ?_
   refine JQ #[true,true,true,true,true,true,true,false] 1 (fun l l' w'=>∃(b3b:Nat) (b4b:Nat),UpdS [] w4 w'∧w4.heap.size≤b3b∧Bx w' b3b 117 [.bool x0.m.Neg,.slice A1 (sz x0.m.Abs) c2]∧w4.heap.size≤b4b∧Bx w' b4b 117 [.bool false,.slice none 0 0]∧b3b≠b4b∧l'=(((l.set 8 (.pointer (some ⟨b3b,0,none⟩))).set 9 (.pointer (some ⟨b4b,0,none⟩))).set 32 (.agg #[.bool x1.m.Neg,.slice A4 (sz x1.m.Abs) c5]))) ?_ ?_
   ·intro HJ172
    refine Nn 3 4 5 (by kernel_rfl) ?_ ?_ ?_
    ·refine opV 3 rfl (by rfl) (dld EF ((q2a.ext E0a).ext E1a)) (dnrm ?_)
     refine CP 4 5 (by kernel_rfl) ?_ ?_
     ·refine opA 4 rfl (by rfl) (AP HD) fun b7n w5 E1e g2e q3g=>dnrm ?_
      have g0v:=nlt X5a.size g2e
      have X8n:=xtr X5a E1e
      refine AM 5 (by kernel_rfl) ?_
      ·refine opA 5 rfl (by rfl) (AP HD) fun b9n w6 E4g g3e q0o=>dnrm ?_
       have g1v:=nlt X8n.size g3e
       refine AM 6 (by kernel_rfl) ?_
       ·refine opK 6 rfl (by decide) (by rfl) Hd rfl rfl (q3g.ext E4g) rfl rfl rfl rfl (by simp only [SP0,SP1,S0,S1,Nat.reduceAdd];rfl) fun w7 U5g q1o=>?_
        have ne6g:=(Bx.ne q3g g3e).symm
        exact Cm (by kernel_rfl) (HJ172 _ _ ⟨b7n,b9n,((((UpdS.refl _ _).ext E1e).ext E4g).upd U5g (.inr (nlt (Nat.le_refl _) g2e))),(nlt (Nat.le_refl _) g2e),q1o,(nlt (nlt (Nat.le_refl _) E1e.size) g3e),(q0o.upd U5g ne6g),(Ne.symm ne6g),(by kernel_rfl)⟩)
     ·refine opA 5 rfl (by rfl) (AP HD) fun b2o w5 E1d g7g q8g=>dnrm ?_
      have g2v:=nlt X5a.size g7g
      have X3o:=xtr X5a E1d
      refine AM 4 (by kernel_rfl) ?_
      ·refine opA 4 rfl (by rfl) (AP HD) fun b4o w6 E9g g2d q5o=>dnrm ?_
       have g3v:=nlt X3o.size g2d
       refine AM 6 (by kernel_rfl) ?_
       ·refine opK 6 rfl (by decide) (by rfl) Hd rfl rfl q5o rfl rfl rfl rfl (by simp only [SP0,SP1,S0,S1,Nat.reduceAdd];rfl) fun w7 U0h q6o=>?_
        have ne1h:=(Bx.ne q8g g2d)
        exact Cm (by kernel_rfl) (HJ172 _ _ ⟨b4o,b2o,((((UpdS.refl _ _).ext E1d).ext E9g).upd U0h (.inr (nlt (nlt (Nat.le_refl _) E1d.size) g2d))),(nlt (nlt (Nat.le_refl _) E1d.size) g2d),q6o,(nlt (Nat.le_refl _) g7g),((q8g.ext E9g).upd U0h ne1h),(Ne.symm ne1h),(by kernel_rfl)⟩)
    ·refine opA 4 rfl (by rfl) (AP HD) fun b4e w5 E7a g5b q6b=>dnrm ?_
     have g4v:=nlt X5a.size g5b
     have X2h:=xtr X5a E7a
     refine CP 3 5 (by kernel_rfl) ?_ ?_
     ·have q7o:=((q2a.ext E0a).ext E1a).ext E7a
      refine opV 3 rfl (by rfl) (dld EF q7o) (dnrm ?_)
      refine AM 5 (by kernel_rfl) ?_
      ·refine opA 5 rfl (by rfl) (AP HD) fun b8o w6 E3h g5e q9o=>dnrm ?_
       have g5v:=nlt X2h.size g5e
       refine AM 6 (by kernel_rfl) ?_
       ·refine opK 6 rfl (by decide) (by rfl) Hd rfl rfl (q6b.ext E3h) rfl rfl rfl rfl (by simp only [SP0,SP1,S0,S1,Nat.reduceAdd];rfl) fun w7 U4h q0p=>?_
        have ne5h:=(Bx.ne q6b g5e).symm
        exact Cm (by kernel_rfl) (HJ172 _ _ ⟨b4e,b8o,((((UpdS.refl _ _).ext E7a).ext E3h).upd U4h (.inr (nlt (Nat.le_refl _) g5b))),(nlt (Nat.le_refl _) g5b),q0p,(nlt (nlt (Nat.le_refl _) E7a.size) g5e),(q9o.upd U4h ne5h),(Ne.symm ne5h),(by kernel_rfl)⟩)
     ·refine opA 5 rfl (by rfl) (AP HD) fun b6h w6 E0b g6c q7h=>dnrm ?_
      have g6v:=nlt X2h.size g6c
      refine CP 3 6 (by kernel_rfl) ?_ ?_
      ·have q1p:=(((q2a.ext E0a).ext E1a).ext E7a).ext E0b
       refine opV 3 rfl (by rfl) (dld EF q1p) (dnrm ?_)
       refine AM 6 (by kernel_rfl) ?_
       ·refine opK 6 rfl (by decide) (by rfl) Hd rfl rfl (q6b.ext E0b) rfl rfl rfl rfl (by simp only [SP0,SP1,S0,S1,Nat.reduceAdd];rfl) fun w7 U8h q2p=>?_
        have ne9h:=(Bx.ne q6b g6c).symm
        exact Cm (by kernel_rfl) (HJ172 _ _ ⟨b4e,b6h,((((UpdS.refl _ _).ext E7a).ext E0b).upd U8h (.inr (nlt (Nat.le_refl _) g5b))),(nlt (Nat.le_refl _) g5b),q2p,(nlt (nlt (Nat.le_refl _) E7a.size) g6c),(q7h.upd U8h ne9h),(Ne.symm ne9h),(by kernel_rfl)⟩)
      ·refine opK 6 rfl (by decide) (by rfl) Hd rfl rfl (q6b.ext E0b) rfl rfl rfl rfl (by simp only [SP0,SP1,S0,S1,Nat.reduceAdd];rfl) fun w7 U6e q3p=>?_
       refine AM 3 (by kernel_rfl) ?_
       ·have ne4p:=(Bx.neT ((((q2a.ext E0a).ext E1a).ext E7a).ext E0b) (q6b.ext E0b) (by decide))
        have q5p:=((((q2a.ext E0a).ext E1a).ext E7a).ext E0b).upd U6e ne4p
        refine opV 3 rfl (by rfl) (dld EF q5p) (dnrm ?_)
        have ne0i:=(Bx.ne q6b g6c).symm
        exact Cm (by kernel_rfl) (HJ172 _ _ ⟨b4e,b6h,((((UpdS.refl _ _).ext E7a).ext E0b).upd U6e (.inr (nlt (Nat.le_refl _) g5b))),(nlt (Nat.le_refl _) g5b),q3p,(nlt (nlt (Nat.le_refl _) E7a.size) g6c),(q7h.upd U6e ne0i),(Ne.symm ne0i),(by kernel_rfl)⟩)
    ·refine opA 5 rfl (by rfl) (AP HD) fun b7e w5 E3a g3d q2c=>dnrm ?_
     have g7v:=nlt X5a.size g3d
     have X1i:=xtr X5a E3a
     refine CP 3 4 (by kernel_rfl) ?_ ?_
     ·have q6p:=((q2a.ext E0a).ext E1a).ext E3a
      refine opV 3 rfl (by rfl) (dld EF q6p) (dnrm ?_)
      refine AM 4 (by kernel_rfl) ?_
      ·refine opA 4 rfl (by rfl) (AP HD) fun b7p w6 E2i g4d q8p=>dnrm ?_
       have g8v:=nlt X1i.size g4d
       refine AM 6 (by kernel_rfl) ?_
       ·refine opK 6 rfl (by decide) (by rfl) Hd rfl rfl q8p rfl rfl rfl rfl (by simp only [SP0,SP1,S0,S1,Nat.reduceAdd];rfl) fun w7 U3i q9p=>?_
        have ne4i:=(Bx.ne q2c g4d)
        exact Cm (by kernel_rfl) (HJ172 _ _ ⟨b7p,b7e,((((UpdS.refl _ _).ext E3a).ext E2i).upd U3i (.inr (nlt (nlt (Nat.le_refl _) E3a.size) g4d))),(nlt (nlt (Nat.le_refl _) E3a.size) g4d),q9p,(nlt (Nat.le_refl _) g3d),((q2c.ext E2i).upd U3i ne4i),(Ne.symm ne4i),(by kernel_rfl)⟩)
     ·refine opA 4 rfl (by rfl) (AP HD) fun b5i w6 E7b g8b q8e=>dnrm ?_
      have g9v:=nlt X1i.size g8b
      refine CP 3 6 (by kernel_rfl) ?_ ?_
      ·have q0q:=(((q2a.ext E0a).ext E1a).ext E3a).ext E7b
       refine opV 3 rfl (by rfl) (dld EF q0q) (dnrm ?_)
       refine AM 6 (by kernel_rfl) ?_
       ·refine opK 6 rfl (by decide) (by rfl) Hd rfl rfl q8e rfl rfl rfl rfl (by simp only [SP0,SP1,S0,S1,Nat.reduceAdd];rfl) fun w7 U6i q1q=>?_
        have ne7i:=(Bx.ne q2c g8b)
        exact Cm (by kernel_rfl) (HJ172 _ _ ⟨b5i,b7e,((((UpdS.refl _ _).ext E3a).ext E7b).upd U6i (.inr (nlt (nlt (Nat.le_refl _) E3a.size) g8b))),(nlt (nlt (Nat.le_refl _) E3a.size) g8b),q1q,(nlt (Nat.le_refl _) g3d),((q2c.ext E7b).upd U6i ne7i),(Ne.symm ne7i),(by kernel_rfl)⟩)
      ·refine opK 6 rfl (by decide) (by rfl) Hd rfl rfl q8e rfl rfl rfl rfl (by simp only [SP0,SP1,S0,S1,Nat.reduceAdd];rfl) fun w7 U9e q2q=>?_
       refine AM 3 (by kernel_rfl) ?_
       ·have ne3q:=(Bx.neT ((((q2a.ext E0a).ext E1a).ext E3a).ext E7b) q8e (by decide))
        have q4q:=((((q2a.ext E0a).ext E1a).ext E3a).ext E7b).upd U9e ne3q
        refine opV 3 rfl (by rfl) (dld EF q4q) (dnrm ?_)
        have ne8i:=(Bx.ne q2c g8b)
        exact Cm (by kernel_rfl) (HJ172 _ _ ⟨b5i,b7e,((((UpdS.refl _ _).ext E3a).ext E7b).upd U9e (.inr (nlt (nlt (Nat.le_refl _) E3a.size) g8b))),(nlt (nlt (Nat.le_refl _) E3a.size) g8b),q2q,(nlt (Nat.le_refl _) g3d),((q2c.ext E7b).upd U9e ne8i),(Ne.symm ne8i),(by kernel_rfl)⟩)
   ·rintro l' w5 ⟨b3b,b4b,U8a,g5q,q9b,g6q,q5d,ne9a,hq'⟩ l'' hl
    rw [hq'] at hl
    clear hq'
    simp only [S0,S1] at hl
    subst hl
    have g7q:=nlt X5a.size g5q
    have g9i:=nlt X5a.size g6q
    have X8q:=Jf X5a U8a (X5a).size al0
    refine dkk 7 Hd q5d fun w6 U4a q9q=>?_
    have X7c:=belU X8q U4a g9i
    refine CE (by kernel_rfl) ?_
    refine h5n _ _<|wp_seq_k fun _ h0r=>wp_seq_k fun _ h1r=>Af<|sV3 (Ah (o':=1) Bt rfl rfl) (Ai Dk rfl (Bx.cell (q9b.upd U4a ne9a) rfl)) (AG As rfl) ?_
    refine sb (Gm rfl rfl) fun z0j hz0j=>?_
    refine nrm ?_
    refine wh h1r ?_
    obtain ⟨m1b,h2r,f3r⟩:=Ac f3n
    refine Dm (fun l l' w'=>∃(t1j:Value) (t2j:Value) (t3j:Value) (t4j:Value) (t5j:Value) (t6j:Value) (A3c:Option Addr) (c4c:Nat),UpdS [b3b] w6 w'∧Bx w' b3b 117 [.bool m1b.1,.slice A3c (sz m1b.2) c4c]∧RU w' A3c c4c m1b.2∧l'=((((((l.set 37 t1j).set 38 t2j).set 39 t3j).set 40 t4j).set 41 t5j).set 42 t6j)) ?_ ?_
    ·rcases zi hz0j h2r with ⟨e0f,_,f4r⟩ | ⟨e0f,_,f5r⟩
     ·refine wp_cond_true (Ak (evb rfl e0f))<|Af<|sV2 (Am EF rfl (q9b.upd U4a ne9a) rfl) (Ah (o':=2) CZ rfl rfl) ?_
      have ne6r:=(Bx.neT ((((q1c.ext E2b).ext E0a).ext E1a).updS U8a nm0) q5d (by decide))
      have q7r:=((((q1c.ext E2b).ext E0a).ext E1a).updS U8a nm0).upd U4a ne6r
      refine sV3 (Ai FM rfl (Bx.cell q7r rfl)) (Aa rfl) (BA (c:=wi64 (x0.e - m6a)) rfl rfl rfl) ?_
      refine scn f4r (Ad Pw (by rfl)) (Ka x0.m (wi64 (x0.e - m6a)) A1 c2 w6 (tbx X7c hT) (n3.ext X7c)) fun r7j f8r w7 A8j c9j E1f n9r=>?_
      refine ss Hd ((q9b.upd U4a ne9a).ext E1f) fun w8 U0k q0s=>?_
      refine AK ?_
      have n1s:=n9r.upd U0k ((q9b.upd U4a ne9a).ext E1f) (by decide)
      obtain rfl:=sj f8r
      exact ⟨_,rfl,(.agg #[.bool x0.m.Neg,.slice A1 (sz x0.m.Abs) c2]),(.pointer (some ⟨b8,2,none⟩)),(.int .i64 x0.e),(.int .i64 m6a),(.int .i64 (wi64 (x0.e - m6a))),(.agg #[.bool r7j.Neg,.slice A8j (sz r7j.Abs) c9j]),A8j,c9j,(((UpdS.refl _ _).ext E1f).upd U0k (.inl im0)),q0s,n1s,(by kernel_rfl)⟩
     ·refine wp_cond_false (Ak (evb rfl e0f))<|wp_skip ?_
      obtain rfl:=sj f5r
      exact ⟨_,rfl,uu,uu,uu,uu,uu,uu,A1,c2,(UpdS.refl _ _),(q9b.upd U4a ne9a),(n3.ext X7c),(by kernel_rfl)⟩
    ·rintro l' w7 ⟨t1j,t2j,t3j,t4j,t5j,t6j,A3c,c4c,U6d,q2s,n3s,hq'⟩ l'' hl
     rw [hq'] at hl
     clear hq'
     simp only [S0,S1] at hl
     subst hl
     have X8c:=Jf X7c U6d (X7c).size (alc g7q al0)
     refine h0r _ _<|wp_seq_k fun _ h4s=>wp_seq_k fun _ h5s=>Af<|sV (Ah (o':=1) Bt rfl rfl) ?_
     have q5c:=q9q.updS U6d (nmc (Ne.symm ne9a) nm0)
     refine sV2 (Ai Dk rfl (Bx.cell q5c rfl)) (AG As rfl) ?_
     refine sb (Gm rfl rfl) fun z1k hz1k=>?_
     refine nrm ?_
     refine wh h5s ?_
     obtain ⟨m0c,h6s,f7s⟩:=Ac f3r
     refine Dm (fun l l' w'=>∃(t2k:Value) (t3k:Value) (t4k:Value) (t5k:Value) (t6k:Value) (t7k:Value) (A9c:Option Addr) (c0d:Nat),UpdS [b4b] w7 w'∧Bx w' b4b 117 [.bool m0c.1,.slice A9c (sz m0c.2) c0d]∧RU w' A9c c0d m0c.2∧l'=((((((l.set 47 t2k).set 48 t3k).set 49 t4k).set 50 t5k).set 51 t6k).set 52 t7k)) ?_ ?_
     ·rcases zi hz1k h6s with ⟨e2f,_,f8s⟩ | ⟨e2f,_,f9s⟩
      ·refine wp_cond_true (Ak (evb rfl e2f))<|Af<|sV2 (Am EF rfl q5c rfl) (Ah (o':=2) CZ rfl rfl) ?_
       have ne8k:=(Bx.neT (((q2a.ext E0a).ext E1a).updS U8a nm0) q5d (by decide))
       have ne0t:=(Bx.neT ((((q2a.ext E0a).ext E1a).updS U8a nm0).upd U4a ne8k) (q9b.upd U4a ne9a) (by decide))
       have q1t:=((((q2a.ext E0a).ext E1a).updS U8a nm0).upd U4a ne8k).updS U6d (nmc ne0t nm0)
       refine sV3 (Ai FM rfl (Bx.cell q1t rfl)) (Aa rfl) (BA (c:=wi64 (x1.e - m6a)) rfl rfl rfl) ?_
       refine scn f8s (Ad Pw (by rfl)) (Ka x1.m (wi64 (x1.e - m6a)) A4 c5 w7 (tbx X8c hT) (n6.ext X8c)) fun r9k f2t w8 A0l c1l E3f n3t=>?_
       refine ss Hd (q5c.ext E3f) fun w9 U2l q4t=>?_
       refine AK ?_
       have n5t:=n3t.upd U2l (q5c.ext E3f) (by decide)
       obtain rfl:=sj f2t
       exact ⟨_,rfl,(.agg #[.bool x1.m.Neg,.slice A4 (sz x1.m.Abs) c5]),(.pointer (some ⟨b5f,2,none⟩)),(.int .i64 x1.e),(.int .i64 m6a),(.int .i64 (wi64 (x1.e - m6a))),(.agg #[.bool r9k.Neg,.slice A0l (sz r9k.Abs) c1l]),A0l,c1l,(((UpdS.refl _ _).ext E3f).upd U2l (.inl im0)),q4t,n5t,(by kernel_rfl)⟩
      ·refine wp_cond_false (Ak (evb rfl e2f))<|wp_skip ?_
       obtain rfl:=sj f9s
       exact ⟨_,rfl,uu,uu,uu,uu,uu,uu,A4,c5,(UpdS.refl _ _),q5c,(n6.ext X8c),(by kernel_rfl)⟩
     ·rintro l' w8 ⟨t2k,t3k,t4k,t5k,t6k,t7k,A9c,c0d,U7d,q6t,n7t,hq'⟩ l'' hl
      rw [hq'] at hl
      clear hq'
      simp only [S0,S1] at hl
      subst hl
      have X3l:=Jf X8c U7d (X8c).size (alc g9i al0)
      refine h4s _ _<|wp_seq_k fun _ h8t=>Af<|sV3 (Aa rfl) (Am EF rfl (q2s.updS U7d (nmc ne9a nm0)) rfl) (Am EF rfl q6t rfl) ?_
      refine sV (Aa rfl) ?_
      have n9t:RU w8 A3c c4c m1b.2:=n3s.updS U7d (alc ⟨_,_,by decide,q5c⟩ al0)
      refine scn f7s (Ee (first:=[]) (cap:=[]) (args:=[.agg #[.bool m1b.1,.slice A3c (sz m1b.2) c4c],.agg #[.bool m0c.1,.slice A9c (sz m0c.2) c0d],.int .i64 m6a]) en_195 (by rfl) (by rfl)) (c_dyad_num_plus_1 (⟨m1b.1,m1b.2⟩:Ae) (⟨m0c.1,m0c.2⟩:Ae) m6a A3c c4c A9c c0d w8 (tbx X3l hT) n9t n7t) fun r0w f0u w9 A1u c2u E4l n3u=>?_
      have X4u:=xtr X3l E4l
      have ne4f:=(Bx.neT ((q8d.ext E1a).updS U8a nm0) q5d (by decide))
      have ne5u:=(Bx.neT (((q8d.ext E1a).updS U8a nm0).upd U4a ne4f) (q9b.upd U4a ne9a) (by decide))
      have q5l:=(((((q8d.ext E1a).updS U8a nm0).upd U4a ne4f).updS U6d (nmc ne5u nm0)).updS U7d (nmc ne4f nm0)).ext E4l
      refine ss BO q5l fun w7l U6l q6u=>?_
      have X7u:=belU X4u U6l g0m
      refine wh h8t<|wp_ret ?_
      exact CV f0u rfl (Res.cellN rfl Aw q6u rfl rfl Res.nil) (Av X7u ⟨A1u,c2u,rfl,(n3u.upd U6l q5l (by decide))⟩)
theorem JL (x0:An) (x1:An) (A1:Option Addr) (c2:Nat) (A4:Option Addr) (c5:Nat) (w:World) (hT:TB w) (n3:RU w A1 c2 x0.m.Abs) (n6:RU w A4 c5 x1.m.Abs) (r:An) (hr:Ca x0 x1=some r) :
  Calls Tryz.prog 124 #[.agg #[.bool x0.m.Neg,.slice A1 (sz x0.m.Abs) c2,.int .i64 x0.e],.agg #[.bool x1.m.Neg,.slice A4 (sz x1.m.Abs) c5,.int .i64 x1.e]] w (Ret IX w r):=by
 unfold Ca at hr
 go_enter Tryz.func124,Tryz.ntmps124
 refine wp_seq_k fun _ h7=>Af<|Bm rfl rfl fun b8 w1 E9 g1c q7a=>?_
 refine nrm ?_
 refine Bm rfl rfl fun b2c w2 E3a g8a q9a=>?_
 refine nrm ?_
 have g3c:=nlt E9.size g8a
 have X4a:=xtr E9 E3a
 refine Ax Bn fun b4c w3 E1a g0b q5a=>?_
 refine nrm ?_
 have g1b:=nlt X4a.size g0b
 have X0a:=xtr X4a E1a
 refine wh h7<|wp_seq_k fun _ h2b=>Af<|sV2 (Am Aw rfl ((q7a.ext E3a).ext E1a) rfl) (Am Aw rfl (q9a.ext E1a) rfl) ?_
 refine scn hr (Ad en_194 (by rfl)) (c_dyad_aligned__dyad_num_plus_1 x0 x1 A1 c2 A4 c5 w3 (tbx X0a hT) (n3.ext X0a) (n6.ext X0a)) fun r5c f3b w4 A4b c5b E2a n6b=>?_
 have X7b:=xtr X0a E2a
 refine ss BO (q5a.ext E2a) fun w5 U6a q8b=>?_
 have X9b:=belU X7b U6a g1b
 refine wh h2b<|wp_ret ?_
 have n0c:=n6b.upd U6a (q5a.ext E2a) (by decide)
 exact CV f3b rfl (Res.cellN rfl Aw q8b rfl rfl Res.nil) (Av X9b ⟨A4b,c5b,rfl,n0c⟩)
theorem BN (x0:An) (x1:An) (A1:Option Addr) (c2:Nat) (A4:Option Addr) (c5:Nat) (w:World) (hT:TB w) (n3:RU w A1 c2 x0.m.Abs) (n6:RU w A4 c5 x1.m.Abs) (r:Int) (hr:AH x0 x1=some r) :
  Calls Tryz.prog 106 #[.agg #[.bool x0.m.Neg,.slice A1 (sz x0.m.Abs) c2,.int .i64 x0.e],.agg #[.bool x1.m.Neg,.slice A4 (sz x1.m.Abs) c5,.int .i64 x1.e]] w (Ret HO w r):=by
 unfold AH at hr
 go_enter Tryz.func106,Tryz.ntmps106
 refine wp_seq_k fun _ h7=>Af<|Bm rfl rfl fun b8 w1 E9 g1b q4a=>?_
 refine nrm ?_
 refine Bm rfl rfl fun b6d w2 E6a g7d q2b=>?_
 refine nrm ?_
 have g1j:=nlt E9.size g7d
 have X8d:=xtr E9 E6a
 refine sV (Ab rfl) ?_
 refine wh h7<|wp_seq_k fun _ h9d=>wp_seq_k fun _ h0e=>DK [] 6 mo rfl fun w3 E0a S3b=>have X4b:=xtr X8d E0a;dV 0 rfl (fun _ hw=>Am Aw rfl (((q4a.ext E6a).ext E0a).ext hw) rfl) S3b ?_
 refine dV 2 rfl (fun _ hw=>Am Aw rfl ((q2b.ext E0a).ext hw) rfl) S3b ?_
 refine dcr hr 1 rfl (by rfl) (Ad Kf (by rfl)) (CY x0 A1 c2 w3 (tbx X4b hT) (n3.ext X4b)) fun r9a f1e w4 E1a=>?_
 have X5b:=xtr X4b E1a
 have S2e:=S3b.trans E1a
 refine dcr f1e 3 rfl (by rfl) (Ad Kf (by rfl)) (CY x1 A4 c5 w4 (tbx X5b hT) (n6.ext X5b)) fun r3e f4e w5 E2a=>?_
 have X6b:=xtr X5b E2a
 have S2j:=S2e.trans E2a
 refine dA 4 rfl (fun _=>Ab rfl) ?_
 refine dA 5 rfl (fun _=>Ab rfl) ?_
 refine CE (by kernel_rfl) ?_
 refine h0e _ _<|wp_seq_k fun _ h5e=>Af<|sV2 (Aa rfl) (Aa rfl) ?_
 refine sb (Ik rfl rfl) fun z7c hz7c=>?_
 refine nrm ?_
 refine sV (Aa rfl) ?_
 obtain ⟨m6e,h7e,f8e⟩:=Ac f4e
 refine BH 7 (fun l l' w'=>∃(t8c:Value) (t9c:Value),w5=w'∧l'=(((l.set 17 t8c).set 18 t9c).set 19 (.bool m6e))) ?_ ?_
 ·intro HJ49
  rcases zi hz7c h7e with ⟨e3a,_,f9e⟩ | ⟨e3a,_,f0f⟩
  ·refine sQ rfl e3a ?_
   refine sQ rfl e3a ?_
   refine sV (AA (evb rfl e3a) rfl) ?_
   obtain rfl:=sj f9e
   exact HJ49 _ _ ⟨uu,uu,rfl,(by kernel_rfl)⟩
  ·refine sV (Aa rfl) ?_ (hw:=wgT rfl e3a)
   refine sb (CG rfl rfl) ?_ (hw:=wgT rfl e3a)
   intro z7b hz7b
   refine nrm ?_
   refine sV (AC (evb rfl e3a) rfl) ?_
   obtain rfl:z7b=decide (r9a=0):=bz hz7b
   obtain rfl:=sj f0f
   exact HJ49 _ _ ⟨(.int .i64 r9a),(.bool (decide (r9a=0))),rfl,(by kernel_rfl)⟩
 ·rintro l' _ ⟨t8c,t9c,rfl,hq'⟩ l'' hl
  rw [hq'] at hl
  clear hq'
  simp only [S0,S1] at hl
  subst hl
  refine wh h5e ?_
  rcases zb f8e with ⟨e8b,f1f⟩ | ⟨e8b,f2f⟩
  ·refine wp_cond_true (Ak (evb rfl e8b))<|wp_seq_k fun _ h3f=>Af<|sV2 (Aa rfl) (Aa rfl) ?_
   refine scr f1f (Ad QU (by rfl)) (LM r9a r3e w5 (tbx X6b hT)) fun r3j f4f w6 E5f=>?_
   have X6f:=xtr X6b E5f
   refine sV (Ab rfl) ?_
   refine wh h3f<|wp_ret ?_
   exact BG f4f X6f rfl
  ·refine wp_cond_false (Ak (evb rfl e8b))<|wp_skip<|h9d _ _<|wp_seq_k fun _ h7f=>wp_seq_k fun _ h8f=>DK [] 6 mo rfl fun w6 E5a S9b=>have X0c:=xtr X6b E5a;dV 0 rfl (fun _ hw=>Am Aw rfl ((((((q4a.ext E6a).ext E0a).ext E1a).ext E2a).ext E5a).ext hw) rfl) S9b ?_
   refine dV 2 rfl (fun _ hw=>Am Aw rfl (((((q2b.ext E0a).ext E1a).ext E2a).ext E5a).ext hw) rfl) S9b ?_
   refine dcr f2f 1 rfl (by rfl) (Ad Mu (by rfl)) (Ge x0 A1 c2 w6 (tbx X0c hT) (n3.ext X0c)) fun r9f f0g w7 E7a=>?_
   have X1c:=xtr X0c E7a
   have S1g:=S9b.trans E7a
   refine dcr f0g 3 rfl (by rfl) (Ad Mu (by rfl)) (Ge x1 A4 c5 w7 (tbx X1c hT) (n6.ext X1c)) fun r2g f3g w8 E8a=>?_
   have X0b:=xtr X1c E8a
   have S4j:=S1g.trans E8a
   refine dA 4 rfl (fun _=>Ab rfl) ?_
   refine dA 5 rfl (fun _=>Ab rfl) ?_
   refine CE (by kernel_rfl) ?_
   refine h8f _ _<|wp_seq_k fun _ h4g=>Af<|sV2 (Aa rfl) (Aa rfl) ?_
   refine sb (Ik rfl rfl) fun z0d hz0d=>?_
   refine nrm ?_
   refine wh h4g ?_
   rcases zi hz0d f3g with ⟨e2c,_,f5g⟩ | ⟨e2c,_,f6g⟩
   ·refine wp_cond_true (Ak (evb rfl e2c))<|wp_seq_k fun _ h7g=>Af<|have q8g:=((((((q4a.ext E6a).ext E0a).ext E1a).ext E2a).ext E5a).ext E7a).ext E8a;sV (Am Aw rfl q8g rfl) ?_
    refine scr f5g (Ad Kf (by rfl)) (CY x0 A1 c2 w8 (tbx X0b hT) (n3.ext X0b)) fun r9g f0h w9 E1h=>?_
    have X1d:=xtr X0b E1h
    refine sV2 (Aa rfl) (Aa rfl) ?_
    refine scr f0h (Ad QU (by rfl)) (LM r9f r2g w9 (tbx X1d hT)) fun r2h f3h w1b E4h=>?_
    have X5h:=xtr X1d E4h
    refine sV2 (Lg (c:=wi64 (r9g*r2h)) rfl rfl rfl) (Ab rfl) ?_
    refine wh h7g<|wp_ret ?_
    exact BG f3h X5h rfl
   ·refine wp_cond_false (Ak (evb rfl e2c))<|wp_skip<|h7f _ _<|wp_seq_k fun _ h6h=>DK [] 6 mo rfl fun w9 E3c S4c=>have X5c:=xtr X0b E3c;dV 0 rfl (fun _ hw=>Am Aw rfl (((((((((q4a.ext E6a).ext E0a).ext E1a).ext E2a).ext E5a).ext E7a).ext E8a).ext E3c).ext hw) rfl) S4c ?_
    refine dV 1 rfl (fun _ hw=>Am Aw rfl ((((((((q2b.ext E0a).ext E1a).ext E2a).ext E5a).ext E7a).ext E8a).ext E3c).ext hw) rfl) S4c ?_
    refine dcn f6g 2 rfl (by rfl) (Ad PP (by rfl)) (Jp x1 A4 c5 w9 (tbx X5c hT) (n6.ext X5c)) fun r7h f8h w1b A9h c0i E2d n1i=>?_
    have X6c:=xtr X5c E2d
    have S2i:=S4c.trans E2d
    refine dcn f8h 3 rfl (by rfl) (Ad PF (by rfl)) (JL x0 r7h A1 c2 A9h c0i w1b (tbx X6c hT) (n3.ext X6c) n1i) fun r3i f4i w4a A5i c6i E3d n7i=>?_
    have X4d:=xtr X6c E3d
    have S8i:=S2i.trans E3d
    refine dcr f4i 4 rfl (by rfl) (Ad Kf (by rfl)) (CY r3i A5i c6i w4a (tbx X4d hT) n7i) fun r5j f9i w6d E5d=>?_
    have X0j:=xtr X4d E5d
    have S6j:=S8i.trans E5d
    refine dA 5 rfl (fun _=>Ab rfl) ?_
    refine CE (by kernel_rfl) ?_
    refine h6h _ _<|wp_ret ?_
    exact BG f9i X0j rfl
theorem Iv (x0:Ao) (A1:Option Addr) (c2:Nat) (A4:Option Addr) (c5:Nat) (w:World) (hT:TB w) (n3:RLu w A1 c2 x0.Lo.Man.Abs) (n6:RLu w A4 c5 x0.Hi.Man.Abs) (r:Bool) (hr:Br x0=some r) :
  Calls Tryz.prog 65 #[.agg #[.bool x0.Lo.Man.Neg,.slice A1 x0.Lo.Man.Abs.length c2,.int .i64 x0.Lo.Exp,.bool x0.Hi.Man.Neg,.slice A4 x0.Hi.Man.Abs.length c5,.int .i64 x0.Hi.Exp]] w (Ret FN w r):=by
 unfold Br at hr
 go_enter Tryz.func65,Tryz.ntmps65
 refine wp_seq_k fun _ h7=>Af<|Bm rfl rfl fun b8 w1 E9 g0f q3a=>?_
 refine nrm ?_
 refine sV (Ab rfl) ?_
 refine wh h7<|wp_seq_k fun _ h6a=>DK [] 19 mo rfl fun w2 E2a S2b=>have X7a:=xtr E9 E2a;dA 0 rfl (fun _=>Ah (o':=0) Jy rfl rfl) ?_
 refine dV 1 rfl (fun _ hw=>dld BT ((q3a.ext E2a).ext hw)) S2b ?_
 refine dcr hr 2 rfl (by rfl) (Ad NQ (by rfl)) (Ic x0.Lo A1 c2 w2 (tbx X7a hT) (n3.ext X7a)) fun r1f f3c w3 E3b=>?_
 have X4a:=xtr X7a E3b
 have S4b:=S2b.trans E3b
 refine dA 3 rfl (fun _=>Aa rfl) ?_
 rcases zb f3c with ⟨e1a,f4c⟩ | ⟨e1a,f5c⟩
 ·refine dA 4 rfl (fun _=>Ah (o':=3) Jv rfl rfl) ?_ (hw:=wgT rfl e1a)
  refine dV 5 rfl (fun _ hw=>dld BT ((q3a.ext E2a).ext hw)) S4b ?_ (hw:=wgT rfl e1a)
  refine dcr f4c 6 rfl (wgT rfl e1a) (Ad NQ (by rfl)) (Ic x0.Hi A4 c5 w3 (tbx X4a hT) (n6.ext X4a)) fun r2f f6c w4 E5b=>?_
  have X5a:=xtr X4a E5b
  have S8a:=S4b.trans E5b
  refine dA 7 rfl (fun _=>AA (evb rfl e1a) rfl) ?_
  refine dA 8 rfl (fun _=>Aa rfl) ?_
  rcases zb f6c with ⟨e0a,f7c⟩ | ⟨e0a,f8c⟩
  ·refine dA 9 rfl (fun _=>Ah (o':=0) Jy rfl rfl) ?_ (hw:=wgT rfl e0a)
   refine dV 10 rfl (fun _ hw=>dld BT ((q3a.ext E2a).ext hw)) S8a ?_ (hw:=wgT rfl e0a)
   refine dA 12 rfl (fun _=>Ah (o':=3) Jv rfl rfl) ?_ (hw:=wgT rfl e0a)
   refine dV 13 rfl (fun _ hw=>dld BT ((q3a.ext E2a).ext hw)) S8a ?_ (hw:=wgT rfl e0a)
   obtain ⟨m6b,h9c,f0d⟩:=Ac f7c
   have hx7b:=AU h9c
   have n1d:RU w4 A1 c2 m6b:=by unfold RU;rw [hx7b];exact (n3.ext X5a)
   refine dcn f0d 11 rfl (wgT rfl e0a) (Ad KT (by simp only [sz,hx7b];rfl)) (Ig (⟨(⟨x0.Lo.Man.Neg,m6b⟩:Ae),x0.Lo.Exp⟩:Ag) A1 c2 w4 (tbx X5a hT) n1d) fun r2d f3d w5 A4d c5d E8b n6d=>?_
   have X9a:=xtr X5a E8b
   have S7d:=S8a.trans E8b
   obtain ⟨m9b,h8d,f9d⟩:=Ac f3d
   have hx0c:=AU h8d
   have n0e:RU w5 A4 c5 m9b:=by unfold RU;rw [hx0c];exact (n6.ext X9a)
   refine dcn f9d 14 rfl (wgT rfl e0a) (Ad KT (by simp only [sz,hx0c];rfl)) (Ig (⟨(⟨x0.Hi.Man.Neg,m9b⟩:Ae),x0.Hi.Exp⟩:Ag) A4 c5 w5 (tbx X9a hT) n0e) fun r1e f2e w6 A3e c4e E0b n5e=>?_
   have X1c:=xtr X9a E0b
   have S6e:=S7d.trans E0b
   refine dcr f2e 15 rfl (wgT rfl e0a) (Ad HJ (by rfl)) (BN r2d r1e A4d c5d A3e c4e w6 (tbx X1c hT) (n6d.ext E0b) n5e) fun r7e f8e w7 E2c=>?_
   have X9e:=xtr X1c E2c
   have S3f:=S6e.trans E2c
   refine dab 16 rfl (by kernel_rfl) (fun _ _ _ h=>h) (wgT rfl e0a) (fun _=>Jh rfl rfl) fun z1b hz1b=>?_
   refine dnrm ?_
   refine dA 17 rfl (fun _=>AA (evb rfl e0a) rfl) ?_
   refine dA 18 rfl (fun _=>Ab rfl) ?_
   refine CE (by kernel_rfl) ?_
   refine h6a _ _<|wp_ret ?_
   obtain rfl:z1b=decide (r7e≤0):=bz hz1b
   exact BG f8e X9e rfl
  ·refine dP 9 rfl ?_ (hw:=wgF rfl e0a)
   refine dP 10 rfl ?_ (hw:=wgF rfl e0a)
   refine dP 11 rfl ?_ (hw:=wgF rfl e0a)
   refine dP 12 rfl ?_ (hw:=wgF rfl e0a)
   refine dP 13 rfl ?_ (hw:=wgF rfl e0a)
   refine dP 14 rfl ?_ (hw:=wgF rfl e0a)
   refine dP 15 rfl ?_ (hw:=wgF rfl e0a)
   refine dP 16 rfl ?_ (hw:=wgF rfl e0a)
   refine dA 17 rfl (fun _=>AC (evb rfl e0a) rfl) ?_
   refine dA 18 rfl (fun _=>Ab rfl) ?_
   refine CE (by kernel_rfl) ?_
   refine h6a _ _<|wp_ret ?_
   exact BG f8c X5a rfl
 ·refine dP 4 rfl ?_ (hw:=wgF rfl e1a)
  refine dP 5 rfl ?_ (hw:=wgF rfl e1a)
  refine dP 6 rfl ?_ (hw:=wgF rfl e1a)
  refine dA 7 rfl (fun _=>AC (evb rfl e1a) rfl) ?_
  refine dA 8 rfl (fun _=>Aa rfl) ?_
  refine dP 9 rfl ?_ (hw:=wgF rfl rfl)
  refine dP 10 rfl ?_ (hw:=wgF rfl rfl)
  refine dP 11 rfl ?_ (hw:=wgF rfl rfl)
  refine dP 12 rfl ?_ (hw:=wgF rfl rfl)
  refine dP 13 rfl ?_ (hw:=wgF rfl rfl)
  refine dP 14 rfl ?_ (hw:=wgF rfl rfl)
  refine dP 15 rfl ?_ (hw:=wgF rfl rfl)
  refine dP 16 rfl ?_ (hw:=wgF rfl rfl)
  refine dA 17 rfl (fun _=>AC (evb rfl rfl) rfl) ?_
  refine dA 18 rfl (fun _=>Ab rfl) ?_
  refine CE (by kernel_rfl) ?_
  refine h6a _ _<|wp_ret ?_
  exact BG f5c X4a rfl
theorem BP (x0_0:Ao) (x0_1:Ao) (bp0:Nat) (A1:Option Addr) (c2:Nat) (A4:Option Addr) (c5:Nat) (A7:Option Addr) (c8:Nat) (A5a:Option Addr) (c6a:Nat) (w:World) (hT:TB w) (n3:RLu w A1 c2 x0_0.Lo.Man.Abs) (n6:RLu w A4 c5 x0_0.Hi.Man.Abs) (n9:RLu w A7 c8 x0_1.Lo.Man.Abs) (n8b:RLu w A5a c6a x0_1.Hi.Man.Abs) (q2b:Bx w bp0 29 [.bool x0_0.Lo.Man.Neg,.slice A1 x0_0.Lo.Man.Abs.length c2,.int .i64 x0_0.Lo.Exp,.bool x0_0.Hi.Man.Neg,.slice A4 x0_0.Hi.Man.Abs.length c5,.int .i64 x0_0.Hi.Exp,.bool x0_1.Lo.Man.Neg,.slice A7 x0_1.Lo.Man.Abs.length c8,.int .i64 x0_1.Lo.Exp,.bool x0_1.Hi.Man.Neg,.slice A5a x0_1.Hi.Man.Abs.length c6a,.int .i64 x0_1.Hi.Exp]) (r:Except Int (Unit)) (hr:BC x0_0 x0_1=some r) :
  Calls Tryz.prog 162 #[.slice (some ⟨bp0,0,none⟩) 2 2] w (RetE 201 Lc w r):=by
 unfold BC at hr
 go_enter Tryz.func162,Tryz.ntmps162
 refine wp_seq_k fun _ h9b=>Af<|sV3 (Aa rfl) (AG Jn rfl) (Aa rfl) ?_
 refine wh h9b ?_
 apply wp_block
 refine Hh<|Bk<|wp_seq_k fun _ h0c=>Af<|sV (IN (v:=.bool true) (Cn rfl rfl) (by rfl)) ?_
 refine wh h0c<|wp_seq_k fun _ h1c=>wp_cond_true (Ak (evb rfl rfl))<|wp_skip<|h1c _ _<|wp_seq_k fun _ h2c=>?_
 apply wp_block
 refine wp_seq_k fun _ h3c=>Af<|sV (Ht (o':=0) Jn Bp rfl rfl (by decide) (by decide) (by decide)) ?_
 refine sV (dld AI q2b) ?_
 refine Ax Cv fun b8e w1 E4c g5c q6c=>?_
 refine nrm ?_
 refine ss Bp q6c fun w2 U7c q8c=>?_
 have F0a:=belU E4c U7c g5c
 refine wh h3c<|Af<|sV (Am AI rfl q8c rfl) ?_
 refine scr hr (Ad Pg (by rfl)) (Iv x0_0 A1 c2 A4 c5 w2 (tbx F0a hT) (n3.ext F0a) (n6.ext F0a)) fun r3b f9c w3 E4b=>?_
 have X1a:=xtr F0a E4b
 rcases AF f9c with ⟨r7a,h8a,f0d⟩ | ⟨r7a,h8a,rfl⟩
 ·refine scO (Ad DY (by rfl)) (AZ r3b 1 w3 (tbx X1a hT)  (.ok r7a) h8a) ?_
  rintro _ w4 E2a rfl
  refine nrm ?_
  have X5b:=xtr X1a E2a
  refine wh h2c<|Af<|sV (Bj (c:=1) rfl rfl (by decide)) ?_
  refine sV (Aa rfl) ?_
  refine AK<|Bk<|wp_seq_k fun _ h1d=>Af<|sV (IN (v:=.bool true) (Cn rfl rfl) (by rfl)) ?_
  refine wh h1d<|wp_seq_k fun _ h2d=>wp_cond_true (Ak (evb rfl rfl))<|wp_skip<|h2d _ _<|wp_seq_k fun _ h3d=>?_
  apply wp_block
  refine wp_seq_k fun _ h4d=>Af<|sV (Ht (o':=6) Jn Bp rfl rfl (by decide) (by decide) (by decide)) ?_
  have q5d:=((q2b.ext F0a).ext E4b).ext E2a
  refine sV (dld AI q5d) ?_
  refine Ax Cv fun b9e w5 E6d g6b q7d=>?_
  refine nrm ?_
  have g0f:=nlt X5b.size g6b
  refine ss Bp q7d fun w6 U8d q9d=>?_
  have F0e:=belU E6d U8d g6b
  have X3a:=xtr X5b F0e
  refine wh h4d<|Af<|sV (Am AI rfl q9d rfl) ?_
  refine scr f0d (Ad Pg (by rfl)) (Iv x0_1 A7 c8 A5a c6a w6 (tbx X3a hT) (n9.ext X3a) (n8b.ext X3a)) fun r7b f1e w7 E2e=>?_
  have X4a:=xtr X3a E2e
  rcases AF f1e with ⟨r9a,h0b,f3e⟩ | ⟨r9a,h0b,rfl⟩
  ·refine scO (Ad DY (by rfl)) (AZ r7b 1 w7 (tbx X4a hT)  (.ok r9a) h0b) ?_
   rintro _ w8 E1b rfl
   refine nrm ?_
   have X4e:=xtr X4a E1b
   refine wh h3d<|Af<|sV (Bj (c:=2) rfl rfl (by decide)) ?_
   refine sV (Aa rfl) ?_
   refine AK<|Bk<|wp_seq_k fun _ h5e=>Af<|sV (IN (v:=.bool false) (Cn rfl rfl) (by rfl)) ?_
   refine wh h5e<|wp_seq_k fun _ h1f=>wp_cond_false (Ak (evb rfl rfl))<|wp_exit ?_
   simp only [Exit.then,Exit.inBlock,↓reduceIte,Nat.reduceEqDiff]
   obtain rfl:=sj f3e
   exact Ng rfl Res.nil (DC X4e rfl)
  ·refine scP (Ad DY (by rfl)) (AZ r7b 1 w7 (tbx X4a hT)  (.error r9a) h0b) fun w8 E1b=>?_
   have X6e:=xtr X4a E1b
   exact ⟨rfl,BK X6e⟩
 ·refine scP (Ad DY (by rfl)) (AZ r3b 1 w3 (tbx X1a hT)  (.error r7a) h8a) fun w4 E2a=>?_
  have X7e:=xtr X1a E2a
  exact ⟨rfl,BK X7e⟩
theorem CN (x0:Al) (A1:Option Addr) (c2:Nat) (A4:Option Addr) (c5:Nat) (w:World) (hT:TB w) (n3:RU w A1 c2 x0.Lo.Man.Abs) (n6:RU w A4 c5 x0.Hi.Man.Abs) (r:Ap) (hr:Cj x0=some r) :
  Calls Tryz.prog 163 #[.agg #[.bool x0.Lo.Man.Neg,.slice A1 (sz x0.Lo.Man.Abs) c2,.int .i64 x0.Lo.Exp,.bool x0.Hi.Man.Neg,.slice A4 (sz x0.Hi.Man.Abs) c5,.int .i64 x0.Hi.Exp]] w (Ret Qq w r):=by
 unfold Cj at hr
 go_enter Tryz.func163,Tryz.ntmps163
 refine wp_seq_k fun _ h7=>Af<|Bm rfl rfl fun b8 w1 E9 g0d q5b=>?_
 refine nrm ?_
 refine Ax Rx fun b1d w2 E4a g6b q7b=>?_
 refine nrm ?_
 have g8b:=nlt E9.size g6b
 have X9b:=xtr E9 E4a
 refine wh h7<|wp_seq_k fun _ h0c=>DK [7] 8 mo rfl fun w3 E2a S5a=>have X6a:=xtr X9b E2a;dA 0 rfl (fun _=>Ah (o':=0) Jy rfl rfl) ?_
 refine dV 1 rfl (fun _ hw=>dld BT (((q5b.ext E4a).ext E2a).ext hw)) S5a ?_
 refine dA 3 rfl (fun _=>Ah (o':=3) Jv rfl rfl) ?_
 refine dV 4 rfl (fun _ hw=>dld BT (((q5b.ext E4a).ext E2a).ext hw)) S5a ?_
 refine dcn hr 2 rfl (by rfl) (Ad KT (by rfl)) (Ig x0.Lo A1 c2 w3 (tbx X6a hT) (n3.ext X6a)) fun r0a f1c w4 A7a c8a E9a n2c=>?_
 have X0b:=xtr X6a E9a
 have S3c:=S5a.trans E9a
 refine dcn f1c 5 rfl (by rfl) (Ad KT (by rfl)) (Ig x0.Hi A4 c5 w4 (tbx X0b hT) (n6.ext X0b)) fun r1a f4c w5 A1b c2b E3a n5c=>?_
 have X6c:=xtr X0b E3a
 have S2d:=S3c.trans E3a
 refine dA 6 rfl (fun _=>Bb (vals:=[(0,.agg #[.bool r0a.m.Neg,.slice A7a (sz r0a.m.Abs) c8a,.int .i64 r0a.e]),(1,.agg #[.bool r1a.m.Neg,.slice A1b (sz r1a.m.Abs) c2b,.int .i64 r1a.e])]) (cells:=[.bool r0a.m.Neg,.slice A7a (sz r0a.m.Abs) c8a,.int .i64 r0a.e,.bool r1a.m.Neg,.slice A1b (sz r1a.m.Abs) c2b,.int .i64 r1a.e]) (by rfl) (by kernel_rfl)) ?_
 have q3b:=((q7b.ext E2a).ext E9a).ext E3a
 refine dkk 7 QT q3b fun w6 U4b q7c=>?_
 have X8c:=belU X6c U4b g8b
 refine CE (by kernel_rfl) ?_
 refine h0c _ _<|wp_ret ?_
 have n9c:=(n2c.ext E3a).upd U4b q3b (by decide)
 exact CV f4c rfl (Res.cellN rfl Kz q7c rfl rfl Res.nil) (Av X8c ⟨A7a,c8a,A1b,c2b,rfl,n9c,(n5c.upd U4b q3b (by decide))⟩)
theorem c_wide_Int_Mul (x0:Ae) (x1:Ae) (A1:Option Addr) (c2:Nat) (A4:Option Addr) (c5:Nat) (w:World) (hT:TB w) (n3:RU w A1 c2 x0.Abs) (n6:RU w A4 c5 x1.Abs) (r:Ae) (hr:Je x0 x1=some r) :
  Calls Tryz.prog 193 #[.agg #[.bool x0.Neg,.slice A1 (sz x0.Abs) c2],.agg #[.bool x1.Neg,.slice A4 (sz x1.Abs) c5]] w (Ret MI w r):=by
 unfold Je at hr
 go_enter Tryz.func193,Tryz.ntmps193
 refine wp_seq_k fun _ h7=>Af<|Bm rfl rfl fun b8 w1 E9 g6c q9a=>?_
 refine nrm ?_
 refine Bm rfl rfl fun b7c w2 E6a g5b q0b=>?_
 refine nrm ?_
 have g8c:=nlt E9.size g5b
 have X1b:=xtr E9 E6a
 refine Ax HD fun b9c w3 E1a g6b q2b=>?_
 refine nrm ?_
 have g7b:=nlt X1b.size g6b
 have X8b:=xtr X1b E1a
 refine wh h7<|wp_seq_k fun _ h9b=>DK [11] 12 mo rfl fun w4 E0a S2a=>have X4a:=xtr X8b E0a;dA 0 rfl (fun _=>Ah (o':=0) En rfl rfl) ?_
 refine dV 1 rfl (fun _ hw=>Ai HZ rfl (Bx.cell ((((q9a.ext E6a).ext E1a).ext E0a).ext hw) rfl)) S2a ?_
 refine dA 2 rfl (fun _=>Ah (o':=0) En rfl rfl) ?_
 refine dV 3 rfl (fun _ hw=>Ai HZ rfl (Bx.cell (((q0b.ext E1a).ext E0a).ext hw) rfl)) S2a ?_
 refine dab 4 rfl (by kernel_rfl) (fun _ _ _ h=>h) (by rfl) (fun _=>Pu Qv rfl rfl) fun z3a hz3a=>?_
 refine dnrm ?_
 refine dA 5 rfl (fun _=>Ah (o':=1) Bt rfl rfl) ?_
 refine dV 6 rfl (fun _ hw=>Ai Dk rfl (Bx.cell ((((q9a.ext E6a).ext E1a).ext E0a).ext hw) rfl)) S2a ?_
 refine dA 7 rfl (fun _=>Ah (o':=1) Bt rfl rfl) ?_
 refine dV 8 rfl (fun _ hw=>Ai Dk rfl (Bx.cell (((q0b.ext E1a).ext E0a).ext hw) rfl)) S2a ?_
 refine dcn hr 9 rfl (by rfl) (Ad QR (by rfl)) (IW x0.Abs x1.Abs A1 c2 A4 c5 w4 (tbx X4a hT) (n3.ext X4a) (n6.ext X4a)) fun r3b f0c w5 A7a c8a E5a n1c=>?_
 have X2c:=xtr X4a E5a
 have S0d:=S2a.trans E5a
 refine dA 10 rfl (fun _=>Bb (vals:=[(0,.bool z3a),(1,.slice A7a (sz r3b) c8a)]) (cells:=[.bool z3a,.slice A7a (sz r3b) c8a]) (by rfl) (by kernel_rfl)) ?_
 refine dkk 11 Hd ((q2b.ext E0a).ext E5a) fun w6 U4b q3c=>?_
 have X4c:=belU X2c U4b g7b
 refine CE (by kernel_rfl) ?_
 refine h9b _ _<|wp_ret ?_
 obtain rfl:z3a=decide (¬x0.Neg=x1.Neg):=bz hz3a
 have n5c:=n1c.upd U4b ((q2b.ext E0a).ext E5a) (by decide)
 exact CV f0c rfl (Res.cellN rfl EF q3c rfl rfl Res.nil) (Av X4c ⟨A7a,c8a,rfl,n5c⟩)
theorem Ii (x0:An) (x1:An) (A1:Option Addr) (c2:Nat) (A4:Option Addr) (c5:Nat) (w:World) (hT:TB w) (n3:RU w A1 c2 x0.m.Abs) (n6:RU w A4 c5 x1.m.Abs) (r:An) (hr:DH x0 x1=some r) :
  Calls Tryz.prog 117 #[.agg #[.bool x0.m.Neg,.slice A1 (sz x0.m.Abs) c2,.int .i64 x0.e],.agg #[.bool x1.m.Neg,.slice A4 (sz x1.m.Abs) c5,.int .i64 x1.e]] w (Ret IX w r):=by
 unfold DH at hr
 go_enter Tryz.func117,Tryz.ntmps117
 refine wp_seq_k fun _ h7=>Af<|Bm rfl rfl fun b8 w1 E9 g2d q7a=>?_
 refine nrm ?_
 refine Bm rfl rfl fun b3d w2 E4a g3b q8a=>?_
 refine nrm ?_
 have g4d:=nlt E9.size g3b
 have X9a:=xtr E9 E4a
 refine Ax Bn fun b5d w3 E1a g4b q5b=>?_
 refine nrm ?_
 have g6b:=nlt X9a.size g4b
 have X7b:=xtr X9a E1a
 refine wh h7<|wp_seq_k fun _ h8b=>DK [11] 12 mo rfl fun w4 E0a S2a=>have X3a:=xtr X7b E0a;dA 0 rfl (fun _=>Ah (o':=0) BS rfl rfl) ?_
 refine dV 1 rfl (fun _ hw=>dld EF ((((q7a.ext E4a).ext E1a).ext E0a).ext hw)) S2a ?_
 refine dA 2 rfl (fun _=>Ah (o':=0) BS rfl rfl) ?_
 refine dV 3 rfl (fun _ hw=>dld EF (((q8a.ext E1a).ext E0a).ext hw)) S2a ?_
 refine dA 5 rfl (fun _=>Ah (o':=2) CZ rfl rfl) ?_
 refine dV 6 rfl (fun _ hw=>Ai FM rfl (Bx.cell ((((q7a.ext E4a).ext E1a).ext E0a).ext hw) rfl)) S2a ?_
 refine dA 7 rfl (fun _=>Ah (o':=2) CZ rfl rfl) ?_
 refine dV 8 rfl (fun _ hw=>Ai FM rfl (Bx.cell (((q8a.ext E1a).ext E0a).ext hw) rfl)) S2a ?_
 refine dA 9 rfl (fun _=>Bj (c:=wi64 (x0.e+x1.e)) rfl rfl rfl) ?_
 refine dcn hr 4 rfl (by rfl) (Ad en_193 (by rfl)) (c_wide_Int_Mul x0.m x1.m A1 c2 A4 c5 w4 (tbx X3a hT) (n3.ext X3a) (n6.ext X3a)) fun r9b f0c w5 A1c c2c E5a n3c=>?_
 have X0b:=xtr X3a E5a
 have S4c:=S2a.trans E5a
 refine dcn f0c 10 rfl (by rfl) (Ad Ms (by rfl)) (GF r9b (wi64 (x0.e+x1.e)) A1c c2c w5 (tbx X0b hT) n3c) fun r6d f5c w6 A6c c7c E6a n8c=>?_
 have X9c:=xtr X0b E6a
 have S7d:=S4c.trans E6a
 have q1b:=((q5b.ext E0a).ext E5a).ext E6a
 refine dkk 11 BO q1b fun w7 U2b q0d=>?_
 have X1d:=belU X9c U2b g6b
 refine CE (by kernel_rfl) ?_
 refine h8b _ _<|wp_ret ?_
 exact CV f5c rfl (Res.cellN rfl Aw q0d rfl rfl Res.nil) (Av X1d ⟨A6c,c7c,rfl,(n8c.upd U2b q1b (by decide))⟩)
theorem c_dyad_span_outward (x0:Ap) (x1:Int) (A1:Option Addr) (c2:Nat) (A4:Option Addr) (c5:Nat) (w:World) (hT:TB w) (n3:RU w A1 c2 x0.lo.m.Abs) (n6:RU w A4 c5 x0.hi.m.Abs) (r:Ap) (hr:Im x0 x1=some r) :
  Calls Tryz.prog 118 #[.agg #[.bool x0.lo.m.Neg,.slice A1 (sz x0.lo.m.Abs) c2,.int .i64 x0.lo.e,.bool x0.hi.m.Neg,.slice A4 (sz x0.hi.m.Abs) c5,.int .i64 x0.hi.e],.int .i64 x1] w (Ret Qq w r):=by
 unfold Im at hr
 go_enter Tryz.func118,Tryz.ntmps118
 refine wp_seq_k fun _ h7=>Af<|Bm rfl rfl fun b8 w1 E9 g0d q5b=>?_
 refine nrm ?_
 refine Ax Rx fun b1d w2 E4a g6b q7b=>?_
 refine nrm ?_
 have g8b:=nlt E9.size g6b
 have X9b:=xtr E9 E4a
 refine wh h7<|wp_seq_k fun _ h0c=>DK [9] 10 mo rfl fun w3 E2a S5a=>have X6a:=xtr X9b E2a;dA 0 rfl (fun _=>Ah (o':=0) Cl rfl rfl) ?_
 refine dV 1 rfl (fun _ hw=>dld Aw (((q5b.ext E4a).ext E2a).ext hw)) S5a ?_
 refine dA 2 rfl (fun _=>Aa rfl) ?_
 refine dA 4 rfl (fun _=>Ah (o':=3) Cw rfl rfl) ?_
 refine dV 5 rfl (fun _ hw=>dld Aw (((q5b.ext E4a).ext E2a).ext hw)) S5a ?_
 refine dA 6 rfl (fun _=>Aa rfl) ?_
 refine dcn hr 3 rfl (by rfl) (Ad KP (by rfl)) (DD x0.lo x1 5 false A1 c2 w3 (tbx X6a hT) (n3.ext X6a)) fun r0a f1c w4 A7a c8a E9a n2c=>?_
 have X0b:=xtr X6a E9a
 have S3c:=S5a.trans E9a
 refine dcn f1c 7 rfl (by rfl) (Ad KP (by rfl)) (DD x0.hi x1 4 false A4 c5 w4 (tbx X0b hT) (n6.ext X0b)) fun r1a f4c w5 A1b c2b E3a n5c=>?_
 have X6c:=xtr X0b E3a
 have S2d:=S3c.trans E3a
 refine dA 8 rfl (fun _=>Bb (vals:=[(0,.agg #[.bool r0a.m.Neg,.slice A7a (sz r0a.m.Abs) c8a,.int .i64 r0a.e]),(1,.agg #[.bool r1a.m.Neg,.slice A1b (sz r1a.m.Abs) c2b,.int .i64 r1a.e])]) (cells:=[.bool r0a.m.Neg,.slice A7a (sz r0a.m.Abs) c8a,.int .i64 r0a.e,.bool r1a.m.Neg,.slice A1b (sz r1a.m.Abs) c2b,.int .i64 r1a.e]) (by rfl) (by kernel_rfl)) ?_
 have q3b:=((q7b.ext E2a).ext E9a).ext E3a
 refine dkk 9 QT q3b fun w6 U4b q7c=>?_
 have X8c:=belU X6c U4b g8b
 refine CE (by kernel_rfl) ?_
 refine h0c _ _<|wp_ret ?_
 have n9c:=(n2c.ext E3a).upd U4b q3b (by decide)
 exact CV f4c rfl (Res.cellN rfl Kz q7c rfl rfl Res.nil) (Av X8c ⟨A7a,c8a,A1b,c2b,rfl,n9c,(n5c.upd U4b q3b (by decide))⟩)
theorem BX (x0:Ap) (A1:Option Addr) (c2:Nat) (A4:Option Addr) (c5:Nat) (w:World) (hT:TB w) (n3:RU w A1 c2 x0.lo.m.Abs) (n6:RU w A4 c5 x0.hi.m.Abs) (r:Except Int (Al)) (hr:Co x0=some r) :
  Calls Tryz.prog 107 #[.agg #[.bool x0.lo.m.Neg,.slice A1 (sz x0.lo.m.Abs) c2,.int .i64 x0.lo.e,.bool x0.hi.m.Neg,.slice A4 (sz x0.hi.m.Abs) c5,.int .i64 x0.hi.e]] w (RetE 201 KA w r):=by
 unfold Co at hr
 go_enter Tryz.func107,Tryz.ntmps107
 refine wp_seq_k fun _ h7=>Af<|Bm rfl rfl fun b8 w1 E9 g4d q7b=>?_
 refine nrm ?_
 refine Ax Cv fun b5d w2 E7a g8b q9b=>?_
 refine nrm ?_
 have g0c:=nlt E9.size g8b
 have X1c:=xtr E9 E7a
 refine wh h7<|wp_seq_k fun _ h2c=>DK [7] 8 mo rfl fun w3 E6a S8a=>have X2a:=xtr X1c E6a;dA 0 rfl (fun _=>Ah (o':=0) Cl rfl rfl) ?_
 refine dV 1 rfl (fun _ hw=>dld Aw (((q7b.ext E7a).ext E6a).ext hw)) S8a ?_
 refine dA 3 rfl (fun _=>Ah (o':=3) Cw rfl rfl) ?_
 refine dV 4 rfl (fun _ hw=>dld Aw (((q7b.ext E7a).ext E6a).ext hw)) S8a ?_
 rcases AF hr with ⟨r0a,h9a,f3c⟩ | ⟨r0a,h9a,rfl⟩
 ·refine dcO 2 rfl (by kernel_rfl) (by rfl) (Ad Ly (by rfl)) (Fx x0.lo A1 c2 w3 (tbx X2a hT) (n3.ext X2a) (.ok r0a) h9a) ?_
  rintro _ w4 E5a ⟨A0b,c1b,rfl,n4c⟩
  refine dnrm ?_
  have X3a:=xtr X2a E5a
  have S5c:=S8a.trans E5a
  rcases AF f3c with ⟨r1a,h2b,f6c⟩ | ⟨r1a,h2b,rfl⟩
  ·refine dcO 5 rfl (by kernel_rfl) (by rfl) (Ad Ly (by rfl)) (Fx x0.hi A4 c5 w4 (tbx X3a hT) (n6.ext X3a) (.ok r1a) h2b) ?_
   rintro _ w5 E4a ⟨A3b,c4b,rfl,n7c⟩
   refine dnrm ?_
   have X8c:=xtr X3a E4a
   have S6d:=S5c.trans E4a
   refine dA 6 rfl (fun _=>Bb (vals:=[(0,.agg #[.bool r0a.Man.Neg,.slice A0b (sz r0a.Man.Abs) c1b,.int .i64 r0a.Exp]),(1,.agg #[.bool r1a.Man.Neg,.slice A3b (sz r1a.Man.Abs) c4b,.int .i64 r1a.Exp])]) (cells:=[.bool r0a.Man.Neg,.slice A0b (sz r0a.Man.Abs) c1b,.int .i64 r0a.Exp,.bool r1a.Man.Neg,.slice A3b (sz r1a.Man.Abs) c4b,.int .i64 r1a.Exp]) (by rfl) (by kernel_rfl)) ?_
   have q5b:=((q9b.ext E6a).ext E5a).ext E4a
   refine dkk 7 Bp q5b fun w6 U6b q9c=>?_
   have X0d:=belU X8c U6b g0c
   refine CE (by kernel_rfl) ?_
   refine h2c _ _<|wp_ret ?_
   have n1d:=(n4c.ext E4a).upd U6b q5b (by decide)
   exact CV f6c rfl (Res.cellN rfl AI q9c rfl rfl Res.nil) (DC X0d ⟨A0b,c1b,A3b,c4b,rfl,n1d,(n7c.upd U6b q5b (by decide))⟩)
  ·refine dcP 5 rfl (by kernel_rfl) (by rfl) (Ad Ly (by rfl)) (Fx x0.hi A4 c5 w4 (tbx X3a hT) (n6.ext X3a) (.error r1a) h2b) fun w5 E4a=>?_
   have X2d:=xtr X3a E4a
   exact ⟨rfl,BK X2d⟩
 ·refine dcP 2 rfl (by kernel_rfl) (by rfl) (Ad Ly (by rfl)) (Fx x0.lo A1 c2 w3 (tbx X2a hT) (n3.ext X2a) (.error r0a) h9a) fun w4 E5a=>?_
  have X3d:=xtr X2a E5a
  exact ⟨rfl,BK X3d⟩
end Go.Proofs

