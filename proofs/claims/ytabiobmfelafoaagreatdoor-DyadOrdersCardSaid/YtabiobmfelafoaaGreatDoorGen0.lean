import Derived.Test.YtabiobmfelafoaaGreatDoorLeafN
namespace Go.Proofs
set_option linter.unusedVariables false
set_option linter.unusedSimpArgs false
set_option maxHeartbeats 4000000
open Go.RowKit Go.Sb Go.Proofs.Sbn
theorem Ig (x0:AW) (A1:Option Addr) (c2:Nat) (w:World) (hT:TB w) (n3:RLu w A1 c2 x0.Abs) (r:Bool) (hr:Cd x0=some r) :
  Calls Tryz.prog 61 #[.agg #[.bool x0.Neg,.slice A1 x0.Abs.length c2]] w (Ret Gq w r):=by
 unfold Cd at hr
 go_enter Tryz.func61,Tryz.ntmps61
 refine wp_seq_k fun _ h4=>Ae<|Bu rfl rfl fun b5 w1 E6 g7 q8=>?_
 refine nrm ?_
 refine sV (Ac rfl) ?_
 refine wh h4<|wp_seq_k fun _ h9=>Ae<|sV2 (Ag (o':=1) Bf rfl rfl) (Af BJ rfl (Bx.cell q8 rfl)) ?_
 obtain ⟨r9b,h0c,f1c⟩:=Ab hr
 refine sc (Ad Qh (by rfl)) (Gu x0.Abs A1 c2 w1 (tbx E6 hT) (n3.ext E6) r9b h0c) ?_
 rintro _ w2 E3a rfl
 refine nrm ?_
 have X2c:=xtr E6 E3a
 refine sV (Aa rfl) ?_
 obtain ⟨m3c,h4c,f5c⟩:=Ab f1c
 refine Bm 14 (fun l l' w'=>∃(t9a:Value) (t0b:Value) (t1b:Value) (t2b:Value) (t3b:Value) (t4b:Value) (t5b:Value) (t6b:Value) (t7b:Value),w2=w'∧l'=((((((((((l.set 7 t9a).set 8 t0b).set 9 t1b).set 10 t2b).set 11 t3b).set 12 t4b).set 13 t5b).set 14 t6b).set 15 t7b).set 16 (.bool m3c))) ?_ ?_
 ·intro HJ55
  rcases zb h4c with ⟨e0a,f6c⟩ | ⟨e0a,f7c⟩
  ·refine sV (Ag (o':=0) DF rfl rfl) ?_ (hw:=wgT rfl e0a)
   refine sV (Af GC rfl (Bx.cell (q8.ext E3a) rfl)) ?_ (hw:=wgT rfl e0a)
   refine sb (Fv rfl) ?_ (hw:=wgT rfl e0a)
   intro z2a hz2a
   refine nrm ?_
   refine sV (Aa rfl) ?_ (hw:=wgT rfl e0a)
   obtain ⟨m8b,h8c,f9c⟩:=Ab f6c
   refine Bm 13 (fun l l' w'=>∃(t4a:Value) (t5a:Value) (t6a:Value) (t7a:Value),w2=w'∧l'=(((((l.set 11 t4a).set 12 t5a).set 13 t6a).set 14 t7a).set 15 (.bool m8b))) ?_ ?_
   ·intro HJ76
    rcases zi hz2a h8c with ⟨e1a,_,f0d⟩ | ⟨e1a,_,f1d⟩
    ·refine sP ?_ (hw:=wgF rfl e1a)
     refine sP ?_ (hw:=wgF rfl e1a)
     refine sP ?_ (hw:=wgF rfl e1a)
     refine sP ?_ (hw:=wgF rfl e1a)
     refine sV (Ar (evb rfl e1a) rfl) ?_ (hw:=wgT rfl e0a)
     obtain rfl:=sj f0d
     exact HJ76 _ _ ⟨uu,uu,uu,uu,rfl,(by simp only [S0,S1]<;>rfl)⟩
    ·refine sV (Ag (o':=1) Bf rfl rfl) ?_ (hw:=wgT rfl e1a)
     refine sV (Af BJ rfl (Bx.cell (q8.ext E3a) rfl)) ?_ (hw:=wgT rfl e1a)
     refine sV (Ax AH rfl) ?_ (hw:=wgT rfl e1a)
     refine sb (EX rfl rfl) ?_ (hw:=wgT rfl e1a)
     intro z8a hz8a
     refine nrm ?_
     refine sV (Aw (evb rfl e1a) rfl) ?_ (hw:=wgT rfl e0a)
     obtain rfl:z8a=decide (0<(x0.Abs.length:Int)):=bz hz8a
     obtain rfl:=sj f1d
     exact HJ76 _ _ ⟨(.pointer (some ⟨b5,1,none⟩)),(.slice A1 x0.Abs.length c2),(.int .i64 (x0.Abs.length:Int)),(.bool (decide (0<(x0.Abs.length:Int)))),rfl,(by simp only [S0,S1]<;>rfl)⟩
   ·rintro l' _ ⟨t4a,t5a,t6a,t7a,rfl,hq'⟩ l'' hl
    rw [hq'] at hl
    clear hq'
    simp only [S0,S1] at hl
    subst hl
    refine sV (Ar (evb rfl e0a) rfl) ?_
    obtain rfl:=sj f9c
    exact HJ55 _ _ ⟨(.pointer (some ⟨b5,0,none⟩)),(.bool x0.Neg),(.bool z2a),(.bool z2a),t4a,t5a,t6a,t7a,(.bool m8b),rfl,(by simp only [S0,S1]<;>rfl)⟩
  ·refine sP ?_ (hw:=wgF rfl e0a)
   refine sP ?_ (hw:=wgF rfl e0a)
   refine sP ?_ (hw:=wgF rfl e0a)
   refine sP ?_ (hw:=wgF rfl e0a)
   refine sP ?_
   refine sP ?_
   refine sP ?_
   refine sP ?_
   refine sP ?_ (hw:=wgF rfl e0a)
   refine sV (Aw (evb rfl e0a) rfl) ?_
   obtain rfl:=sj f7c
   exact HJ55 _ _ ⟨uu,uu,uu,uu,uu,uu,uu,uu,uu,rfl,(by simp only [S0,S1]<;>rfl)⟩
 ·rintro l' _ ⟨t9a,t0b,t1b,t2b,t3b,t4b,t5b,t6b,t7b,rfl,hq'⟩ l'' hl
  rw [hq'] at hl
  clear hq'
  simp only [S0,S1] at hl
  subst hl
  refine sV (Ac rfl) ?_
  refine wh h9<|wp_ret ?_
  obtain rfl:=sj f5c
  exact fin rfl (Res.tmp rfl Res.nil) (Aj X2c rfl)
theorem Gt (x0:Ap) (A1:Option Addr) (c2:Nat) (w:World) (hT:TB w) (n3:RLu w A1 c2 x0.Man.Abs) (r:Bool) (hr:BT x0=some r) :
  Calls Tryz.prog 45 #[.agg #[.bool x0.Man.Neg,.slice A1 x0.Man.Abs.length c2,.int .i64 x0.Exp]] w (Ret Gq w r):=by
 unfold BT at hr
 go_enter Tryz.func45,Tryz.ntmps45
 refine wp_seq_k fun _ h4=>Ae<|Bu rfl rfl fun b5 w1 E6 g7 q8=>?_
 refine nrm ?_
 refine sV (Ac rfl) ?_
 refine wh h4<|wp_seq_k fun _ h9=>wp_seq_k fun _ h9b=>Ae<|sV2 (Ag (o':=0) Ey rfl rfl) (AL Dq rfl q8 (by simp only [List.drop_zero,List.take_succ_cons,List.take_zero];rfl) rfl) ?_
 obtain ⟨r0c,h1c,f2c⟩:=Ab hr
 refine sc (Ad Ra (by rfl)) (Ig x0.Man A1 c2 w1 (tbx E6 hT) (n3.ext E6) r0c h1c) ?_
 rintro _ w2 E2a rfl
 refine nrm ?_
 have X3a:=xtr E6 E2a
 refine sb (Fv rfl) fun z0b hz0b=>?_
 refine nrm ?_
 refine wh h9b ?_
 rcases zi hz0b f2c with ⟨e4a,_,f3c⟩ | ⟨e4a,_,f4c⟩
 ·refine wp_cond_true (Ai (evb rfl e4a))<|wp_seq_k fun _ h5c=>Ae<|sV (Ac rfl) ?_
  refine wh h5c<|wp_ret ?_
  obtain rfl:=sj f3c
  exact fin rfl (Res.tmp rfl Res.nil) (Aj X3a rfl)
 ·refine wp_cond_false (Ai (evb rfl e4a))<|wp_skip<|h9 _ _<|wp_seq_k fun _ h6c=>wp_seq_k fun _ h7c=>Ae<|sV3 (Ag (o':=0) Ey rfl rfl) (Ag (o':=1) Bf rfl rfl) (Af BJ rfl (Bx.cell (q8.ext E2a) rfl)) ?_
  refine sV (Ax AH rfl) ?_
  refine sb (Bl rfl rfl) fun z1b hz1b=>?_
  refine nrm ?_
  refine wh h7c ?_
  rcases zi hz1b f4c with ⟨e5a,_,f8c⟩ | ⟨e5a,_,f9c⟩
  ·refine wp_cond_true (Ai (evb rfl e5a))<|wp_seq_k fun _ h0d=>Ae<|sV2 (Ag (o':=2) EZ rfl rfl) (Af EN rfl (Bx.cell (q8.ext E2a) rfl)) ?_
   refine sb (Bl rfl rfl) fun z6a hz6a=>?_
   refine nrm ?_
   refine sV (Ac rfl) ?_
   refine wh h0d<|wp_ret ?_
   obtain rfl:z6a=decide (x0.Exp=0):=bz hz6a
   obtain rfl:=sj f8c
   exact fin rfl (Res.tmp rfl Res.nil) (Aj X3a rfl)
  ·refine wp_cond_false (Ai (evb rfl e5a))<|wp_skip<|h6c _ _<|wp_seq_k fun _ h1d=>Ae<|sV3 (Ag (o':=0) Ey rfl rfl) (Ag (o':=1) Bf rfl rfl) (Af BJ rfl (Bx.cell (q8.ext E2a) rfl)) ?_
   obtain ⟨r2d,h3d,f4d⟩:=Ab f9c
   refine sc (Ad Pm (by rfl)) (Ha x0.Man.Abs 0 A1 c2 w2 (tbx X3a hT) (n3.ext X3a) r2d h3d) ?_
   rintro _ w3 E7a rfl
   refine nrm ?_
   have X5d:=xtr X3a E7a
   refine sb (Bl rfl rfl) fun z2b hz2b=>?_
   refine nrm ?_
   refine sV (Aa rfl) ?_
   obtain ⟨m6d,h7d,f8d⟩:=Ab f4d
   refine Bm 10 (fun l l' w'=>∃(t3b:Value) (t4b:Value) (t5b:Value),w3=w'∧l'=((((l.set 21 t3b).set 22 t4b).set 23 t5b).set 24 (.bool m6d))) ?_ ?_
   ·intro HJ63
    rcases zi hz2b h7d with ⟨e0a,_,f9d⟩ | ⟨e0a,_,f0e⟩
    ·refine sV (Ag (o':=2) EZ rfl rfl) ?_ (hw:=wgT rfl e0a)
     refine sV (Af EN rfl (Bx.cell ((q8.ext E2a).ext E7a) rfl)) ?_ (hw:=wgT rfl e0a)
     refine sb (Fu rfl rfl) ?_ (hw:=wgT rfl e0a)
     intro z8a hz8a
     refine nrm ?_
     refine sV (Ar (evb rfl e0a) rfl) ?_
     obtain rfl:z8a=decide ((-1048576)≤x0.Exp):=bz hz8a
     obtain rfl:=sj f9d
     exact HJ63 _ _ ⟨(.pointer (some ⟨b5,2,none⟩)),(.int .i64 x0.Exp),(.bool (decide ((-1048576)≤x0.Exp))),rfl,(by simp only [S0,S1]<;>rfl)⟩
    ·refine sP ?_ (hw:=wgF rfl e0a)
     refine sP ?_ (hw:=wgF rfl e0a)
     refine sP ?_ (hw:=wgF rfl e0a)
     refine sV (Aw (evb rfl e0a) rfl) ?_
     obtain rfl:=sj f0e
     exact HJ63 _ _ ⟨uu,uu,uu,rfl,(by simp only [S0,S1]<;>rfl)⟩
   ·rintro l' _ ⟨t3b,t4b,t5b,rfl,hq'⟩ l'' hl
    rw [hq'] at hl
    clear hq'
    simp only [S0,S1] at hl
    subst hl
    refine sV (Aa rfl) ?_
    obtain ⟨m1e,h2e,f3e⟩:=Ab f8d
    refine Bm 15 (fun l l' w'=>∃(t6b:Value) (t7b:Value) (t8b:Value),w3=w'∧l'=((((l.set 26 t6b).set 27 t7b).set 28 t8b).set 29 (.bool m1e))) ?_ ?_
    ·intro HJ83
     rcases zb h2e with ⟨e1a,f4e⟩ | ⟨e1a,f5e⟩
     ·refine sV (Ag (o':=2) EZ rfl rfl) ?_ (hw:=wgT rfl e1a)
      refine sV (Af EN rfl (Bx.cell ((q8.ext E2a).ext E7a) rfl)) ?_ (hw:=wgT rfl e1a)
      refine sb (Ie rfl rfl) ?_ (hw:=wgT rfl e1a)
      intro z9a hz9a
      refine nrm ?_
      refine sV (Ar (evb rfl e1a) rfl) ?_
      obtain rfl:z9a=decide (x0.Exp≤1048576):=bz hz9a
      obtain rfl:=sj f4e
      exact HJ83 _ _ ⟨(.pointer (some ⟨b5,2,none⟩)),(.int .i64 x0.Exp),(.bool (decide (x0.Exp≤1048576))),rfl,(by simp only [S0,S1]<;>rfl)⟩
     ·refine sP ?_ (hw:=wgF rfl e1a)
      refine sP ?_ (hw:=wgF rfl e1a)
      refine sP ?_ (hw:=wgF rfl e1a)
      refine sV (Aw (evb rfl e1a) rfl) ?_
      obtain rfl:=sj f5e
      exact HJ83 _ _ ⟨uu,uu,uu,rfl,(by simp only [S0,S1]<;>rfl)⟩
    ·rintro l' _ ⟨t6b,t7b,t8b,rfl,hq'⟩ l'' hl
     rw [hq'] at hl
     clear hq'
     simp only [S0,S1] at hl
     subst hl
     refine sV (Ac rfl) ?_
     refine wh h1d<|wp_ret ?_
     obtain rfl:=sj f3e
     exact fin rfl (Res.tmp rfl Res.nil) (Aj X5d rfl)
theorem Bv (x0:Bool) (x1:Nat) (A1:Option Addr) (c2:Nat) (w:World) (hT:TB w) (n3:RU w A1 c2 x1) (r:Ah) (hr:AK x0 x1=some r) :
  Calls Tryz.prog 178 #[.bool x0,.slice A1 (sz x1) c2] w (Ret Jm w r):=by
 unfold AK at hr
 go_enter Tryz.func178,Tryz.ntmps178
 refine wp_seq_k fun _ h4=>Ae<|AA IJ fun b5 w1 E6 g7 q8=>?_
 refine nrm ?_
 refine wh h4<|wp_seq_k fun _ h9=>Ae<|sV2 (Aa rfl) (Aa rfl) ?_
 obtain ⟨m1a,h7a,f8a⟩:=Ab hr
 refine Bm 6 (fun l l' w'=>∃(t3a:Value) (t4a:Value) (t5a:Value),w1=w'∧l'=((((l.set 7 t3a).set 8 t4a).set 9 t5a).set 10 (.bool m1a))) ?_ ?_
 ·intro HJ23
  rcases zb h7a with ⟨e0a,f9a⟩ | ⟨e0a,f0b⟩
  ·refine sV (Aa rfl) ?_ (hw:=wgT rfl e0a)
   refine sV (Ax AH rfl) ?_ (hw:=wgT rfl e0a)
   refine sb (EX rfl rfl) ?_ (hw:=wgT rfl e0a)
   intro z2a hz2a
   refine nrm ?_
   refine sV (Ar (evb rfl e0a) rfl) ?_
   obtain rfl:z2a=decide (0<(sz x1:Int)):=bz hz2a
   obtain rfl:=sj f9a
   exact HJ23 _ _ ⟨(.slice A1 (sz x1) c2),(.int .i64 (sz x1:Int)),(.bool (decide (0<(sz x1:Int)))),rfl,(by simp only [S0,S1]<;>rfl)⟩
  ·refine sP ?_ (hw:=wgF rfl e0a)
   refine sP ?_ (hw:=wgF rfl e0a)
   refine sP ?_ (hw:=wgF rfl e0a)
   refine sV (Aw (evb rfl e0a) rfl) ?_
   obtain rfl:=sj f0b
   exact HJ23 _ _ ⟨uu,uu,uu,rfl,(by simp only [S0,S1]<;>rfl)⟩
 ·rintro l' _ ⟨t3a,t4a,t5a,rfl,hq'⟩ l'' hl
  rw [hq'] at hl
  clear hq'
  simp only [S0,S1] at hl
  subst hl
  refine sV2 (Aa rfl) (Bb (vals:=[(0,.bool m1a),(1,.slice A1 (sz x1) c2)]) (cells:=[.bool m1a,.slice A1 (sz x1) c2]) (by rfl) (by kernel_rfl)) ?_
  refine ss GU q8 fun w2 U1b q2b=>?_
  have F6a:=belU E6 U1b g7
  refine wh h9<|wp_ret ?_
  obtain rfl:=sj f8a
  exact fin rfl (Res.cellN rfl Dq q2b rfl rfl Res.nil) (Aj F6a ⟨A1,c2,rfl,(n3.ext F6a)⟩)
theorem Jd (x0:Int) (w:World) (hT:TB w) (r:Ah) (hr:Gv x0=some r) :
  Calls Tryz.prog 96 #[.int .i64 x0] w (Ret Jm w r):=by
 unfold Gv at hr
 go_enter Tryz.func96,Tryz.ntmps96
 refine wp_seq_k fun _ h1=>Ae<|AA IJ fun b2 w1 E3 g4 q5=>?_
 refine nrm ?_
 refine wh h1<|wp_seq_k fun _ h6=>wp_seq_k fun _ h7=>Ae<|sV (Aa rfl) ?_
 refine sb (Cj rfl rfl) fun z8 hz8=>?_
 refine nrm ?_
 refine wh h7 ?_
 rcases zi hz8 hr with ⟨e0a,_,f1b⟩ | ⟨e0a,_,f2b⟩
 ·refine wp_cond_true (Ai (evb rfl e0a))<|wp_seq_k fun _ h3b=>Ae<|sV3 (Aa rfl) (PK (c:=wi64 (-x0)) rfl rfl) (AE (c:=wu64 (wi64 (-x0))) it_3 AD rfl rfl) ?_
  obtain ⟨r5a,h4b,f5b⟩:=Ab f1b
  refine sc (Ad NH (by rfl)) (Gl (wu64 (wi64 (-x0))) w1 (tbx E3 hT)  r5a h4b) ?_
  rintro _ w2 E1a ⟨A6b,c7b,rfl,n8b⟩
  refine nrm ?_
  have X6a:=xtr E3 E1a
  obtain ⟨r9b,h0c,f1c⟩:=Ab f5b
  refine sc (Ad JO (by rfl)) (Bv true r5a A6b c7b w2 (tbx X6a hT) n8b r9b h0c) ?_
  rintro _ w3 E2a ⟨A2c,c3c,rfl,n4c⟩
  refine nrm ?_
  have X5c:=xtr X6a E2a
  refine ss GU ((q5.ext E1a).ext E2a) fun w4 U7a q6c=>?_
  have X7c:=belU X5c U7a g4
  refine wh h3b<|wp_ret ?_
  have n8c:=n4c.upd U7a ((q5.ext E1a).ext E2a) (by decide)
  obtain rfl:=sj f1c
  exact fin rfl (Res.cellN rfl Dq q6c rfl rfl Res.nil) (Aj X7c ⟨A2c,c3c,rfl,n8c⟩)
 ·refine wp_cond_false (Ai (evb rfl e0a))<|wp_skip<|h6 _ _<|wp_seq_k fun _ h9c=>Ae<|sV2 (Aa rfl) (AE (c:=wu64 x0) it_3 AD rfl rfl) ?_
  obtain ⟨r8a,h0d,f1d⟩:=Ab f2b
  refine sc (Ad NH (by rfl)) (Gl (wu64 x0) w1 (tbx E3 hT)  r8a h0d) ?_
  rintro _ w2 E3a ⟨A2d,c3d,rfl,n4d⟩
  refine nrm ?_
  have X9a:=xtr E3 E3a
  obtain ⟨r5d,h6d,f7d⟩:=Ab f1d
  refine sc (Ad JO (by rfl)) (Bv false r8a A2d c3d w2 (tbx X9a hT) n4d r5d h6d) ?_
  rintro _ w3 E4a ⟨A8d,c9d,rfl,n0e⟩
  refine nrm ?_
  have X1e:=xtr X9a E4a
  refine ss GU ((q5.ext E3a).ext E4a) fun w4 U0b q2e=>?_
  have X3e:=belU X1e U0b g4
  refine wh h9c<|wp_ret ?_
  have n4e:=n0e.upd U0b ((q5.ext E3a).ext E4a) (by decide)
  obtain rfl:=sj f7d
  exact fin rfl (Res.cellN rfl Dq q2e rfl rfl Res.nil) (Aj X3e ⟨A8d,c9d,rfl,n4e⟩)
theorem EQ (b b':Nat) (v0 v1 v2:Value) (u:Value) (n:Int) {w:World} (qa:Bx w b 27 [v0,v1,v2]) (qb:Bx w b' 33 [u]) :
  CallsD Tryz.prog 135 #[.pointer (some ⟨b,0,none⟩),.pointer (some ⟨b',0,none⟩)] (.panicking [entry 201 n]) w fun e u' w'=>e = .returned (.tuple #[])∧u' = .panicking [{ entry 201 n with recovered:=true }]∧(Upd2 b b' w w'∧Bx w' b 27 [.bool false,.slice none 0 0,.int .i64 0]∧Bx w' b' 33 [.int .i64 n]):=by
 refine Kh Tryz.func135 rfl [.pointer (some ⟨b,0,none⟩),.pointer (some ⟨b',0,none⟩),uu,uu,uu,uu,uu,uu,uu,uu,uu,uu,uu,uu,uu,uu,uu,uu,uu,uu,uu,uu,uu,uu,uu,uu] (by simp [Tryz.ntmps135]) fun c₀ cs hu=>?_
 apply wpS_seq
 refine QW hu rfl ?_
 simp only [S0,S1]
 refine wpS_of_wp<|wp_seq_k fun _ h1=>Ae<|sV2 (Aa rfl) (LY LG rfl) ?_
 refine wh h1<|wp_cond_true (Ai (evb rfl rfl))<|wp_seq_k fun _ h2=>Ae<|sV3 (Aa rfl) (Lv Nn rfl) (Aa rfl) ?_
 refine sV2 (Av rfl rfl) (Av rfl rfl) ?_
 refine AA NM fun b3 w1 E4 g5 q6=>?_
 refine nrm ?_
 have X7:=(Upd2.refl b b' w).ext E4
 refine ss NP q6 fun w2 U8 q9=>?_
 have X3a:=X7.upd U8 (.inl g5)
 refine sV (Ac rfl) ?_
 refine wh h2<|wp_seq_k fun _ h9a=>wp_seq_k fun _ h0b=>Ae<|sV2 (Aa rfl) (Mu rfl rfl rfl) ?_
 refine wh h0b<|wp_cond_false (Ai (evb rfl rfl))<|wp_skip<|h9a _ _<|wp_seq_k fun _ h1b=>Ae<|AA Hm fun b8c w3 E1a g2b q3b=>?_
 refine nrm ?_
 have g9c:=nlt X3a.size g2b
 have X4b:=X3a.ext E1a
 refine wh h1b<|Dn [6,8] 9 mo rfl fun w4 E0a S5b=>have X6b:=X4b.ext E0a;dA 0 rfl (fun _=>Aa rfl) ?_
 refine dA 1 rfl (fun _=>Aa rfl) ?_
 refine dV 2 rfl (fun _ hw=>Al Bt rfl ((q3b.ext E0a).ext hw) rfl) S5b ?_
 refine dA 3 rfl (fun _=>Ag (o':=0) Mj rfl rfl) ?_
 refine dA 5 rfl (fun _=>BE rfl) ?_
 refine IN #[true,true,true,true,true,true,true,false,false] 2 (fun l l' w'=>UpdS [b] w4 w'∧Bx w' b 27 [.bool false,.slice none 0 0,.int .i64 0]∧l'=(l.set 23 (.int .i64 n))) ?_ ?_
 ·intro HJ38
  refine Hz 4 6 (by kernel_rfl) ?_ ?_
  ·refine opV 4 rfl (by rfl) (Af Dy rfl (Bx.cell ((q9.ext E1a).ext E0a) rfl)) (dnrm ?_)
   refine Dl 6 (by kernel_rfl) ?_
   ·have F7b:=belU E4 U8 g5
    refine opK 6 rfl (by decide) (by rfl) FA rfl rfl (((qa.ext F7b).ext E1a).ext E0a) rfl rfl rfl rfl (by simp only [SP0,SP1,S0,S1,Nat.reduceAdd];rfl) fun w5 U8b q9b=>?_
    exact EL (by kernel_rfl) (HJ38 _ _ ⟨((UpdS.refl _ _).upd U8b (.inl im0)),q9b,(by simp only [S0,S1]<;>rfl)⟩)
  ·have F4a:=belU E4 U8 g5
   refine opK 6 rfl (by decide) (by rfl) FA rfl rfl (((qa.ext F4a).ext E1a).ext E0a) rfl rfl rfl rfl (by simp only [SP0,SP1,S0,S1,Nat.reduceAdd];rfl) fun w5 U5a q0c=>?_
   refine Dl 4 (by kernel_rfl) ?_
   ·have ne1c:=(Bx.neT ((q9.ext E1a).ext E0a) (((qa.ext F4a).ext E1a).ext E0a) (by decide))
    have q2c:=((q9.ext E1a).ext E0a).upd U5a ne1c
    refine opV 4 rfl (by rfl) (Af Dy rfl (Bx.cell q2c rfl)) (dnrm ?_)
    exact EL (by kernel_rfl) (HJ38 _ _ ⟨((UpdS.refl _ _).upd U5a (.inl im0)),q0c,(by simp only [S0,S1]<;>rfl)⟩)
 ·rintro l' w5 ⟨U6a,q3c,hq'⟩ l'' hl
  rw [hq'] at hl
  clear hq'
  simp only [S0,S1] at hl
  subst hl
  have X4c:=X6b.updS U6a (alc (.inr (.inl rfl)) al0)
  refine dA 7 rfl (fun _=>BE rfl) ?_
  have F2a:=belU E4 U8 g5
  have ne7a:=(Bx.neT (((qb.ext F2a).ext E1a).ext E0a) (((qa.ext F2a).ext E1a).ext E0a) (by decide))
  have q5c:=(((qb.ext F2a).ext E1a).ext E0a).updS U6a (nmc ne7a nm0)
  refine dkk 8 HU q5c fun w6 U8a q6c=>?_
  have X7c:=X4c.upd U8a (.inr (.inr rfl))
  refine Cn (by kernel_rfl) ?_
  exact QV (by kernel_rfl) ⟨rfl,rfl,X7c,(q3c.upd U8a (Ne.symm ne7a)),q6c⟩
theorem Ht:Qj Tryz.prog 135:=by
 intro ar b b' w ha
 subst ha
 refine Kh Tryz.func135 rfl [.pointer (some ⟨b,0,none⟩),.pointer (some ⟨b',0,none⟩),uu,uu,uu,uu,uu,uu,uu,uu,uu,uu,uu,uu,uu,uu,uu,uu,uu,uu,uu,uu,uu,uu,uu,uu] (by simp [Tryz.ntmps135]) fun c₀ cs hu=>?_
 apply wpS_seq
 refine Qy hu rfl ?_
 simp only [S0,S1]
 refine wpS_of_wp<|wp_seq_k fun _ h1=>Ae<|sV2 (Aa rfl) (Km LG rfl) ?_
 refine wh h1<|wp_cond_false (Ai (evb rfl rfl))<|wp_skip ?_
 exact PN hu (by kernel_rfl) ⟨rfl,rfl,rfl⟩
theorem IX (x0:AW) (A1:Option Addr) (c2:Nat) (w:World) (hT:TB w) (n3:RLu w A1 c2 x0.Abs) (r:Bool) (hr:DC x0=some r) :
  Calls Tryz.prog 151 #[.agg #[.bool x0.Neg,.slice A1 x0.Abs.length c2]] w (Ret Gq w r):=by
 unfold DC at hr
 go_enter Tryz.func151,Tryz.ntmps151
 refine wp_seq_k fun _ h4=>Ae<|Bu rfl rfl fun b5 w1 E6 g7 q8=>?_
 refine nrm ?_
 refine sV (Ac rfl) ?_
 refine wh h4<|wp_seq_k fun _ h9=>Ae<|sV2 (Ag (o':=1) Bf rfl rfl) (Af BJ rfl (Bx.cell q8 rfl)) ?_
 obtain ⟨r9b,h0c,f1c⟩:=Ab hr
 refine sc (Ad OQ (by rfl)) (Ja x0.Abs A1 c2 w1 (tbx E6 hT) (n3.ext E6) r9b h0c) ?_
 rintro _ w2 E3a rfl
 refine nrm ?_
 have X2c:=xtr E6 E3a
 refine sV (Aa rfl) ?_
 obtain ⟨m3c,h4c,f5c⟩:=Ab f1c
 refine Bm 14 (fun l l' w'=>∃(t9a:Value) (t0b:Value) (t1b:Value) (t2b:Value) (t3b:Value) (t4b:Value) (t5b:Value) (t6b:Value) (t7b:Value),w2=w'∧l'=((((((((((l.set 7 t9a).set 8 t0b).set 9 t1b).set 10 t2b).set 11 t3b).set 12 t4b).set 13 t5b).set 14 t6b).set 15 t7b).set 16 (.bool m3c))) ?_ ?_
 ·intro HJ55
  rcases zb h4c with ⟨e0a,f6c⟩ | ⟨e0a,f7c⟩
  ·refine sV (Ag (o':=0) DF rfl rfl) ?_ (hw:=wgT rfl e0a)
   refine sV (Af GC rfl (Bx.cell (q8.ext E3a) rfl)) ?_ (hw:=wgT rfl e0a)
   refine sb (Fv rfl) ?_ (hw:=wgT rfl e0a)
   intro z2a hz2a
   refine nrm ?_
   refine sV (Aa rfl) ?_ (hw:=wgT rfl e0a)
   obtain ⟨m8b,h8c,f9c⟩:=Ab f6c
   refine Bm 13 (fun l l' w'=>∃(t4a:Value) (t5a:Value) (t6a:Value) (t7a:Value),w2=w'∧l'=(((((l.set 11 t4a).set 12 t5a).set 13 t6a).set 14 t7a).set 15 (.bool m8b))) ?_ ?_
   ·intro HJ76
    rcases zi hz2a h8c with ⟨e1a,_,f0d⟩ | ⟨e1a,_,f1d⟩
    ·refine sP ?_ (hw:=wgF rfl e1a)
     refine sP ?_ (hw:=wgF rfl e1a)
     refine sP ?_ (hw:=wgF rfl e1a)
     refine sP ?_ (hw:=wgF rfl e1a)
     refine sV (Ar (evb rfl e1a) rfl) ?_ (hw:=wgT rfl e0a)
     obtain rfl:=sj f0d
     exact HJ76 _ _ ⟨uu,uu,uu,uu,rfl,(by simp only [S0,S1]<;>rfl)⟩
    ·refine sV (Ag (o':=1) Bf rfl rfl) ?_ (hw:=wgT rfl e1a)
     refine sV (Af BJ rfl (Bx.cell (q8.ext E3a) rfl)) ?_ (hw:=wgT rfl e1a)
     refine sV (Ax AH rfl) ?_ (hw:=wgT rfl e1a)
     refine sb (EX rfl rfl) ?_ (hw:=wgT rfl e1a)
     intro z8a hz8a
     refine nrm ?_
     refine sV (Aw (evb rfl e1a) rfl) ?_ (hw:=wgT rfl e0a)
     obtain rfl:z8a=decide (0<(x0.Abs.length:Int)):=bz hz8a
     obtain rfl:=sj f1d
     exact HJ76 _ _ ⟨(.pointer (some ⟨b5,1,none⟩)),(.slice A1 x0.Abs.length c2),(.int .i64 (x0.Abs.length:Int)),(.bool (decide (0<(x0.Abs.length:Int)))),rfl,(by simp only [S0,S1]<;>rfl)⟩
   ·rintro l' _ ⟨t4a,t5a,t6a,t7a,rfl,hq'⟩ l'' hl
    rw [hq'] at hl
    clear hq'
    simp only [S0,S1] at hl
    subst hl
    refine sV (Ar (evb rfl e0a) rfl) ?_
    obtain rfl:=sj f9c
    exact HJ55 _ _ ⟨(.pointer (some ⟨b5,0,none⟩)),(.bool x0.Neg),(.bool z2a),(.bool z2a),t4a,t5a,t6a,t7a,(.bool m8b),rfl,(by simp only [S0,S1]<;>rfl)⟩
  ·refine sP ?_ (hw:=wgF rfl e0a)
   refine sP ?_ (hw:=wgF rfl e0a)
   refine sP ?_ (hw:=wgF rfl e0a)
   refine sP ?_ (hw:=wgF rfl e0a)
   refine sP ?_
   refine sP ?_
   refine sP ?_
   refine sP ?_
   refine sP ?_ (hw:=wgF rfl e0a)
   refine sV (Aw (evb rfl e0a) rfl) ?_
   obtain rfl:=sj f7c
   exact HJ55 _ _ ⟨uu,uu,uu,uu,uu,uu,uu,uu,uu,rfl,(by simp only [S0,S1]<;>rfl)⟩
 ·rintro l' _ ⟨t9a,t0b,t1b,t2b,t3b,t4b,t5b,t6b,t7b,rfl,hq'⟩ l'' hl
  rw [hq'] at hl
  clear hq'
  simp only [S0,S1] at hl
  subst hl
  refine sV (Ac rfl) ?_
  refine wh h9<|wp_ret ?_
  obtain rfl:=sj f5c
  exact fin rfl (Res.tmp rfl Res.nil) (Aj X2c rfl)
theorem Bh (x0:Bool) (x1:Int) (w:World) (hT:TB w) (r:Except Int (Unit)) (hr:BR x0 x1=some r) :
  Calls Tryz.prog 102 #[.bool x0,.int .i64 x1] w (RetE 201 Ld w r):=by
 unfold BR at hr
 go_enter Tryz.func102,Tryz.ntmps102
 refine wp_seq_k fun _ h1=>Ae<|sV (Aa rfl) ?_
 refine sb (Fv rfl) fun z2 hz2=>?_
 refine nrm ?_
 refine wh h1 ?_
 rcases zi hz2 hr with ⟨e8,_,f0a⟩ | ⟨e8,_,f1a⟩
 ·refine wp_cond_true (Ai (evb rfl e8))<|Ae<|sV2 (Aa rfl) (Bb (vals:=[(0,.int .i64 x1)]) (cells:=[.int .i64 x1]) (by rfl) (by kernel_rfl)) ?_
  refine sV (KT Nn rfl) ?_
  refine OO rfl ?_
  obtain rfl:=sj f0a
  exact ⟨rfl,Cw (Ext.refl _)⟩
 ·refine wp_cond_false (Ai (evb rfl e8))<|wp_skip ?_
  obtain rfl:=sj f1a
  exact Nb rfl Res.nil (EK (Ext.refl _) rfl)
theorem Lq (x0:Ah) (A1:Option Addr) (c2:Nat) (w:World) (hT:TB w) (n3:RU w A1 c2 x0.Abs) (r:Ah) (hr:Je x0=some r) :
  Calls Tryz.prog 137 #[.agg #[.bool x0.Neg,.slice A1 (sz x0.Abs) c2]] w (Ret Mn w r):=by
 unfold Je at hr
 go_enter Tryz.func137,Tryz.ntmps137
 refine wp_seq_k fun _ h4=>Ae<|Bu rfl rfl fun b5 w1 E6 g7 q8=>?_
 refine nrm ?_
 refine AA Ib fun b9 w2 E0a g1a q3a=>?_
 refine nrm ?_
 have g8a:=nlt E6.size g1a
 refine wh h4<|wp_seq_k fun _ h4a=>Ae<|sV3 (Ag (o':=0) DF rfl rfl) (Af GC rfl (Bx.cell (q8.ext E0a) rfl)) (Ag (o':=1) Bf rfl rfl) ?_
 refine sV2 (Af BJ rfl (Bx.cell (q8.ext E0a) rfl)) (Bb (vals:=[(0,.bool x0.Neg),(1,.slice A1 (sz x0.Abs) c2)]) (cells:=[.bool x0.Neg,.slice A1 (sz x0.Abs) c2]) (by rfl) (by kernel_rfl)) ?_
 refine ss Hr q3a fun w3 U5a q6a=>?_
 have F7a:=belU E0a U5a g1a
 have X2a:=xtr E6 F7a
 refine wh h4a<|wp_ret ?_
 obtain rfl:=sj hr
 exact fin rfl (Res.cellN rfl EH q6a rfl rfl Res.nil) (Aj X2a ⟨A1,c2,rfl,(n3.ext X2a)⟩)
theorem Gz (x0:Ah) (x1:Int) (A1:Option Addr) (c2:Nat) (w:World) (hT:TB w) (n3:RU w A1 c2 x0.Abs) (r:Am) (hr:Dc x0 x1=some r) :
  Calls Tryz.prog 152 #[.agg #[.bool x0.Neg,.slice A1 (sz x0.Abs) c2],.int .i64 x1] w (Ret IS w r):=by
 unfold Dc at hr
 go_enter Tryz.func152,Tryz.ntmps152
 refine wp_seq_k fun _ h4=>Ae<|Bu rfl rfl fun b5 w1 E6 g7 q8=>?_
 refine nrm ?_
 refine AA Bn fun b9 w2 E0a g2b q3b=>?_
 refine nrm ?_
 have g7b:=nlt E6.size g2b
 have X7a:=xtr E6 E0a
 refine wh h4<|wp_seq_k fun _ h8b=>wp_seq_k fun _ h9b=>Ae<|sV3 (Ag (o':=1) BF rfl rfl) (Af DI rfl (Bx.cell (q8.ext E0a) rfl)) (Ax Aq rfl) ?_
 refine sb (Bl rfl rfl) fun z4b hz4b=>?_
 refine nrm ?_
 refine wh h9b ?_
 rcases zi hz4b hr with ⟨e8a,_,f32⟩ | ⟨e8a,_,f0c⟩
 ·refine wp_cond_true (Ai (evb rfl e8a))<|wp_seq_k fun _ h1c=>Ae<|sV (Bb (vals:=[]) (cells:=[.bool false,.slice none 0 0,.int .i64 0]) (by rfl) (by kernel_rfl)) ?_
  refine ss CL q3b fun w3 U2c q3c=>?_
  have F4c:=belU E0a U2c g2b
  have X5c:=xtr E6 F4c
  refine wh h1c<|wp_ret ?_
  obtain rfl:=sj f32
  exact fin rfl (Res.cellN rfl AN q3c rfl rfl Res.nil) (Aj X5c ⟨none,0,rfl,(RU.nil _)⟩)
 ·refine wp_cond_false (Ai (evb rfl e8a))<|wp_skip<|h8b _ _<|wp_seq_k fun _ h6c=>Ae<|sV2 (Ag (o':=1) BF rfl rfl) (Af DI rfl (Bx.cell (q8.ext E0a) rfl)) ?_
  obtain ⟨r1a,h7c,f8c⟩:=Ab f0c
  refine sc (Ad en_213 (by rfl)) (IQ x0.Abs A1 c2 w2 (tbx X7a hT) (n3.ext X7a) r1a h7c) ?_
  rintro _ w3 E5a rfl
  refine nrm ?_
  have X9c:=xtr X7a E5a
  refine sV (Ac rfl) ?_
  refine wh h6c<|wp_seq_k fun _ h0d=>Dn [11] 12 mo rfl fun w4 E6a S9a=>have X0b:=xtr X9c E6a;dA 0 rfl (fun _=>Ag (o':=0) Fz rfl rfl) ?_
  refine dV 1 rfl (fun _ hw=>Af GC rfl (Bx.cell ((((q8.ext E0a).ext E5a).ext E6a).ext hw) rfl)) S9a ?_
  refine dA 2 rfl (fun _=>Ag (o':=1) BF rfl rfl) ?_
  refine dV 3 rfl (fun _ hw=>Af DI rfl (Bx.cell ((((q8.ext E0a).ext E5a).ext E6a).ext hw) rfl)) S9a ?_
  refine dA 4 rfl (fun _=>Aa rfl) ?_
  refine dA 7 rfl (fun _=>Aa rfl) ?_
  refine dA 8 rfl (fun _=>Aa rfl) ?_
  refine dA 9 rfl (fun _=>AM (c:=wi64 (x1+r1a)) rfl rfl rfl) ?_
  obtain ⟨r2a,h1d,f2d⟩:=Ab f8c
  refine dc 5 rfl (by kernel_rfl) (by rfl) (Ad MV (by rfl)) (GG x0.Abs r1a A1 c2 w4 (tbx X0b hT) (n3.ext X0b) r2a h1d) ?_
  rintro _ w5 E1b ⟨A3a,c4a,rfl,n3d⟩
  refine dnrm ?_
  have X4d:=xtr X0b E1b
  have S7d:=S9a.trans E1b
  refine dA 6 rfl (fun _=>Bb (vals:=[(0,.bool x0.Neg),(1,.slice A3a (sz r2a) c4a)]) (cells:=[.bool x0.Neg,.slice A3a (sz r2a) c4a]) (by rfl) (by kernel_rfl)) ?_
  refine dA 10 rfl (fun _=>Bb (vals:=[(0,.agg #[.bool x0.Neg,.slice A3a (sz r2a) c4a]),(1,.int .i64 (wi64 (x1+r1a)))]) (cells:=[.bool x0.Neg,.slice A3a (sz r2a) c4a,.int .i64 (wi64 (x1+r1a))]) (by rfl) (by kernel_rfl)) ?_
  have q5b:=((q3b.ext E5a).ext E6a).ext E1b
  refine dkk 11 CL q5b fun w6 U6b q5d=>?_
  have X6d:=belU X4d U6b g7b
  refine Cn (by kernel_rfl) ?_
  refine h0d _ _<|wp_ret ?_
  obtain rfl:=sj f2d
  exact fin rfl (Res.cellN rfl AN q5d rfl rfl Res.nil) (Aj X6d ⟨A3a,c4a,rfl,(n3d.upd U6b q5b (by decide))⟩)
theorem c_wide_Int_Out (x0:Ah) (A1:Option Addr) (c2:Nat) (w:World) (hT:TB w) (n3:RU w A1 c2 x0.Abs) (r:Ah) (hr:IC x0=some r) :
  Calls Tryz.prog 202 #[.agg #[.bool x0.Neg,.slice A1 (sz x0.Abs) c2]] w (Ret Jm w r):=by
 unfold IC at hr
 go_enter Tryz.func202,Tryz.ntmps202
 refine wp_seq_k fun _ h4=>Ae<|Bu rfl rfl fun b5 w1 E6 g7 q8=>?_
 refine nrm ?_
 refine AA IJ fun b9 w2 E1a g4a q1b=>?_
 refine nrm ?_
 have g1c:=nlt E6.size g4a
 refine wh h4<|wp_seq_k fun _ h2b=>Ae<|sV3 (Ag (o':=0) Fz rfl rfl) (Af GC rfl (Bx.cell (q8.ext E1a) rfl)) (Aa rfl) ?_
 obtain ⟨m2a,h5a,f3b⟩:=Ab hr
 refine Bm 8 (fun l l' w'=>∃(t6a:Value) (t7a:Value) (t8a:Value) (t9a:Value),w2=w'∧l'=(((((l.set 6 t6a).set 7 t7a).set 8 t8a).set 9 t9a).set 10 (.bool m2a))) ?_ ?_
 ·intro HJ30
  rcases bft x0.Neg with e0a | e0a
  ·have p4b:=e0a
   have f5b:=ifP p4b h5a
   refine sV (Ag (o':=1) BF rfl rfl) ?_ (hw:=wgT rfl e0a)
   refine sV (Af DI rfl (Bx.cell (q8.ext E1a) rfl)) ?_ (hw:=wgT rfl e0a)
   refine sV (Ax Aq rfl) ?_ (hw:=wgT rfl e0a)
   refine sb (EX rfl rfl) ?_ (hw:=wgT rfl e0a)
   intro z3a hz3a
   refine nrm ?_
   refine sV (Ar (evb rfl e0a) rfl) ?_
   obtain rfl:z3a=decide (0<(sz x0.Abs:Int)):=bz hz3a
   obtain rfl:=sj f5b
   exact HJ30 _ _ ⟨(.pointer (some ⟨b5,1,none⟩)),(.slice A1 (sz x0.Abs) c2),(.int .i64 (sz x0.Abs:Int)),(.bool (decide (0<(sz x0.Abs:Int)))),rfl,(by simp only [S0,S1]<;>rfl)⟩
  ·have p6b:=bF e0a
   have f7b:=ifN p6b h5a
   refine sP ?_ (hw:=wgF rfl e0a)
   refine sP ?_ (hw:=wgF rfl e0a)
   refine sP ?_ (hw:=wgF rfl e0a)
   refine sP ?_ (hw:=wgF rfl e0a)
   refine sV (Aw (evb rfl e0a) rfl) ?_
   obtain rfl:=sj f7b
   exact HJ30 _ _ ⟨uu,uu,uu,uu,rfl,(by simp only [S0,S1]<;>rfl)⟩
 ·rintro l' _ ⟨t6a,t7a,t8a,t9a,rfl,hq'⟩ l'' hl
  rw [hq'] at hl
  clear hq'
  simp only [S0,S1] at hl
  subst hl
  refine sV3 (Ag (o':=1) BF rfl rfl) (Af DI rfl (Bx.cell (q8.ext E1a) rfl)) (Bb (vals:=[(0,.bool m2a),(1,.slice A1 (sz x0.Abs) c2)]) (cells:=[.bool m2a,.slice A1 (sz x0.Abs) c2]) (by rfl) (by kernel_rfl)) ?_
  refine ss GU q1b fun w3 U8b q9b=>?_
  have F0c:=belU E1a U8b g4a
  have X0b:=xtr E6 F0c
  refine wh h2b<|wp_ret ?_
  obtain rfl:=sj f3b
  exact fin rfl (Res.cellN rfl Dq q9b rfl rfl Res.nil) (Aj X0b ⟨A1,c2,rfl,(n3.ext X0b)⟩)
theorem Fi (x0:Am) (A1:Option Addr) (c2:Nat) (w:World) (hT:TB w) (n3:RU w A1 c2 x0.m.Abs) (r:Except Int (Ak)) (hr:Fp x0=some r) :
  Calls Tryz.prog 136 #[.agg #[.bool x0.m.Neg,.slice A1 (sz x0.m.Abs) c2,.int .i64 x0.e]] w (RetE 201 MZ w r):=by
 unfold Fp at hr
 go_enter Tryz.func136,Tryz.ntmps136
 refine wp_seq_k fun _ h4=>Ae<|Bu rfl rfl fun b5 w1 E6 g7 q8=>?_
 refine nrm ?_
 refine AA Hm fun b9 w2 E3a g2d q9b=>?_
 refine nrm ?_
 have g3d:=nlt E6.size g2d
 have X7a:=xtr E6 E3a
 refine wh h4<|wp_seq_k fun _ h4d=>Ae<|sV3 (Ag (o':=0) CB rfl rfl) (Ag (o':=1) BF rfl rfl) (Af DI rfl (Bx.cell (q8.ext E3a) rfl)) ?_
 refine sV (Ax Aq rfl) ?_
 refine sb (Ie rfl rfl) fun z0c hz0c=>?_
 refine nrm ?_
 refine sV (Aa rfl) ?_
 obtain ⟨m5d,h6d,f7d⟩:=Ab hr
 refine Bm 10 (fun l l' w'=>∃(t1c:Value) (t2c:Value) (t3c:Value),w2=w'∧l'=((((l.set 9 t1c).set 10 t2c).set 11 t3c).set 12 (.bool m5d))) ?_ ?_
 ·intro HJ30
  rcases zi hz0c h6d with ⟨e0a,_,f8d⟩ | ⟨e0a,_,f9d⟩
  ·refine sV (Ag (o':=2) Ef rfl rfl) ?_ (hw:=wgT rfl e0a)
   refine sV (Af EN rfl (Bx.cell (q8.ext E3a) rfl)) ?_ (hw:=wgT rfl e0a)
   refine sb (Ie rfl rfl) ?_ (hw:=wgT rfl e0a)
   intro z8a hz8a
   refine nrm ?_
   refine sV (Ar (evb rfl e0a) rfl) ?_
   obtain rfl:z8a=decide (x0.e≤1048576):=bz hz8a
   obtain rfl:=sj f8d
   exact HJ30 _ _ ⟨(.pointer (some ⟨b5,2,none⟩)),(.int .i64 x0.e),(.bool (decide (x0.e≤1048576))),rfl,(by simp only [S0,S1]<;>rfl)⟩
  ·refine sP ?_ (hw:=wgF rfl e0a)
   refine sP ?_ (hw:=wgF rfl e0a)
   refine sP ?_ (hw:=wgF rfl e0a)
   refine sV (Aw (evb rfl e0a) rfl) ?_
   obtain rfl:=sj f9d
   exact HJ30 _ _ ⟨uu,uu,uu,rfl,(by simp only [S0,S1]<;>rfl)⟩
 ·rintro l' _ ⟨t1c,t2c,t3c,rfl,hq'⟩ l'' hl
  rw [hq'] at hl
  clear hq'
  simp only [S0,S1] at hl
  subst hl
  refine sV (Aa rfl) ?_
  obtain ⟨m9a,h0e,f1e⟩:=Ab f7d
  refine Bm 15 (fun l l' w'=>∃(t4c:Value) (t5c:Value) (t6c:Value),w2=w'∧l'=((((l.set 14 t4c).set 15 t5c).set 16 t6c).set 17 (.bool m9a))) ?_ ?_
  ·intro HJ50
   rcases zb h0e with ⟨e1a,f2e⟩ | ⟨e1a,f3e⟩
   ·refine sV (Ag (o':=2) Ef rfl rfl) ?_ (hw:=wgT rfl e1a)
    refine sV (Af EN rfl (Bx.cell (q8.ext E3a) rfl)) ?_ (hw:=wgT rfl e1a)
    refine sb (Fu rfl rfl) ?_ (hw:=wgT rfl e1a)
    intro z0b hz0b
    refine nrm ?_
    refine sV (Ar (evb rfl e1a) rfl) ?_
    obtain rfl:z0b=decide ((-1048576)≤x0.e):=bz hz0b
    obtain rfl:=sj f2e
    exact HJ50 _ _ ⟨(.pointer (some ⟨b5,2,none⟩)),(.int .i64 x0.e),(.bool (decide ((-1048576)≤x0.e))),rfl,(by simp only [S0,S1]<;>rfl)⟩
   ·refine sP ?_ (hw:=wgF rfl e1a)
    refine sP ?_ (hw:=wgF rfl e1a)
    refine sP ?_ (hw:=wgF rfl e1a)
    refine sV (Aw (evb rfl e1a) rfl) ?_
    obtain rfl:=sj f3e
    exact HJ50 _ _ ⟨uu,uu,uu,rfl,(by simp only [S0,S1]<;>rfl)⟩
  ·rintro l' _ ⟨t4c,t5c,t6c,rfl,hq'⟩ l'' hl
   rw [hq'] at hl
   clear hq'
   simp only [S0,S1] at hl
   subst hl
   rcases AR f1e with ⟨r1b,h2b,f4e⟩ | ⟨r1b,h2b,rfl⟩
   ·refine scO (Ad EI (by rfl)) (Bh m9a 2 w2 (tbx X7a hT)  (.ok r1b) h2b) ?_
    rintro _ w3 E2a rfl
    refine nrm ?_
    have X3b:=xtr X7a E2a
    refine wh h4d<|wp_seq_k fun _ h5e=>Ae<|sV3 (Ag (o':=0) CB rfl rfl) (Ag (o':=1) BF rfl rfl) (Af DI rfl (Bx.cell ((q8.ext E3a).ext E2a) rfl)) ?_
    obtain ⟨r7c,h6e,f7e⟩:=Ab f4e
    refine sc (Ad OU (by rfl)) (c_slices_Clone_wide_Nat x0.m.Abs A1 c2 w3 (tbx X3b hT) (n3.ext X3b) r7c h6e) ?_
    rintro _ w4 E4a ⟨A8e,c9e,rfl,n0f⟩
    refine nrm ?_
    have X1f:=xtr X3b E4a
    refine sV2 (Ag (o':=0) CB rfl rfl) (Ag (o':=1) BF rfl rfl) ?_
    refine ss sz_115 (((q8.ext E3a).ext E2a).ext E4a) fun w5 U4b q8c=>?_
    have X2f:=belU X1f U4b g7
    refine wh h5e<|wp_seq_k fun _ h3f=>Dn [6] 7 mo rfl fun w6 E5a S5b=>have X9c:=xtr X2f E5a;dA 0 rfl (fun _=>Ag (o':=0) CB rfl rfl) ?_
    refine dV 1 rfl (fun _ hw=>AL EH rfl ((q8c.ext E5a).ext hw) (by simp only [List.drop_zero,List.take_succ_cons,List.take_zero];rfl) rfl) S5b ?_
    refine dA 3 rfl (fun _=>Ag (o':=2) Ef rfl rfl) ?_
    refine dV 4 rfl (fun _ hw=>Af EN rfl (Bx.cell ((q8c.ext E5a).ext hw) rfl)) S5b ?_
    have n4f:=(n0f.upd U4b (((q8.ext E3a).ext E2a).ext E4a) (by decide)).ext E5a
    obtain ⟨r6a,h5f,f6f⟩:=Ab f7e
    refine dc 2 rfl (by kernel_rfl) (by rfl) (Ad en_202 (by rfl)) (c_wide_Int_Out (⟨x0.m.Neg,r7c⟩:Ah) A8e c9e w6 (tbx X9c hT) n4f r6a h5f) ?_
    rintro _ w7 E6b ⟨A7b,c8b,rfl,n7f⟩
    refine dnrm ?_
    have X8f:=xtr X9c E6b
    have S3g:=S5b.trans E6b
    refine dA 5 rfl (fun _=>Bb (vals:=[(0,.agg #[.bool r6a.Neg,.slice A7b (sz r6a.Abs) c8b]),(1,.int .i64 x0.e)]) (cells:=[.bool r6a.Neg,.slice A7b (sz r6a.Abs) c8b,.int .i64 x0.e]) (by rfl) (by kernel_rfl)) ?_
    have ne9f:=(Bx.neT ((q9b.ext E2a).ext E4a) (((q8.ext E3a).ext E2a).ext E4a) (by decide))
    have q0d:=((((q9b.ext E2a).ext E4a).upd U4b ne9f).ext E5a).ext E6b
    refine dkk 6 FA q0d fun w8 U1d q0g=>?_
    have X1g:=belU X8f U1d g3d
    refine Cn (by kernel_rfl) ?_
    refine h3f _ _<|wp_ret ?_
    obtain rfl:=sj f6f
    exact fin rfl (Res.cellN rfl Bt q0g rfl rfl Res.nil) (EK X1g ⟨A7b,c8b,rfl,(n7f.upd U1d q0d (by decide))⟩)
   ·refine scP (Ad EI (by rfl)) (Bh m9a 2 w2 (tbx X7a hT)  (.error r1b) h2b) fun w3 E2a=>?_
    have X2g:=xtr X7a E2a
    exact ⟨rfl,Cw X2g⟩
theorem c_dyad_Make (x0:AW) (x1:Int) (A1:Option Addr) (c2:Nat) (w:World) (hT:TB w) (n3:RLu w A1 c2 x0.Abs) (r:Ak × Int) (hr:KS x0 x1=some r) :
  Calls Tryz.prog 60 #[.agg #[.bool x0.Neg,.slice A1 x0.Abs.length c2],.int .i64 x1] w (Ret Nx w r):=by
 unfold KS at hr
 obtain ⟨q0,hq0,hr0⟩:=Ab hr
 unfold Me at hq0
 go_enter_defers Tryz.func60,Tryz.ntmps60
 refine wp_seq_k fun _ h4=>Ae<|Bu rfl rfl fun b5 w1 E6 g7 q8=>?_
 refine nrm ?_
 refine AA Hm fun b9 w2 E7a g2e q8a=>?_
 refine nrm ?_
 have g9a:=nlt E6.size g2e
 have X6c:=xtr E6 E7a
 refine AA JM fun b6b w3 E3a g3e q4a=>?_
 refine nrm ?_
 have g0b:=nlt X6c.size g3e
 have X7b:=xtr X6c E3a
 refine wh h4<|wp_seq_k fun _ h4e=>Ae<|Ic (vs:=[.pointer (some ⟨b9,0,none⟩),.pointer (some ⟨b6b,0,none⟩)]) (by rfl) (by rfl)<|wh h4e<|wp_seq_k fun _ h5e=>Ae<|sV (Al Dq rfl ((q8.ext E7a).ext E3a) rfl) ?_
 obtain ⟨r8b,h6e,f7e⟩:=Ab hq0
 refine sc (Ad NV (by rfl)) (IX x0 A1 c2 w3 (tbx X7b hT) (n3.ext X7b) r8b h6e) ?_
 rintro _ w4 E1a rfl
 refine nrm ?_
 have X1b:=xtr X7b E1a
 rcases AR f7e with ⟨r2b,h9b,f8e⟩ | ⟨r2b,h9b,rfl⟩
 ·refine scO (Ad EI (by rfl)) (Bh r8b 1 w4 (tbx X1b hT)  (.ok r2b) h9b) ?_
  rintro _ w5 E0a rfl
  refine nrm ?_
  have X3b:=xtr X1b E0a
  refine wh h5e<|wp_seq_k fun _ h9e=>wp_seq_k fun _ h0f=>Ae<|sV (Ag (o':=1) Bf rfl rfl) ?_
  have q7c:=(((q8.ext E7a).ext E3a).ext E1a).ext E0a
  refine sV2 (Af BJ rfl (Bx.cell q7c rfl)) (Ax AH rfl) ?_
  refine sb (Bl rfl rfl) fun z8c hz8c=>?_
  refine nrm ?_
  refine wh h0f ?_
  rcases zi hz8c f8e with ⟨e0c,_,f1f⟩ | ⟨e0c,_,f2f⟩
  ·refine wp_cond_true (Ai (evb rfl e0c))<|wp_seq_k fun _ h3f=>Ae<|sV (Bb (vals:=[]) (cells:=[.bool false,.slice none 0 0,.int .i64 0]) (by rfl) (by kernel_rfl)) ?_
   have q9c:=((q8a.ext E3a).ext E1a).ext E0a
   refine ss FA q9c fun w6 U0d q4f=>?_
   have X5f:=belU X3b U0d g9a
   have ne1d:=(Bx.neT ((q4a.ext E1a).ext E0a) q9c (by decide))
   have q6f:=((q4a.ext E1a).ext E0a).upd U0d ne1d
   refine ss HU q6f fun w7 U2d q7f=>?_
   have X8f:=belU X5f U2d g0b
   refine wh h3f<|wp_ret ?_
   obtain rfl:=sj f1f
   obtain rfl:=sj hr0
   exact Nu Ht KK rfl (Res.cellN rfl Bt (q4f.upd U2d (Ne.symm ne1d)) rfl rfl (Res.cell1 rfl Dy (Bx.cell q7f rfl) Res.nil)) (Aj X8f ⟨none,0,rfl,(RU.nil _)⟩)
  ·refine wp_cond_false (Ai (evb rfl e0c))<|wp_skip<|h9e _ _<|wp_seq_k fun _ h9f=>Ae<|sV (Ac rfl) ?_
   refine wh h9f<|wp_seq_k fun _ h0g=>Ae<|sV (Al Dq rfl q7c rfl) ?_
   obtain ⟨m3d,h1g,f2g⟩:=Ab f2f
   have hx4d:=BO h1g
   have n3g:RU w5 A1 c2 m3d:=by unfold RU;rw [hx4d];exact (n3.ext X3b)
   obtain ⟨r5d,h4g,f5g⟩:=Ab f2g
   refine sc (Ad OH (by simp only [sz,hx4d];rfl)) (Lq (⟨x0.Neg,m3d⟩:Ah) A1 c2 w5 (tbx X3b hT) n3g r5d h4g) ?_
   rintro _ w6 E5a ⟨A6g,c7g,rfl,n8g⟩
   refine nrm ?_
   have X6d:=xtr X3b E5a
   refine sV2 (Aa rfl) (PK (c:=(-1099511627776)) rfl (by decide)) ?_
   refine sV3 (Aa rfl) (Aa rfl) (Oc rfl rfl) ?_
   refine sV (Nm rfl rfl) ?_
   obtain ⟨r1c,h9g,f0h⟩:=Ab f5g
   refine sc (Ad LN (by rfl)) (Gz r5d (max (-1099511627776) (min x1 1099511627776)) A6g c7g w6 (tbx X6d hT) n8g r1c h9g) ?_
   rintro _ w7 E6a ⟨A7d,c8d,rfl,n9d⟩
   refine nrm ?_
   have X4b:=xtr X6d E6a
   rcases AR f0h with ⟨r5b,h2c,f1h⟩ | ⟨r5b,h2c,rfl⟩
   ·refine scO (Ad Ls (by rfl)) (Fi r1c A7d c8d w7 (tbx X4b hT) n9d (.ok r5b) h2c) ?_
    rintro _ w8 E2a ⟨A2h,c3h,rfl,n4h⟩
    refine nrm ?_
    have X5h:=xtr X4b E2a
    have q3c:=(((((q8a.ext E3a).ext E1a).ext E0a).ext E5a).ext E6a).ext E2a
    refine ss FA q3c fun w9 U4c q6h=>?_
    have X7h:=belU X5h U4c g9a
    have ne0e:=(Bx.neT (((((q4a.ext E1a).ext E0a).ext E5a).ext E6a).ext E2a) q3c (by decide))
    have q1e:=(((((q4a.ext E1a).ext E0a).ext E5a).ext E6a).ext E2a).upd U4c ne0e
    refine ss HU q1e fun w7a U5c q8h=>?_
    have X9h:=belU X7h U5c g0b
    refine wh h0g<|wp_ret ?_
    have n0i:=(n4h.upd U4c q3c (by decide)).upd U5c q1e (by decide)
    obtain rfl:=sj f1h
    obtain rfl:=sj hr0
    exact Nu Ht KK rfl (Res.cellN rfl Bt (q6h.upd U5c (Ne.symm ne0e)) rfl rfl (Res.cell1 rfl Dy (Bx.cell q8h rfl) Res.nil)) (Aj X9h ⟨A2h,c3h,rfl,n0i⟩)
   ·refine scP (Ad Ls (by rfl)) (Fi r1c A7d c8d w7 (tbx X4b hT) n9d (.error r5b) h2c) fun w8 E2a=>?_
    have X1i:=xtr X4b E2a
    have q2i:=(((((q8a.ext E3a).ext E1a).ext E0a).ext E5a).ext E6a).ext E2a
    have q3i:=((((q4a.ext E1a).ext E0a).ext E5a).ext E6a).ext E2a
    refine JP KK (EQ b9 b6b (.bool false:Value) (.slice none 0 0:Value) (.int .i64 0:Value) (.int .i64 0:Value) r5b q2i q3i) rfl ?_
    rintro w9 ⟨u9,q9,q9'⟩
    obtain rfl:=sj hr0
    exact ⟨_,(Res.cellN rfl Bt q9 rfl rfl (Res.cell1 rfl Dy (Bx.cell q9' rfl) Res.nil)),Aj (u9.toExt X1i g9a g0b) ⟨none,0,rfl,RU.nil _⟩⟩
 ·refine scP (Ad EI (by rfl)) (Bh r8b 1 w4 (tbx X1b hT)  (.error r2b) h9b) fun w5 E0a=>?_
  have X4i:=xtr X1b E0a
  have q5i:=((q8a.ext E3a).ext E1a).ext E0a
  refine JP KK (EQ b9 b6b (.bool false:Value) (.slice none 0 0:Value) (.int .i64 0:Value) (.int .i64 0:Value) r2b q5i ((q4a.ext E1a).ext E0a)) rfl ?_
  rintro w9 ⟨u9,q9,q9'⟩
  obtain rfl:=sj hr0
  exact ⟨_,(Res.cellN rfl Bt q9 rfl rfl (Res.cell1 rfl Dy (Bx.cell q9' rfl) Res.nil)),Aj (u9.toExt X4i g9a g0b) ⟨none,0,rfl,RU.nil _⟩⟩
theorem JY (x0:Ah) (x1:Int) (A1:Option Addr) (c2:Nat) (w:World) (hT:TB w) (n3:RU w A1 c2 x0.Abs) (r:Ak) (hr:ED x0 x1=some r) :
  Calls Tryz.prog 62 #[.agg #[.bool x0.Neg,.slice A1 (sz x0.Abs) c2],.int .i64 x1] w (Ret MZ w r):=by
 unfold ED at hr
 go_enter Tryz.func62,Tryz.ntmps62
 refine wp_seq_k fun _ h4=>Ae<|Bu rfl rfl fun b5 w1 E6 g7 q8=>?_
 refine nrm ?_
 refine AA Hm fun b9 w2 E0a g2b q3b=>?_
 refine nrm ?_
 have g7b:=nlt E6.size g2b
 have X7a:=xtr E6 E0a
 refine wh h4<|wp_seq_k fun _ h8b=>wp_seq_k fun _ h9b=>Ae<|sV3 (Ag (o':=1) Bf rfl rfl) (Af BJ rfl (Bx.cell (q8.ext E0a) rfl)) (Ax AH rfl) ?_
 refine sb (Bl rfl rfl) fun z4b hz4b=>?_
 refine nrm ?_
 refine wh h9b ?_
 rcases zi hz4b hr with ⟨e8a,_,f32⟩ | ⟨e8a,_,f0c⟩
 ·refine wp_cond_true (Ai (evb rfl e8a))<|wp_seq_k fun _ h1c=>Ae<|sV (Bb (vals:=[]) (cells:=[.bool false,.slice none 0 0,.int .i64 0]) (by rfl) (by kernel_rfl)) ?_
  refine ss FA q3b fun w3 U2c q3c=>?_
  have F4c:=belU E0a U2c g2b
  have X5c:=xtr E6 F4c
  refine wh h1c<|wp_ret ?_
  obtain rfl:=sj f32
  exact fin rfl (Res.cellN rfl Bt q3c rfl rfl Res.nil) (Aj X5c ⟨none,0,rfl,(RU.nil _)⟩)
 ·refine wp_cond_false (Ai (evb rfl e8a))<|wp_skip<|h8b _ _<|wp_seq_k fun _ h6c=>Ae<|sV2 (Ag (o':=1) Bf rfl rfl) (Af BJ rfl (Bx.cell (q8.ext E0a) rfl)) ?_
  obtain ⟨r1a,h7c,f8c⟩:=Ab f0c
  refine sc (Ad en_153 (by rfl)) (HD x0.Abs A1 c2 w2 (tbx X7a hT) (n3.ext X7a) r1a h7c) ?_
  rintro _ w3 E5a rfl
  refine nrm ?_
  have X9c:=xtr X7a E5a
  refine sV (Ac rfl) ?_
  refine wh h6c<|wp_seq_k fun _ h0d=>Dn [11] 12 mo rfl fun w4 E6a S9a=>have X0b:=xtr X9c E6a;dA 0 rfl (fun _=>Ag (o':=0) DF rfl rfl) ?_
  refine dV 1 rfl (fun _ hw=>Af GC rfl (Bx.cell ((((q8.ext E0a).ext E5a).ext E6a).ext hw) rfl)) S9a ?_
  refine dA 2 rfl (fun _=>Ag (o':=1) Bf rfl rfl) ?_
  refine dV 3 rfl (fun _ hw=>Af BJ rfl (Bx.cell ((((q8.ext E0a).ext E5a).ext E6a).ext hw) rfl)) S9a ?_
  refine dA 4 rfl (fun _=>Aa rfl) ?_
  refine dA 7 rfl (fun _=>Aa rfl) ?_
  refine dA 8 rfl (fun _=>Aa rfl) ?_
  refine dA 9 rfl (fun _=>AM (c:=wi64 (x1+r1a)) rfl rfl rfl) ?_
  obtain ⟨r2a,h1d,f2d⟩:=Ab f8c
  refine dc 5 rfl (by kernel_rfl) (by rfl) (Ad OG (by rfl)) (Hd x0.Abs r1a A1 c2 w4 (tbx X0b hT) (n3.ext X0b) r2a h1d) ?_
  rintro _ w5 E1b ⟨A3a,c4a,rfl,n3d⟩
  refine dnrm ?_
  have X4d:=xtr X0b E1b
  have S7d:=S9a.trans E1b
  refine dA 6 rfl (fun _=>Bb (vals:=[(0,.bool x0.Neg),(1,.slice A3a (sz r2a) c4a)]) (cells:=[.bool x0.Neg,.slice A3a (sz r2a) c4a]) (by rfl) (by kernel_rfl)) ?_
  refine dA 10 rfl (fun _=>Bb (vals:=[(0,.agg #[.bool x0.Neg,.slice A3a (sz r2a) c4a]),(1,.int .i64 (wi64 (x1+r1a)))]) (cells:=[.bool x0.Neg,.slice A3a (sz r2a) c4a,.int .i64 (wi64 (x1+r1a))]) (by rfl) (by kernel_rfl)) ?_
  have q5b:=((q3b.ext E5a).ext E6a).ext E1b
  refine dkk 11 FA q5b fun w6 U6b q5d=>?_
  have X6d:=belU X4d U6b g7b
  refine Cn (by kernel_rfl) ?_
  refine h0d _ _<|wp_ret ?_
  obtain rfl:=sj f2d
  exact fin rfl (Res.cellN rfl Bt q5d rfl rfl Res.nil) (Aj X6d ⟨A3a,c4a,rfl,(n3d.upd U6b q5b (by decide))⟩)
theorem BH (x0:Int) (x1:Int) (w:World) (hT:TB w) (r:Ak) (hr:Bj x0 x1=some r) :
  Calls Tryz.prog 38 #[.int .i64 x0,.int .i64 x1] w (Ret MZ w r):=by
 unfold Bj at hr
 go_enter Tryz.func38,Tryz.ntmps38
 refine wp_seq_k fun _ h1=>Ae<|AA Hm fun b2 w1 E3 g4 q5=>?_
 refine nrm ?_
 refine wh h1<|wp_seq_k fun _ h6=>Ae<|sV (Aa rfl) ?_
 obtain ⟨r7,h8,f9⟩:=Ab hr
 refine sc (Ad Rh (by rfl)) (Jd x0 w1 (tbx E3 hT)  r7 h8) ?_
 rintro _ w2 E0a ⟨A4a,c5a,rfl,n6a⟩
 refine nrm ?_
 have X2a:=xtr E3 E0a
 refine sV (Aa rfl) ?_
 obtain ⟨r7a,h8a,f9a⟩:=Ab f9
 refine sc (Ad QZ (by rfl)) (JY r7 x1 A4a c5a w2 (tbx X2a hT) n6a r7a h8a) ?_
 rintro _ w3 E1a ⟨A0b,c1b,rfl,n2b⟩
 refine nrm ?_
 have X3b:=xtr X2a E1a
 refine ss FA ((q5.ext E0a).ext E1a) fun w4 U3a q4b=>?_
 have X5b:=belU X3b U3a g4
 refine wh h6<|wp_ret ?_
 have n6b:=n2b.upd U3a ((q5.ext E0a).ext E1a) (by decide)
 obtain rfl:=sj f9a
 exact fin rfl (Res.cellN rfl Bt q4b rfl rfl Res.nil) (Aj X5b ⟨A0b,c1b,rfl,n6b⟩)
theorem IF (x0:Ap) (A1:Option Addr) (c2:Nat) (w:World) (hT:TB w) (n3:RLu w A1 c2 x0.Man.Abs) (r:Bool) (hr:CF x0=some r) :
  Calls Tryz.prog 64 #[.agg #[.bool x0.Man.Neg,.slice A1 x0.Man.Abs.length c2,.int .i64 x0.Exp]] w (Ret Gq w r):=by
 unfold CF at hr
 go_enter Tryz.func64,Tryz.ntmps64
 refine wp_seq_k fun _ h4=>Ae<|Bu rfl rfl fun b5 w1 E6 g7 q8=>?_
 refine nrm ?_
 refine sV (Ac rfl) ?_
 refine wh h4<|wp_seq_k fun _ h9=>wp_seq_k fun _ h8b=>Ae<|sV2 (Ag (o':=0) Ey rfl rfl) (AL Dq rfl q8 (by simp only [List.drop_zero,List.take_succ_cons,List.take_zero];rfl) rfl) ?_
 obtain ⟨r9b,h0c,f1c⟩:=Ab hr
 refine sc (Ad NV (by rfl)) (IX x0.Man A1 c2 w1 (tbx E6 hT) (n3.ext E6) r9b h0c) ?_
 rintro _ w2 E2a rfl
 refine nrm ?_
 have X3a:=xtr E6 E2a
 refine sb (Fv rfl) fun z9a hz9a=>?_
 refine nrm ?_
 refine wh h8b ?_
 rcases zi hz9a f1c with ⟨e4a,_,f2c⟩ | ⟨e4a,_,f3c⟩
 ·refine wp_cond_true (Ai (evb rfl e4a))<|wp_seq_k fun _ h4c=>Ae<|sV (Ac rfl) ?_
  refine wh h4c<|wp_ret ?_
  obtain rfl:=sj f2c
  exact fin rfl (Res.tmp rfl Res.nil) (Aj X3a rfl)
 ·refine wp_cond_false (Ai (evb rfl e4a))<|wp_skip<|h9 _ _<|wp_seq_k fun _ h5c=>wp_seq_k fun _ h6c=>Ae<|sV3 (Ag (o':=0) Ey rfl rfl) (Ag (o':=1) Bf rfl rfl) (Af BJ rfl (Bx.cell (q8.ext E2a) rfl)) ?_
  refine sV (Ax AH rfl) ?_
  refine sb (Bl rfl rfl) fun z0b hz0b=>?_
  refine nrm ?_
  refine wh h6c ?_
  rcases zi hz0b f3c with ⟨e5a,_,f7c⟩ | ⟨e5a,_,f8c⟩
  ·refine wp_cond_true (Ai (evb rfl e5a))<|wp_seq_k fun _ h9c=>Ae<|sV2 (Ag (o':=2) EZ rfl rfl) (Af EN rfl (Bx.cell (q8.ext E2a) rfl)) ?_
   refine sb (Bl rfl rfl) fun z6a hz6a=>?_
   refine nrm ?_
   refine sV (Ac rfl) ?_
   refine wh h9c<|wp_ret ?_
   obtain rfl:z6a=decide (x0.Exp=0):=bz hz6a
   obtain rfl:=sj f7c
   exact fin rfl (Res.tmp rfl Res.nil) (Aj X3a rfl)
  ·refine wp_cond_false (Ai (evb rfl e5a))<|wp_skip<|h5c _ _<|wp_seq_k fun _ h0d=>Ae<|sV3 (Ag (o':=0) Ey rfl rfl) (Ag (o':=1) Bf rfl rfl) (Af BJ rfl (Bx.cell (q8.ext E2a) rfl)) ?_
   obtain ⟨u6e,h1d,f2d⟩:=Ab f8c
   obtain ⟨bb47,oo48,hA3d,ia4d,ib5d,hc50⟩:=RL.nth (n3.ext X3a) h1d
   refine sV3 (As AH An rfl rfl hA3d ia4d ib5d) (Af AQ rfl hc50) (OE (k:=.u32) rfl rfl) ?_
   refine sb (Bl rfl rfl) fun z1b hz1b=>?_
   refine nrm ?_
   refine sV (Aa rfl) ?_
   obtain ⟨m6d,h7d,f8d⟩:=Ab f2d
   refine Bm 12 (fun l l' w'=>∃(t2b:Value) (t3b:Value) (t4b:Value),w2=w'∧l'=((((l.set 23 t2b).set 24 t3b).set 25 t4b).set 26 (.bool m6d))) ?_ ?_
   ·intro HJ68
    rcases zi hz1b h7d with ⟨e0a,_,f9d⟩ | ⟨e0a,_,f0e⟩
    ·refine sV (Ag (o':=2) EZ rfl rfl) ?_ (hw:=wgT rfl e0a)
     refine sV (Af EN rfl (Bx.cell (q8.ext E2a) rfl)) ?_ (hw:=wgT rfl e0a)
     refine sb (Ie rfl rfl) ?_ (hw:=wgT rfl e0a)
     intro z7a hz7a
     refine nrm ?_
     refine sV (Ar (evb rfl e0a) rfl) ?_
     obtain rfl:z7a=decide (x0.Exp≤1048576):=bz hz7a
     obtain rfl:=sj f9d
     exact HJ68 _ _ ⟨(.pointer (some ⟨b5,2,none⟩)),(.int .i64 x0.Exp),(.bool (decide (x0.Exp≤1048576))),rfl,(by simp only [S0,S1]<;>rfl)⟩
    ·refine sP ?_ (hw:=wgF rfl e0a)
     refine sP ?_ (hw:=wgF rfl e0a)
     refine sP ?_ (hw:=wgF rfl e0a)
     refine sV (Aw (evb rfl e0a) rfl) ?_
     obtain rfl:=sj f0e
     exact HJ68 _ _ ⟨uu,uu,uu,rfl,(by simp only [S0,S1]<;>rfl)⟩
   ·rintro l' _ ⟨t2b,t3b,t4b,rfl,hq'⟩ l'' hl
    rw [hq'] at hl
    clear hq'
    simp only [S0,S1] at hl
    subst hl
    refine sV (Aa rfl) ?_
    obtain ⟨m1e,h2e,f3e⟩:=Ab f8d
    refine Bm 17 (fun l l' w'=>∃(t5b:Value) (t6b:Value) (t7b:Value),w2=w'∧l'=((((l.set 28 t5b).set 29 t6b).set 30 t7b).set 31 (.bool m1e))) ?_ ?_
    ·intro HJ88
     rcases zb h2e with ⟨e1a,f4e⟩ | ⟨e1a,f5e⟩
     ·refine sV (Ag (o':=2) EZ rfl rfl) ?_ (hw:=wgT rfl e1a)
      refine sV (Af EN rfl (Bx.cell (q8.ext E2a) rfl)) ?_ (hw:=wgT rfl e1a)
      refine sb (Fu rfl rfl) ?_ (hw:=wgT rfl e1a)
      intro z8a hz8a
      refine nrm ?_
      refine sV (Ar (evb rfl e1a) rfl) ?_
      obtain rfl:z8a=decide ((-1048576)≤x0.Exp):=bz hz8a
      obtain rfl:=sj f4e
      exact HJ88 _ _ ⟨(.pointer (some ⟨b5,2,none⟩)),(.int .i64 x0.Exp),(.bool (decide ((-1048576)≤x0.Exp))),rfl,(by simp only [S0,S1]<;>rfl)⟩
     ·refine sP ?_ (hw:=wgF rfl e1a)
      refine sP ?_ (hw:=wgF rfl e1a)
      refine sP ?_ (hw:=wgF rfl e1a)
      refine sV (Aw (evb rfl e1a) rfl) ?_
      obtain rfl:=sj f5e
      exact HJ88 _ _ ⟨uu,uu,uu,rfl,(by simp only [S0,S1]<;>rfl)⟩
    ·rintro l' _ ⟨t5b,t6b,t7b,rfl,hq'⟩ l'' hl
     rw [hq'] at hl
     clear hq'
     simp only [S0,S1] at hl
     subst hl
     refine sV (Ac rfl) ?_
     refine wh h0d<|wp_ret ?_
     obtain rfl:=sj f3e
     exact fin rfl (Res.tmp rfl Res.nil) (Aj X3a rfl)
theorem EG (x0_0:Ap) (bp0:Nat) (A1:Option Addr) (c2:Nat) (w:World) (hT:TB w) (n3:RLu w A1 c2 x0_0.Man.Abs) (q4:Bx w bp0 27 [.bool x0_0.Man.Neg,.slice A1 x0_0.Man.Abs.length c2,.int .i64 x0_0.Exp]) (r:Except Int (Unit)) (hr:CY x0_0=some r) :
  Calls Tryz.prog 120 #[.slice (some ⟨bp0,0,none⟩) 1 1] w (RetE 201 Ld w r):=by
 unfold CY at hr
 go_enter Tryz.func120,Tryz.ntmps120
 refine wp_seq_k fun _ h5=>Ae<|sV3 (Aa rfl) (Ax LK rfl) (Aa rfl) ?_
 refine wh h5 ?_
 apply wp_block
 refine Ia<|AV<|wp_seq_k fun _ h6=>Ae<|sV (JH (v:=.bool true) (Cj rfl rfl) (by rfl)) ?_
 refine wh h6<|wp_seq_k fun _ h7=>wp_cond_true (Ai (evb rfl rfl))<|wp_skip<|h7 _ _<|wp_seq_k fun _ h8=>?_
 apply wp_block
 refine wp_seq_k fun _ h9=>Ae<|sV (Iu (o':=0) LK FA rfl rfl (by decide) (by decide) (by decide)) ?_
 refine sV (Al Bt rfl q4 rfl) ?_
 refine AA Hm fun b8b w1 E6a g7a q8a=>?_
 refine nrm ?_
 refine ss FA q8a fun w2 U9a q0b=>?_
 have F1a:=belU E6a U9a g7a
 refine wh h9<|Ae<|sV (Al Bt rfl q0b rfl) ?_
 obtain ⟨r2a,h1b,f2b⟩:=Ab hr
 refine sc (Ad Ou (by rfl)) (IF x0_0 A1 c2 w2 (tbx F1a hT) (n3.ext F1a) r2a h1b) ?_
 rintro _ w3 E3b rfl
 refine nrm ?_
 have X0a:=xtr F1a E3b
 rcases AR f2b with ⟨r3a,h4a,f4b⟩ | ⟨r3a,h4a,rfl⟩
 ·refine scO (Ad EI (by rfl)) (Bh r2a 1 w3 (tbx X0a hT)  (.ok r3a) h4a) ?_
  rintro _ w4 E5a rfl
  refine nrm ?_
  have X5b:=xtr X0a E5a
  refine wh h8<|Ae<|sV (AM (c:=1) rfl rfl (by decide)) ?_
  refine sV (Aa rfl) ?_
  refine AG<|AV<|wp_seq_k fun _ h6b=>Ae<|sV (JH (v:=.bool false) (Cj rfl rfl) (by rfl)) ?_
  refine wh h6b<|wp_seq_k fun _ h9b=>wp_cond_false (Ai (evb rfl rfl))<|wp_exit ?_
  simp only [Exit.then,Exit.inBlock,↓reduceIte,Nat.reduceEqDiff]
  obtain rfl:=sj f4b
  exact Nb rfl Res.nil (EK X5b rfl)
 ·refine scP (Ad EI (by rfl)) (Bh r2a 1 w3 (tbx X0a hT)  (.error r3a) h4a) fun w4 E5a=>?_
  have X7b:=xtr X0a E5a
  exact ⟨rfl,Cw X7b⟩
theorem GT (x0:Int) (w:World) (hT:TB w) (r:Except Int (Unit)) (hr:Ik x0=some r) :
  Calls Tryz.prog 138 #[.int .i64 x0] w (RetE 201 Ld w r):=by
 unfold Ik at hr
 go_enter Tryz.func138,Tryz.ntmps138
 refine Ae<|sV (Aa rfl) ?_
 refine sb (Fu rfl rfl) fun z1 hz1=>?_
 refine nrm ?_
 refine sV (Aa rfl) ?_
 obtain ⟨m8,h9,f7a⟩:=Ab hr
 refine Bm 6 (fun l l' w'=>∃(t5a:Value) (t6a:Value),w=w'∧l'=(((l.set 5 t5a).set 6 t6a).set 7 (.bool m8))) ?_ ?_
 ·intro HJ14
  rcases zi hz1 h9 with ⟨e0a,_,f8a⟩ | ⟨e0a,_,f9a⟩
  ·refine sV (Aa rfl) ?_ (hw:=wgT rfl e0a)
   refine sb (Ie rfl rfl) ?_ (hw:=wgT rfl e0a)
   intro z1a hz1a
   refine nrm ?_
   refine sV (Ar (evb rfl e0a) rfl) ?_
   obtain rfl:z1a=decide (x0≤4096):=bz hz1a
   obtain rfl:=sj f8a
   exact HJ14 _ _ ⟨(.int .i64 x0),(.bool (decide (x0≤4096))),rfl,(by simp only [S0,S1]<;>rfl)⟩
  ·refine sP ?_ (hw:=wgF rfl e0a)
   refine sP ?_ (hw:=wgF rfl e0a)
   refine sV (Aw (evb rfl e0a) rfl) ?_
   obtain rfl:=sj f9a
   exact HJ14 _ _ ⟨uu,uu,rfl,(by simp only [S0,S1]<;>rfl)⟩
 ·rintro l' _ ⟨t5a,t6a,rfl,hq'⟩ l'' hl
  rw [hq'] at hl
  clear hq'
  simp only [S0,S1] at hl
  subst hl
  rcases AR f7a with ⟨r2a,h3a,f0b⟩ | ⟨r2a,h3a,rfl⟩
  ·refine scO (Ad EI (by rfl)) (Bh m8 1 w hT  (.ok r2a) h3a) ?_
   rintro _ w1 E4a rfl
   refine nrm ?_
   refine AG ?_
   obtain rfl:=sj f0b
   exact Nb rfl Res.nil (EK E4a rfl)
  ·refine scP (Ad EI (by rfl)) (Bh m8 1 w hT  (.error r2a) h3a) fun w1 E4a=>?_
   exact ⟨rfl,Cw E4a⟩
theorem KL (x0:Int) (w:World) (hT:TB w) (r:Except Int (Unit)) (hr:Jo x0=some r) :
  Calls Tryz.prog 139 #[.int .i64 x0] w (RetE 201 Ld w r):=by
 unfold Jo at hr
 go_enter Tryz.func139,Tryz.ntmps139
 refine Ae<|sV (Aa rfl) ?_
 refine sb (Fu rfl rfl) fun z1 hz1=>?_
 refine nrm ?_
 refine sV (Aa rfl) ?_
 obtain ⟨m8,h9,f7a⟩:=Ab hr
 refine Bm 6 (fun l l' w'=>∃(t5a:Value) (t6a:Value),w=w'∧l'=(((l.set 5 t5a).set 6 t6a).set 7 (.bool m8))) ?_ ?_
 ·intro HJ14
  rcases zi hz1 h9 with ⟨e0a,_,f8a⟩ | ⟨e0a,_,f9a⟩
  ·refine sV (Aa rfl) ?_ (hw:=wgT rfl e0a)
   refine sb (Ie rfl rfl) ?_ (hw:=wgT rfl e0a)
   intro z1a hz1a
   refine nrm ?_
   refine sV (Ar (evb rfl e0a) rfl) ?_
   obtain rfl:z1a=decide (x0≤5):=bz hz1a
   obtain rfl:=sj f8a
   exact HJ14 _ _ ⟨(.int .i64 x0),(.bool (decide (x0≤5))),rfl,(by simp only [S0,S1]<;>rfl)⟩
  ·refine sP ?_ (hw:=wgF rfl e0a)
   refine sP ?_ (hw:=wgF rfl e0a)
   refine sV (Aw (evb rfl e0a) rfl) ?_
   obtain rfl:=sj f9a
   exact HJ14 _ _ ⟨uu,uu,rfl,(by simp only [S0,S1]<;>rfl)⟩
 ·rintro l' _ ⟨t5a,t6a,rfl,hq'⟩ l'' hl
  rw [hq'] at hl
  clear hq'
  simp only [S0,S1] at hl
  subst hl
  rcases AR f7a with ⟨r2a,h3a,f0b⟩ | ⟨r2a,h3a,rfl⟩
  ·refine scO (Ad EI (by rfl)) (Bh m8 1 w hT  (.ok r2a) h3a) ?_
   rintro _ w1 E4a rfl
   refine nrm ?_
   refine AG ?_
   obtain rfl:=sj f0b
   exact Nb rfl Res.nil (EK E4a rfl)
  ·refine scP (Ad EI (by rfl)) (Bh m8 1 w hT  (.error r2a) h3a) fun w1 E4a=>?_
   exact ⟨rfl,Cw E4a⟩
theorem HM (x0:Ak) (A1:Option Addr) (c2:Nat) (w:World) (hT:TB w) (n3:RU w A1 c2 x0.Man.Abs) (r:Am) (hr:Gg x0=some r) :
  Calls Tryz.prog 121 #[.agg #[.bool x0.Man.Neg,.slice A1 (sz x0.Man.Abs) c2,.int .i64 x0.Exp]] w (Ret IS w r):=by
 unfold Gg at hr
 go_enter Tryz.func121,Tryz.ntmps121
 refine wp_seq_k fun _ h4=>Ae<|Bu rfl rfl fun b5 w1 E6 g7 q8=>?_
 refine nrm ?_
 refine AA Bn fun b9 w2 E3a g0b q8a=>?_
 refine nrm ?_
 have g1b:=nlt E6.size g0b
 have X2b:=xtr E6 E3a
 refine wh h4<|wp_seq_k fun _ h3b=>Dn [6] 7 mo rfl fun w3 E0a S4a=>have X5a:=xtr X2b E0a;dA 0 rfl (fun _=>Ag (o':=0) Ey rfl rfl) ?_
 refine dV 1 rfl (fun _ hw=>AL Dq rfl (((q8.ext E3a).ext E0a).ext hw) (by simp only [List.drop_zero,List.take_succ_cons,List.take_zero];rfl) rfl) S4a ?_
 refine dA 3 rfl (fun _=>Ag (o':=2) EZ rfl rfl) ?_
 refine dV 4 rfl (fun _ hw=>Af EN rfl (Bx.cell (((q8.ext E3a).ext E0a).ext hw) rfl)) S4a ?_
 obtain ⟨r1a,h4b,f5b⟩:=Ab hr
 refine dc 2 rfl (by kernel_rfl) (by rfl) (Ad OH (by rfl)) (Lq x0.Man A1 c2 w3 (tbx X5a hT) (n3.ext X5a) r1a h4b) ?_
 rintro _ w4 E2a ⟨A6a,c7a,rfl,n6b⟩
 refine dnrm ?_
 have X7b:=xtr X5a E2a
 have S1c:=S4a.trans E2a
 refine dA 5 rfl (fun _=>Bb (vals:=[(0,.agg #[.bool r1a.Neg,.slice A6a (sz r1a.Abs) c7a]),(1,.int .i64 x0.Exp)]) (cells:=[.bool r1a.Neg,.slice A6a (sz r1a.Abs) c7a,.int .i64 x0.Exp]) (by rfl) (by kernel_rfl)) ?_
 refine dkk 6 CL ((q8a.ext E0a).ext E2a) fun w5 U9a q8b=>?_
 have X9b:=belU X7b U9a g1b
 refine Cn (by kernel_rfl) ?_
 refine h3b _ _<|wp_ret ?_
 have n0c:=n6b.upd U9a ((q8a.ext E0a).ext E2a) (by decide)
 obtain rfl:=sj f5b
 exact fin rfl (Res.cellN rfl AN q8b rfl rfl Res.nil) (Aj X9b ⟨A6a,c7a,rfl,n0c⟩)
theorem JL (x0:Ah) (x1:Int) (A1:Option Addr) (c2:Nat) (w:World) (hT:TB w) (n3:RU w A1 c2 x0.Abs) (r:Ah) (hr:GJ x0 x1=some r) :
  Calls Tryz.prog 203 #[.agg #[.bool x0.Neg,.slice A1 (sz x0.Abs) c2],.int .i64 x1] w (Ret Mn w r):=by
 unfold GJ at hr
 go_enter Tryz.func203,Tryz.ntmps203
 refine wp_seq_k fun _ h4=>Ae<|Bu rfl rfl fun b5 w1 E6 g7 q8=>?_
 refine nrm ?_
 refine AA Ib fun b9 w2 E2a g0b q8a=>?_
 refine nrm ?_
 have g1b:=nlt E6.size g0b
 have X2b:=xtr E6 E2a
 refine wh h4<|wp_seq_k fun _ h3b=>Dn [7] 8 mo rfl fun w3 E0a S3a=>have X4a:=xtr X2b E0a;dA 0 rfl (fun _=>Ag (o':=0) Fz rfl rfl) ?_
 refine dV 1 rfl (fun _ hw=>Af GC rfl (Bx.cell (((q8.ext E2a).ext E0a).ext hw) rfl)) S3a ?_
 refine dA 2 rfl (fun _=>Ag (o':=1) BF rfl rfl) ?_
 refine dV 3 rfl (fun _ hw=>Af DI rfl (Bx.cell (((q8.ext E2a).ext E0a).ext hw) rfl)) S3a ?_
 refine dA 4 rfl (fun _=>Aa rfl) ?_
 obtain ⟨r5a,h4b,f5b⟩:=Ab hr
 refine dc 5 rfl (by kernel_rfl) (by rfl) (Ad KG (by rfl)) (DT x0.Abs x1 A1 c2 w3 (tbx X4a hT) (n3.ext X4a) r5a h4b) ?_
 rintro _ w4 E1a ⟨A6a,c7a,rfl,n6b⟩
 refine dnrm ?_
 have X7b:=xtr X4a E1a
 have S1c:=S3a.trans E1a
 refine dA 6 rfl (fun _=>Bb (vals:=[(0,.bool x0.Neg),(1,.slice A6a (sz r5a) c7a)]) (cells:=[.bool x0.Neg,.slice A6a (sz r5a) c7a]) (by rfl) (by kernel_rfl)) ?_
 refine dkk 7 Hr ((q8a.ext E0a).ext E1a) fun w5 U9a q8b=>?_
 have X9b:=belU X7b U9a g1b
 refine Cn (by kernel_rfl) ?_
 refine h3b _ _<|wp_ret ?_
 have n0c:=n6b.upd U9a ((q8a.ext E0a).ext E1a) (by decide)
 obtain rfl:=sj f5b
 exact fin rfl (Res.cellN rfl EH q8b rfl rfl Res.nil) (Aj X9b ⟨A6a,c7a,rfl,n0c⟩)
theorem c_wide_Away (x0:Bool) (x1:Int) (x2:Bool) (x3:Bool) (x4:Int) (w:World) (hT:TB w) (r:Bool) (hr:Lc x0 x1 x2 x3 x4=some r) :
  Calls Tryz.prog 206 #[.bool x0,.int .i64 x1,.bool x2,.bool x3,.int .i64 x4] w (Ret Gq w r):=by
 unfold Lc at hr
 go_enter Tryz.func206,Tryz.ntmps206
 refine wp_seq_k fun _ h1=>Ae<|sV (Ac rfl) ?_
 refine wh h1<|wp_seq_k fun _ h2=>wp_seq_k fun _ h3=>Ae<|sV (Aa rfl) ?_
 refine wh h3 ?_
 rcases zb hr with ⟨e3a,f2c⟩ | ⟨e3a,f3c⟩
 ·refine wp_cond_true (Ai (evb rfl e3a))<|wp_seq_k fun _ h4c=>Ae<|sV (Ac rfl) ?_
  refine wh h4c<|wp_ret ?_
  obtain rfl:=sj f2c
  exact fin rfl (Res.tmp rfl Res.nil) (Aj (Ext.refl _) rfl)
 ·refine wp_cond_false (Ai (evb rfl e3a))<|wp_skip<|h2 _ _<|wp_seq_k fun _ h5c=>wp_seq_k fun _ h6c=>Ae<|sV (Aa rfl) ?_
  refine wh h6c ?_
  apply wp_block
  refine wp_seq_k fun _ h7c=>Ae<|sb (Bl rfl rfl) fun z1b hz1b=>?_
  refine nrm ?_
  refine sV (Ac rfl) ?_
  refine wh h7c ?_
  rcases zi hz1b f3c with ⟨e4a,_,f8c⟩ | ⟨e4a,_,f9c⟩
  ·refine wp_cond_true (Ai (evb rfl e4a))<|wp_seq_k fun _ h0d=>Ae<|sV (Aa rfl) ?_
   refine sb (EX rfl rfl) fun z2b hz2b=>?_
   refine nrm ?_
   refine sV (Aa rfl) ?_
   obtain ⟨m1d,h2d,f3d⟩:=Ab f8c
   refine Bm 9 (fun l l' w'=>∃(t3b:Value) (t4b:Value) (t5b:Value) (t6b:Value) (t7b:Value),w=w'∧l'=((((((l.set 18 t3b).set 19 t4b).set 20 t5b).set 21 t6b).set 22 t7b).set 23 (.bool m1d))) ?_ ?_
   ·intro HJ251
    rcases zi hz2b h2d with ⟨e0a,_,f4d⟩ | ⟨e0a,_,f5d⟩
    ·refine sP ?_ (hw:=wgF rfl e0a)
     refine sP ?_ (hw:=wgF rfl e0a)
     refine sP ?_ (hw:=wgF rfl e0a)
     refine sP ?_
     refine sP ?_ (hw:=wgF rfl e0a)
     refine sV (Ar (evb rfl e0a) rfl) ?_
     obtain rfl:=sj f4d
     exact HJ251 _ _ ⟨uu,uu,uu,uu,uu,rfl,(by simp only [S0,S1]<;>rfl)⟩
    ·refine sV (Aa rfl) ?_ (hw:=wgT rfl e0a)
     refine sb (Bl rfl rfl) ?_ (hw:=wgT rfl e0a)
     intro z2a hz2a
     refine nrm ?_
     refine sV (Aa rfl) ?_ (hw:=wgT rfl e0a)
     obtain ⟨m8b,h6d,f7d⟩:=Ab f5d
     refine Bm 8 (fun l l' w'=>∃(t5a:Value),w=w'∧l'=((l.set 21 t5a).set 22 (.bool m8b))) ?_ ?_
     ·intro HJ268
      rcases zi hz2a h6d with ⟨e1a,_,f8d⟩ | ⟨e1a,_,f9d⟩
      ·refine sV (Aa rfl) ?_ (hw:=wgT rfl e1a)
       refine sV (Ar (evb rfl e1a) rfl) ?_ (hw:=wgT rfl e0a)
       obtain rfl:=sj f8d
       exact HJ268 _ _ ⟨(.bool x2),rfl,(by simp only [S0,S1]<;>rfl)⟩
      ·refine sP ?_ (hw:=wgF rfl e1a)
       refine sV (Aw (evb rfl e1a) rfl) ?_ (hw:=wgT rfl e0a)
       obtain rfl:=sj f9d
       exact HJ268 _ _ ⟨uu,rfl,(by simp only [S0,S1]<;>rfl)⟩
     ·rintro l' _ ⟨t5a,rfl,hq'⟩ l'' hl
      rw [hq'] at hl
      clear hq'
      simp only [S0,S1] at hl
      subst hl
      refine sV (Aw (evb rfl e0a) rfl) ?_
      obtain rfl:=sj f7d
      exact HJ251 _ _ ⟨(.int .i64 x1),(.bool z2a),(.bool z2a),t5a,(.bool m8b),rfl,(by simp only [S0,S1]<;>rfl)⟩
   ·rintro l' _ ⟨t3b,t4b,t5b,t6b,t7b,rfl,hq'⟩ l'' hl
    rw [hq'] at hl
    clear hq'
    simp only [S0,S1] at hl
    subst hl
    refine sV (Ac rfl) ?_
    refine wh h0d<|wp_ret ?_
    obtain rfl:=sj f3d
    exact fin rfl (Res.tmp rfl Res.nil) (Aj (Ext.refl _) rfl)
  ·refine wp_cond_false (Ai (evb rfl e4a))<|wp_seq_k fun _ h0e=>Ae<|sb (Bl rfl rfl) fun z9b hz9b=>?_
   refine nrm ?_
   refine sV (Ac rfl) ?_
   refine wh h0e ?_
   rcases zi hz9b f9c with ⟨e6a,_,f1e⟩ | ⟨e6a,_,f2e⟩
   ·refine wp_cond_true (Ai (evb rfl e6a))<|wp_seq_k fun _ h3e=>Ae<|sV (Aa rfl) ?_
    refine sb (Fu rfl rfl) fun z7a hz7a=>?_
    refine nrm ?_
    refine sV (Ac rfl) ?_
    refine wh h3e<|wp_ret ?_
    obtain rfl:z7a=decide (0≤x1):=bz hz7a
    obtain rfl:=sj f1e
    exact fin rfl (Res.tmp rfl Res.nil) (Aj (Ext.refl _) rfl)
   ·refine wp_cond_false (Ai (evb rfl e6a))<|wp_seq_k fun _ h4e=>Ae<|sb (Bl rfl rfl) fun z0c hz0c=>?_
    refine nrm ?_
    refine sV (Ac rfl) ?_
    refine wh h4e ?_
    rcases zi hz0c f2e with ⟨e8a,_,f5e⟩ | ⟨e8a,_,f6e⟩
    ·refine wp_cond_true (Ai (evb rfl e8a))<|wp_seq_k fun _ h7e=>Ae<|sV (Aa rfl) ?_
     refine sb (Fv rfl) fun z9a hz9a=>?_
     refine nrm ?_
     refine sV (Ac rfl) ?_
     refine wh h7e<|wp_ret ?_
     obtain rfl:z9a=decide (¬(x3=true)):=bz hz9a
     obtain rfl:=sj f5e
     exact fin rfl (Res.tmp rfl Res.nil) (Aj (Ext.refl _) rfl)
    ·refine wp_cond_false (Ai (evb rfl e8a))<|wp_seq_k fun _ h8e=>Ae<|sb (Bl rfl rfl) fun z1c hz1c=>?_
     refine nrm ?_
     refine sV (Ac rfl) ?_
     refine wh h8e ?_
     rcases zi hz1c f6e with ⟨e0b,_,f9e⟩ | ⟨e0b,_,f0f⟩
     ·refine wp_cond_true (Ai (evb rfl e0b))<|wp_seq_k fun _ h1f=>Ae<|sV2 (Aa rfl) (Ac rfl) ?_
      refine wh h1f<|wp_ret ?_
      obtain rfl:=sj f9e
      exact fin rfl (Res.tmp rfl Res.nil) (Aj (Ext.refl _) rfl)
     ·refine wp_cond_false (Ai (evb rfl e0b))<|wp_skip<|h5c _ _<|wp_seq_k fun _ h2f=>Ae<|sV (Ac rfl) ?_
      refine wh h2f<|wp_ret ?_
      obtain rfl:=sj f0f
      exact fin rfl (Res.tmp rfl Res.nil) (Aj (Ext.refl _) rfl)
set_option maxRecDepth 20000 in
theorem GO (x0:Am) (x1:Int) (x2:Int) (x3:Bool) (A1:Option Addr) (c2:Nat) (w:World) (hT:TB w) (n3:RU w A1 c2 x0.m.Abs) (r:Am) (hr:ES x0 x1 x2 x3=some r) :
  Calls Tryz.prog 140 #[.agg #[.bool x0.m.Neg,.slice A1 (sz x0.m.Abs) c2,.int .i64 x0.e],.int .i64 x1,.int .i64 x2,.bool x3] w (Ret IS w r):=by
 unfold ES at hr
 refine Mp Tryz.func140 rfl [.agg #[.bool x0.m.Neg,.slice A1 (sz x0.m.Abs) c2,.int .i64 x0.e],.int .i64 x1,.int .i64 x2,.bool x3,uu,uu,uu,uu,uu,uu,uu,uu,uu,uu,uu,uu,uu,uu,uu,uu,uu,uu,uu,uu,uu,uu,uu,uu,uu,uu,uu,uu,uu,uu,uu,uu,uu,uu,uu,uu,uu,uu,uu,uu,uu,uu,uu,uu,uu,uu,uu,uu,uu,uu,uu,uu,uu,uu,uu,uu,uu,uu,uu,uu,uu,uu,uu,uu,uu,uu,uu,uu,uu,uu,uu,uu,uu,uu,uu,uu,uu,uu,uu,uu,uu,uu,uu,uu,uu,uu,uu,uu,uu,uu,uu,uu,uu,uu,uu,uu,uu,uu,uu,uu] (by kernel_rfl) ?_
 refine wp_seq_k fun _ h4=>Ae<|Bu rfl rfl fun b5 w1 E6 g7 q8=>?_
 refine nrm ?_
 refine AA Bn fun b9 w2 E3a g2c q7b=>?_
 refine nrm ?_
 have g3d:=nlt E6.size g2c
 have X1b:=xtr E6 E3a
 refine wh h4<|wp_seq_k fun _ h8d=>Ae<|sV3 (Ag (o':=0) CB rfl rfl) (Ag (o':=1) BF rfl rfl) (Af DI rfl (Bx.cell (q8.ext E3a) rfl)) ?_
 obtain ⟨r1a,h0l,f1l⟩:=Ab hr
 refine sc (Ad ME (by rfl)) (EF x0.m.Abs A1 c2 w2 (tbx X1b hT) (n3.ext X1b) r1a h0l) ?_
 rintro _ w3 E4a rfl
 refine nrm ?_
 have X2b:=xtr X1b E4a
 refine sV3 (Aa rfl) (Ba (c:=wi64 (r1a - x1)) rfl rfl rfl) (Ac rfl) ?_
 refine wh h8d<|wp_seq_k fun _ h2l=>wp_seq_k fun _ h3l=>Ae<|sV (Aa rfl) ?_
 refine sb (Ie rfl rfl) fun z2f hz2f=>?_
 refine nrm ?_
 refine sV (Aa rfl) ?_
 obtain ⟨m4l,h5l,f32⟩:=Ab f1l
 refine Bm 6 (fun l l' w'=>∃(t3f:Value) (t4f:Value),w3=w'∧l'=(((l.set 23 t3f).set 24 t4f).set 25 (.bool m4l))) ?_ ?_
 ·intro HJ36
  rcases zi hz2f h5l with ⟨e3b,_,f6l⟩ | ⟨e3b,_,f7l⟩
  ·refine sV (Aa rfl) ?_ (hw:=wgT rfl e3b)
   refine sb (Fv rfl) ?_ (hw:=wgT rfl e3b)
   intro z9d hz9d
   refine nrm ?_
   refine sV (Ar (evb rfl e3b) rfl) ?_
   obtain rfl:z9d=decide (¬(x3=true)):=bz hz9d
   obtain rfl:=sj f6l
   exact HJ36 _ _ ⟨(.bool x3),(.bool (decide (¬(x3=true)))),rfl,(by simp only [S0,S1]<;>rfl)⟩
  ·refine sP ?_ (hw:=wgF rfl e3b)
   refine sP ?_ (hw:=wgF rfl e3b)
   refine sV (Aw (evb rfl e3b) rfl) ?_
   obtain rfl:=sj f7l
   exact HJ36 _ _ ⟨uu,uu,rfl,(by simp only [S0,S1]<;>rfl)⟩
 ·rintro l' _ ⟨t3f,t4f,rfl,hq'⟩ l'' hl
  rw [hq'] at hl
  clear hq'
  simp only [S0,S1] at hl
  subst hl
  refine wh h3l ?_
  rcases zb f32 with ⟨e0e,f64⟩ | ⟨e0e,f8l⟩
  ·refine wp_cond_true (Ai (evb rfl e0e))<|wp_seq_k fun _ h9l=>Ae<|sV2 (Ag (o':=0) CB rfl rfl) (AL EH rfl ((q8.ext E3a).ext E4a) (by simp only [List.drop_zero,List.take_succ_cons,List.take_zero];rfl) rfl) ?_
   refine sV2 (Ag (o':=2) Ef rfl rfl) (Af EN rfl (Bx.cell ((q8.ext E3a).ext E4a) rfl)) ?_
   obtain ⟨r0m,h1m,f2m⟩:=Ab f64
   refine sc (Ad LN (by rfl)) (Gz x0.m x0.e A1 c2 w3 (tbx X2b hT) (n3.ext X2b) r0m h1m) ?_
   rintro _ w4 E1e ⟨A3m,c4m,rfl,n5m⟩
   refine nrm ?_
   have X6m:=xtr X2b E1e
   refine ss CL ((q7b.ext E4a).ext E1e) fun w5 U5f q7m=>?_
   have X8m:=belU X6m U5f g3d
   refine wh h9l<|wp_ret ?_
   have n9m:=n5m.upd U5f ((q7b.ext E4a).ext E1e) (by decide)
   obtain rfl:=sj f2m
   exact fin rfl (Res.cellN rfl AN q7m rfl rfl Res.nil) (Aj X8m ⟨A3m,c4m,rfl,n9m⟩)
  ·refine wp_cond_false (Ai (evb rfl e0e))<|wp_skip<|h2l _ _<|wp_seq_k fun _ h0n=>wp_seq_k fun _ h1n=>Ae<|sV (Aa rfl) ?_
   refine sb (Cj rfl rfl) fun z6f hz6f=>?_
   refine nrm ?_
   refine wh h1n ?_
   obtain ⟨m0a,h2n,f3n⟩:=Ab f8l
   refine BX (fun l l' w'=>∃(t7f:Value) (t8f:Value) (t9f:Value) (t0g:Value) (t1g:Value) (t2g:Value) (t3g:Value) (t4g:Value) (t5g:Value) (t6g:Value) (t7g:Value) (A3c:Option Addr) (c4c:Nat),UpdS [b5] w3 w'∧Bx w' b5 119 [.bool m0a.2.1,.slice A3c (sz m0a.2.2.1) c4c,.int .i64 m0a.2.2.2]∧RU w' A3c c4c m0a.2.2.1∧l'=((((((((((((l.set 9 (.int .i64 m0a.1)).set 33 t7f).set 34 t8f).set 35 t9f).set 36 t0g).set 37 t1g).set 38 t2g).set 39 t3g).set 40 t4g).set 41 t5g).set 42 t6g).set 43 t7g)) ?_ ?_
   ·rcases zi hz6f h2n with ⟨e2e,_,f4n⟩ | ⟨e2e,_,f5n⟩
    ·refine wp_cond_true (Ai (evb rfl e2e))<|wp_seq_k fun _ h6n=>Dn [11] 12 mo rfl fun w4 E5c S3e=>have X8g:=xtr X2b E5c;dA 0 rfl (fun _=>Ag (o':=0) CB rfl rfl) ?_
     refine dV 1 rfl (fun _ hw=>AL EH rfl ((((q8.ext E3a).ext E4a).ext E5c).ext hw) (by simp only [List.drop_zero,List.take_succ_cons,List.take_zero];rfl) rfl) S3e ?_
     refine dA 2 rfl (fun _=>Aa rfl) ?_
     refine dA 3 rfl (fun _=>Ba (c:=wi64 (2 - (wi64 (r1a - x1)))) rfl rfl rfl) ?_
     refine dA 5 rfl (fun _=>Ag (o':=2) Ef rfl rfl) ?_
     refine dV 6 rfl (fun _ hw=>Af EN rfl (Bx.cell ((((q8.ext E3a).ext E4a).ext E5c).ext hw) rfl)) S3e ?_
     refine dA 7 rfl (fun _=>Ba (c:=wi64 (x0.e - 2)) rfl rfl rfl) ?_
     refine dA 8 rfl (fun _=>Aa rfl) ?_
     refine dA 9 rfl (fun _=>AM (c:=wi64 ((wi64 (x0.e - 2))+(wi64 (r1a - x1)))) rfl rfl rfl) ?_
     obtain ⟨r6a,h7n,f8n⟩:=Ab f4n
     refine dc 4 rfl (by kernel_rfl) (by rfl) (Ad Pg (by rfl)) (JL x0.m (wi64 (2 - (wi64 (r1a - x1)))) A1 c2 w4 (tbx X8g hT) (n3.ext X8g) r6a h7n) ?_
     rintro _ w5 E4e ⟨A6c,c7c,rfl,n9n⟩
     refine dnrm ?_
     have S9w:=S3e.trans E4e
     refine dA 10 rfl (fun _=>Bb (vals:=[(0,.agg #[.bool r6a.Neg,.slice A6c (sz r6a.Abs) c7c]),(1,.int .i64 (wi64 ((wi64 (x0.e - 2))+(wi64 (r1a - x1)))))]) (cells:=[.bool r6a.Neg,.slice A6c (sz r6a.Abs) c7c,.int .i64 (wi64 ((wi64 (x0.e - 2))+(wi64 (r1a - x1))))]) (by rfl) (by kernel_rfl)) ?_
     have q9g:=(((q8.ext E3a).ext E4a).ext E5c).ext E4e
     refine dkk 11 CL q9g fun w6 U0h q0o=>?_
     refine Cn (by kernel_rfl) ?_
     refine h6n _ _<|Ae<|sV (Ac rfl) ?_
     refine AG ?_
     obtain rfl:=sj f8n
     exact ⟨_,rfl,(.pointer (some ⟨b5,0,none⟩)),(.agg #[.bool x0.m.Neg,.slice A1 (sz x0.m.Abs) c2]),(.int .i64 (wi64 (r1a - x1))),(.int .i64 (wi64 (2 - (wi64 (r1a - x1))))),(.agg #[.bool r6a.Neg,.slice A6c (sz r6a.Abs) c7c]),(.pointer (some ⟨b5,2,none⟩)),(.int .i64 x0.e),(.int .i64 (wi64 (x0.e - 2))),(.int .i64 (wi64 (r1a - x1))),(.int .i64 (wi64 ((wi64 (x0.e - 2))+(wi64 (r1a - x1))))),(.agg #[.bool r6a.Neg,.slice A6c (sz r6a.Abs) c7c,.int .i64 (wi64 ((wi64 (x0.e - 2))+(wi64 (r1a - x1))))]),A6c,c7c,((((UpdS.refl _ _).ext E5c).ext E4e).upd U0h (.inl im0)),q0o,(n9n.upd U0h q9g (by decide)),(by simp only [S0,S1]<;>rfl)⟩
    ·refine wp_cond_false (Ai (evb rfl e2e))<|wp_skip ?_
     obtain rfl:=sj f5n
     exact ⟨_,rfl,uu,uu,uu,uu,uu,uu,uu,uu,uu,uu,uu,A1,c2,(UpdS.refl _ _),((q8.ext E3a).ext E4a),(n3.ext X2b),(by simp only [S0,S1]<;>rfl)⟩
   ·rintro l' w4 ⟨t7f,t8f,t9f,t0g,t1g,t2g,t3g,t4g,t5g,t6g,t7g,A3c,c4c,U1h,q4d,n2h,hq'⟩ l'' hl
    rw [hq'] at hl
    clear hq'
    simp only [S0,S1] at hl
    subst hl
    have X3h:=KR X2b U1h (X2b).size (alc g7 al0)
    refine h0n _ _<|wp_seq_k fun _ h1o=>Ae<|sV3 (Ag (o':=0) CB rfl rfl) (Ag (o':=1) BF rfl rfl) (Af DI rfl (Bx.cell q4d rfl)) ?_
    refine sV (Aa rfl) ?_
    obtain ⟨r8c,h2o,f3o⟩:=Ab f3n
    refine sc (Ad MV (by rfl)) (GG m0a.2.2.1 m0a.1 A3c c4c w4 (tbx X3h hT) n2h r8c h2o) ?_
    rintro _ w5 E8b ⟨A9c,c0d,rfl,n5d⟩
    refine nrm ?_
    have X4o:=xtr X3h E8b
    refine sV (Ac rfl) ?_
    refine wh h1o<|wp_seq_k fun _ h5o=>Dn [] 8 mo rfl fun w6 E5a S4h=>have X5h:=xtr X4o E5a;dA 0 rfl (fun _=>Ag (o':=0) CB rfl rfl) ?_
    refine dA 1 rfl (fun _=>Ag (o':=1) BF rfl rfl) ?_
    refine dV 2 rfl (fun _ hw=>Af DI rfl (Bx.cell (((q4d.ext E8b).ext E5a).ext hw) rfl)) S4h ?_
    refine dA 3 rfl (fun _=>Aa rfl) ?_
    refine dA 4 rfl (fun _=>Aa rfl) ?_
    obtain ⟨r6h,h6o,f7o⟩:=Ab f3o
    refine dc 5 rfl (by kernel_rfl) (by rfl) (Ad KG (by rfl)) (DT r8c m0a.1 A9c c0d w6 (tbx X5h hT) (n5d.ext E5a) r6h h6o) ?_
    rintro _ w7 E7a ⟨A8o,c9o,rfl,n0p⟩
    refine dnrm ?_
    have X7h:=xtr X5h E7a
    have S1p:=S4h.trans E7a
    have n2p:=((n2h.ext E8b).ext E5a).ext E7a
    obtain ⟨r8h,h3p,f4p⟩:=Ab f7o
    refine dc 6 rfl (by kernel_rfl) (by rfl) (Ad NL (by rfl)) (GM m0a.2.2.1 r6h A3c c4c A8o c9o w7 (tbx X7h hT) n2p n0p r8h h3p) ?_
    rintro _ w8 E8a ⟨A5p,c6p,rfl,n7p⟩
    refine dnrm ?_
    have X9h:=xtr X7h E8a
    have S0x:=S1p.trans E8a
    refine dA 7 rfl (fun _=>Ac rfl) ?_
    refine Cn (by kernel_rfl) ?_
    refine h5o _ _<|wp_seq_k fun _ h8p=>Ae<|sV2 (Aa rfl) (Ax Aq rfl) ?_
    refine sb (Bl rfl rfl) fun z0i hz0i=>?_
    refine nrm ?_
    refine sV (Aa rfl) ?_
    obtain ⟨m1i,h9p,f0q⟩:=Ab f4p
    refine Bm 7 (fun l l' w'=>∃(t2i:Value) (t3i:Value),w8=w'∧l'=(((l.set 60 t2i).set 61 t3i).set 62 (.bool m1i))) ?_ ?_
    ·intro HJ179
     rcases zi hz0i h9p with ⟨e4b,_,f1q⟩ | ⟨e4b,_,f2q⟩
     ·refine sV (Aa rfl) ?_ (hw:=wgT rfl e4b)
      refine sb (Fv rfl) ?_ (hw:=wgT rfl e4b)
      intro z5e hz5e
      refine nrm ?_
      refine sV (Ar (evb rfl e4b) rfl) ?_
      obtain rfl:z5e=decide (¬(x3=true)):=bz hz5e
      obtain rfl:=sj f1q
      exact HJ179 _ _ ⟨(.bool x3),(.bool (decide (¬(x3=true)))),rfl,(by simp only [S0,S1]<;>rfl)⟩
     ·refine sP ?_ (hw:=wgF rfl e4b)
      refine sP ?_ (hw:=wgF rfl e4b)
      refine sV (Aw (evb rfl e4b) rfl) ?_
      obtain rfl:=sj f2q
      exact HJ179 _ _ ⟨uu,uu,rfl,(by simp only [S0,S1]<;>rfl)⟩
    ·rintro l' _ ⟨t2i,t3i,rfl,hq'⟩ l'' hl
     rw [hq'] at hl
     clear hq'
     simp only [S0,S1] at hl
     subst hl
     refine sV (Ac rfl) ?_
     refine wh h8p<|wp_seq_k fun _ h3q=>Ae<|sV (Aa rfl) ?_
     refine Cv (vals:=[(0,.int .u32 1)]) (cs:=[.int .u32 1]) Aq An Ge (by rfl) (by decide) (by kernel_rfl) fun b4q w9 E9a g5q q6q=>?_
     refine nrm ?_
     have g1x:=nlt X9h.size g5q
     have X4i:=xtr X9h E9a
     have n7q:=RL.lit1 q6q (by decide)
     refine sV2 (Aa rfl) (Ba (c:=wi64 (m0a.1 - 1)) rfl rfl rfl) ?_
     obtain ⟨r5i,h8q,f9q⟩:=Ab f0q
     refine sc (Ad KG (by rfl)) (DT 1 (wi64 (m0a.1 - 1)) (some ⟨b4q,0,none⟩) 1 w9 (tbx X4i hT) n7q r5i h8q) ?_
     rintro _ w3a E0b ⟨A0r,c1r,rfl,n2r⟩
     refine nrm ?_
     have X6i:=xtr X4i E0b
     obtain ⟨r3r,h4r,f5r⟩:=Ab f9q
     refine sc (Ad Nd (by rfl)) (GF r8h r5i A5p c6p A0r c1r w3a (tbx X6i hT) ((n7p.ext E9a).ext E0b) n2r r3r h4r) ?_
     rintro _ w2c E5b rfl
     refine nrm ?_
     have X6r:=xtr X6i E5b
     refine sV (Ac rfl) ?_
     refine wh h3q<|wp_seq_k fun _ h7r=>wp_seq_k fun _ h8r=>Ae<|sV (Aa rfl) ?_
     refine sb (Bl rfl rfl) fun z7i hz7i=>?_
     refine nrm ?_
     refine sV (Aa rfl) ?_
     obtain ⟨m9r,h0s,f1s⟩:=Ab f5r
     refine Bm 5 (fun l l' w'=>∃(t8i:Value),w2c=w'∧l'=((l.set 72 t8i).set 73 (.bool m9r))) ?_ ?_
     ·intro HJ220
      rcases zi hz7i h0s with ⟨e1d,_,f2s⟩ | ⟨e1d,_,f3s⟩
      ·refine sV (Aa rfl) ?_ (hw:=wgT rfl e1d)
       refine sV (Ar (evb rfl e1d) rfl) ?_
       obtain rfl:=sj f2s
       exact HJ220 _ _ ⟨(.bool x3),rfl,(by simp only [S0,S1]<;>rfl)⟩
      ·refine sP ?_ (hw:=wgF rfl e1d)
       refine sV (Aw (evb rfl e1d) rfl) ?_
       obtain rfl:=sj f3s
       exact HJ220 _ _ ⟨uu,rfl,(by simp only [S0,S1]<;>rfl)⟩
     ·rintro l' _ ⟨t8i,rfl,hq'⟩ l'' hl
      rw [hq'] at hl
      clear hq'
      simp only [S0,S1] at hl
      subst hl
      refine wh h8r ?_
      obtain ⟨m9i,h4s,f5s⟩:=Ab f1s
      refine BX (fun l l' w'=>w2c=w'∧l'=(l.set 13 (.int .i64 m9i))) ?_ ?_
      ·rcases zb h4s with ⟨e6e,f6s⟩ | ⟨e6e,f7s⟩
       ·refine wp_cond_true (Ai (evb rfl e6e))<|Ae<|sV (Ac rfl) ?_
        refine AG ?_
        obtain rfl:=sj f6s
        exact ⟨_,rfl,rfl,(by simp only [S0,S1]<;>rfl)⟩
       ·refine wp_cond_false (Ai (evb rfl e6e))<|wp_skip ?_
        obtain rfl:=sj f7s
        exact ⟨_,rfl,rfl,(by simp only [S0,S1]<;>rfl)⟩
      ·rintro l' _ ⟨rfl,hq'⟩ l'' hl
       rw [hq'] at hl
       clear hq'
       simp only [S0,S1] at hl
       subst hl
       refine h7r _ _<|wp_seq_k fun _ h8s=>wp_seq_k fun _ h9s=>Dn [] 17 mo rfl fun w7b E6b S7e=>have X0j:=xtr X6r E6b;dA 0 rfl (fun _=>Aa rfl) ?_
       refine dA 1 rfl (fun _=>Aa rfl) ?_
       refine dA 2 rfl (fun _=>Aa rfl) ?_
       refine dA 3 rfl (fun _=>Ax Aq rfl) ?_
       refine dab 4 rfl (by kernel_rfl) (fun _ _ _ h=>h) (by rfl) (fun _=>EX rfl rfl) fun z1j hz1j=>?_
       refine dnrm ?_
       refine dA 5 rfl (fun _=>Aa rfl) ?_
       obtain ⟨m2j,h0t,f1t⟩:=Ab f5s
       refine IN #[true,true,true,true,true,true,true,true,true,true,true,true,false,false,false,false,false] 5 (fun l l' w'=>∃(t3j:Value) (t4j:Value) (t5j:Value) (t6j:Value) (t7j:Value),w7b=w'∧l'=((((((l.set 80 t3j).set 81 t4j).set 82 t5j).set 83 t6j).set 84 t7j).set 85 (.bool m2j))) ?_ ?_
       ·intro HJ272
        rcases zi hz1j h0t with ⟨e2a,_,f2t⟩ | ⟨e2a,_,f3t⟩
        ·refine dA 6 rfl (fun _=>Aa rfl) ?_ (hw:=wgT rfl e2a)
         have n4t:=((((((n5d.ext E5a).ext E7a).ext E8a).ext E9a).ext E0b).ext E5b).ext E6b
         obtain ⟨u6d,h5t,f6t⟩:=Ab f2t
         obtain ⟨bb282,oo283,hA7t,ia8t,ib9t,hc285⟩:=RL.nth n4t h5t
         refine dA 7 rfl (fun _=>As Aq An rfl rfl hA7t ia8t ib9t) ?_ (hw:=wgT rfl e2a)
         refine dV 8 rfl (fun _ hw=>Af AQ rfl (CA hc285 hw)) S7e ?_ (hw:=wgT rfl e2a)
         refine dA 9 rfl (fun _=>OE (k:=.u32) rfl rfl) ?_ (hw:=wgT rfl e2a)
         refine dab 10 rfl (by kernel_rfl) (fun _ _ _ h=>h) (wgT rfl e2a) (fun _=>Bl rfl rfl) fun z8e hz8e=>?_
         refine dnrm ?_
         refine dA 11 rfl (fun _=>Ar (evb rfl e2a) rfl) ?_
         obtain rfl:z8e=decide ((u6d%2)=1):=bz hz8e
         obtain rfl:=sj f6t
         exact EL (by kernel_rfl) (HJ272 _ _ ⟨(.slice A9c (sz r8c) c0d),(.pointer (some ⟨bb282,oo283+(0:Int).toNat,none⟩)),(.int .u32 u6d),(.int .u32 (u6d%2)),(.bool (decide ((u6d%2)=1))),rfl,(by simp only [S0,S1]<;>rfl)⟩)
        ·refine dP 6 rfl ?_ (hw:=wgF rfl e2a)
         refine dP 7 rfl ?_ (hw:=wgF rfl e2a)
         refine dP 8 rfl ?_ (hw:=wgF rfl e2a)
         refine dP 9 rfl ?_ (hw:=wgF rfl e2a)
         refine dP 10 rfl ?_ (hw:=wgF rfl e2a)
         refine dA 11 rfl (fun _=>Aw (evb rfl e2a) rfl) ?_
         obtain rfl:=sj f3t
         exact EL (by kernel_rfl) (HJ272 _ _ ⟨uu,uu,uu,uu,uu,rfl,(by simp only [S0,S1]<;>rfl)⟩)
       ·rintro l' _ ⟨t3j,t4j,t5j,t6j,t7j,rfl,hq'⟩ l'' hl
        rw [hq'] at hl
        clear hq'
        simp only [S0,S1] at hl
        subst hl
        refine dA 12 rfl (fun _=>Ag (o':=0) CB rfl rfl) ?_
        refine dA 13 rfl (fun _=>Ag (o':=0) Fz rfl rfl) ?_
        refine dV 14 rfl (fun _ hw=>Af GC rfl (Bx.cell (((((((((q4d.ext E8b).ext E5a).ext E7a).ext E8a).ext E9a).ext E0b).ext E5b).ext E6b).ext hw) rfl)) S7e ?_
        refine dA 15 rfl (fun _=>Aa rfl) ?_
        obtain ⟨r0u,h1u,f2u⟩:=Ab f1t
        refine dc 16 rfl (by kernel_rfl) (by rfl) (Ad en_206 (by rfl)) (c_wide_Away m1i m9i m2j m0a.2.1 x2 w7b (tbx X0j hT)  r0u h1u) ?_
        rintro _ w3d E9b rfl
        refine dnrm ?_
        have X7d:=xtr X0j E9b
        have S2x:=S7e.trans E9b
        refine Cn (by kernel_rfl) ?_
        refine h9s _ _ ?_
        obtain ⟨m2d,h3u,f4u⟩:=Ab f2u
        refine BX (fun l l' w'=>∃(A0c:Option Addr) (c1c:Nat) (t8j:Value) (t9j:Value) (t0k:Value),UpdS [] w3d w'∧RU w' A0c c1c m2d∧l'=((((l.set 10 (.slice A0c (sz m2d) c1c)).set 91 t8j).set 92 t9j).set 93 t0k)) ?_ ?_
        ·rcases zb h3u with ⟨e9e,f5u⟩ | ⟨e9e,f6u⟩
         ·refine wp_cond_true (Ai (evb rfl e9e))<|Ae<|sV (Aa rfl) ?_
          refine Cv (vals:=[(0,.int .u32 1)]) (cs:=[.int .u32 1]) Aq An Ge (by rfl) (by decide) (by kernel_rfl) fun b1k w1b E0f g7u q8u=>?_
          refine nrm ?_
          have g3x:=nlt X7d.size g7u
          have X9u:=xtr X7d E0f
          have n0v:=RL.lit1 q8u (by decide)
          have n1v:=((((((((n5d.ext E5a).ext E7a).ext E8a).ext E9a).ext E0b).ext E5b).ext E6b).ext E9b).ext E0f
          obtain ⟨r2k,h2v,f3v⟩:=Ab f5u
          refine sc (Ad Ph (by rfl)) (HB r8c 1 A9c c0d (some ⟨b1k,0,none⟩) 1 w1b (tbx X9u hT) n1v n0v r2k h2v) ?_
          rintro _ w8d E4v ⟨A3k,c4k,rfl,n5v⟩
          refine nrm ?_
          refine sV (Ac rfl) ?_
          refine AG ?_
          obtain rfl:=sj f3v
          exact ⟨_,rfl,A3k,c4k,(.slice A9c (sz r8c) c0d),(.slice (some ⟨b1k,0,none⟩) (sz 1) 1),(.slice A3k (sz r2k) c4k),(((UpdS.refl _ _).ext E0f).ext E4v),n5v,(by simp only [S0,S1]<;>rfl)⟩
         ·refine wp_cond_false (Ai (evb rfl e9e))<|wp_skip ?_
          have n6v:=(((((((n5d.ext E5a).ext E7a).ext E8a).ext E9a).ext E0b).ext E5b).ext E6b).ext E9b
          obtain rfl:=sj f6u
          exact ⟨_,rfl,A9c,c0d,uu,uu,uu,(UpdS.refl _ _),n6v,(by simp only [S0,S1]<;>rfl)⟩
        ·rintro l' w1b ⟨A0c,c1c,t8j,t9j,t0k,U1f,n7v,hq'⟩ l'' hl
         rw [hq'] at hl
         clear hq'
         simp only [S0,S1] at hl
         subst hl
         have X5k:=KR X7d U1f (X7d).size al0
         refine h8s _ _<|wp_seq_k fun _ h8v=>Ae<|sV2 (Ag (o':=0) CB rfl rfl) (Ag (o':=0) Fz rfl rfl) ?_
         have q6k:=(((((((((q4d.ext E8b).ext E5a).ext E7a).ext E8a).ext E9a).ext E0b).ext E5b).ext E6b).ext E9b).updS U1f nm0
         refine sV3 (Af GC rfl (Bx.cell q6k rfl)) (Aa rfl) (Bb (vals:=[(0,.bool m0a.2.1),(1,.slice A0c (sz m2d) c1c)]) (cells:=[.bool m0a.2.1,.slice A0c (sz m2d) c1c]) (by rfl) (by kernel_rfl)) ?_
         refine sV3 (Ag (o':=2) Ef rfl rfl) (Af EN rfl (Bx.cell q6k rfl)) (Aa rfl) ?_
         refine sV (AM (c:=wi64 (m0a.2.2.2+m0a.1)) rfl rfl rfl) ?_
         obtain ⟨r9v,h0w,f1w⟩:=Ab f4u
         refine sc (Ad LN (by rfl)) (Gz (⟨m0a.2.1,m2d⟩:Ah) (wi64 (m0a.2.2.2+m0a.1)) A0c c1c w1b (tbx X5k hT) n7v r9v h0w) ?_
         rintro _ w8d E7k ⟨A2w,c3w,rfl,n4w⟩
         refine nrm ?_
         have X5w:=xtr X5k E7k
         have ne6w:=(Bx.ne q8 g2c).symm
         have q8k:=((((((((((((q7b.ext E4a).updS U1h (nmc ne6w nm0)).ext E8b).ext E5a).ext E7a).ext E8a).ext E9a).ext E0b).ext E5b).ext E6b).ext E9b).updS U1f nm0).ext E7k
         refine ss CL q8k fun w1a U9k q7w=>?_
         have X8w:=belU X5w U9k g3d
         refine wh h8v<|wp_ret ?_
         obtain rfl:=sj f1w
         exact fin rfl (Res.cellN rfl AN q7w rfl rfl Res.nil) (Aj X8w ⟨A2w,c3w,rfl,(n4w.upd U9k q8k (by decide))⟩)
theorem Mf (x0:Ap) (x1:Int) (x2:Int) (A1:Option Addr) (c2:Nat) (w:World) (hT:TB w) (n3:RLu w A1 c2 x0.Man.Abs) (r:Ak × Int) (hr:Jv x0 x1 x2=some r) :
  Calls Tryz.prog 55 #[.agg #[.bool x0.Man.Neg,.slice A1 x0.Man.Abs.length c2,.int .i64 x0.Exp],.int .i64 x1,.int .i64 x2] w (Ret Nx w r):=by
 unfold Jv at hr
 obtain ⟨q0,hq0,hr0⟩:=Ab hr
 unfold LH at hq0
 go_enter_defers Tryz.func55,Tryz.ntmps55
 refine wp_seq_k fun _ h4=>Ae<|Bu rfl rfl fun b5 w1 E6 g7 q8=>?_
 refine nrm ?_
 refine AA Hm fun b9 w2 E1b g1d q6a=>?_
 refine nrm ?_
 have g2b:=nlt E6.size g1d
 have X2d:=xtr E6 E1b
 refine AA JM fun b3b w3 E4a g5e q7a=>?_
 refine nrm ?_
 have g4b:=nlt X2d.size g5e
 have X3d:=xtr X2d E4a
 refine wh h4<|wp_seq_k fun _ h6e=>Ae<|Ic (vs:=[.pointer (some ⟨b9,0,none⟩),.pointer (some ⟨b3b,0,none⟩)]) (by rfl) (by rfl)<|wh h6e<|wp_seq_k fun _ h7e=>Ae<|sV (Al Bt rfl ((q8.ext E1b).ext E4a) rfl) ?_
 refine Cv (vals:=[(0,.agg #[.bool x0.Man.Neg,.slice A1 x0.Man.Abs.length c2,.int .i64 x0.Exp])]) (cs:=[.bool x0.Man.Neg,.slice A1 x0.Man.Abs.length c2,.int .i64 x0.Exp]) LK FA Hm (by rfl) (by decide) (by kernel_rfl) fun b4d w4 E1a g8e q5d=>?_
 refine nrm ?_
 have g7i:=nlt X3d.size g8e
 have X8a:=xtr X3d E1a
 rcases AR hq0 with ⟨r5b,h2c,f9e⟩ | ⟨r5b,h2c,rfl⟩
 ·refine scO (Ad Ki (by rfl)) (EG x0 b4d A1 c2 w4 (tbx X8a hT) (n3.ext X8a) q5d (.ok r5b) h2c) ?_
  rintro _ w5 E0a rfl
  refine nrm ?_
  have X6b:=xtr X8a E0a
  refine wh h7e<|wp_seq_k fun _ h0f=>Ae<|sV (Aa rfl) ?_
  rcases AR f9e with ⟨r7b,h3c,f1f⟩ | ⟨r7b,h3c,rfl⟩
  ·refine scO (Ad Lh (by rfl)) (GT x1 w5 (tbx X6b hT)  (.ok r7b) h3c) ?_
   rintro _ w6 E2a rfl
   refine nrm ?_
   have X8b:=xtr X6b E2a
   refine wh h0f<|wp_seq_k fun _ h2f=>Ae<|sV (Aa rfl) ?_
   rcases AR f1f with ⟨r9b,h4c,f3f⟩ | ⟨r9b,h4c,rfl⟩
   ·refine scO (Ad Qz (by rfl)) (KL x2 w6 (tbx X8b hT)  (.ok r9b) h4c) ?_
    rintro _ w7 E3a rfl
    refine nrm ?_
    have X5c:=xtr X8b E3a
    refine wh h2f<|wp_seq_k fun _ h4f=>Ae<|have q5f:=(((((q8.ext E1b).ext E4a).ext E1a).ext E0a).ext E2a).ext E3a;sV (Al Bt rfl q5f rfl) ?_
    obtain ⟨m6d,h6f,f7f⟩:=Ab f3f
    have hx7d:=BO h6f
    have n8f:RU w7 A1 c2 m6d:=by unfold RU;rw [hx7d];exact (n3.ext X5c)
    obtain ⟨r8d,h9f,f0g⟩:=Ab f7f
    refine sc (Ad Kw (by simp only [sz,hx7d];rfl)) (HM (⟨(⟨x0.Man.Neg,m6d⟩:Ah),x0.Exp⟩:Ak) A1 c2 w7 (tbx X5c hT) n8f r8d h9f) ?_
    rintro _ w8 E9a ⟨A1g,c2g,rfl,n3g⟩
    refine nrm ?_
    have X9d:=xtr X5c E9a
    refine sV2 (Aa rfl) (Aa rfl) ?_
    obtain ⟨r6c,h4g,f5g⟩:=Ab f0g
    refine sc (Ad Ni (by rfl)) (GO r8d x1 x2 false A1g c2g w8 (tbx X9d hT) n3g r6c h4g) ?_
    rintro _ w9 E0b ⟨A0e,c1e,rfl,n2e⟩
    refine nrm ?_
    have X0c:=xtr X9d E0b
    rcases AR f5g with ⟨r1c,h7c,f6g⟩ | ⟨r1c,h7c,rfl⟩
    ·refine scO (Ad Ls (by rfl)) (Fi r6c A0e c1e w9 (tbx X0c hT) n2e (.ok r1c) h7c) ?_
     rintro _ w1b E5a ⟨A7g,c8g,rfl,n9g⟩
     refine nrm ?_
     have X0h:=xtr X0c E5a
     have q8c:=(((((((q6a.ext E4a).ext E1a).ext E0a).ext E2a).ext E3a).ext E9a).ext E0b).ext E5a
     refine ss FA q8c fun w1d U9c q1h=>?_
     have X2h:=belU X0h U9c g2b
     have ne3e:=(Bx.neT (((((((q7a.ext E1a).ext E0a).ext E2a).ext E3a).ext E9a).ext E0b).ext E5a) q8c (by decide))
     have q4e:=(((((((q7a.ext E1a).ext E0a).ext E2a).ext E3a).ext E9a).ext E0b).ext E5a).upd U9c ne3e
     refine ss HU q4e fun w6a U0d q3h=>?_
     have X4h:=belU X2h U0d g4b
     refine wh h4f<|wp_ret ?_
     have n5h:=(n9g.upd U9c q8c (by decide)).upd U0d q4e (by decide)
     obtain rfl:=sj f6g
     obtain rfl:=sj hr0
     exact Nu Ht KK rfl (Res.cellN rfl Bt (q1h.upd U0d (Ne.symm ne3e)) rfl rfl (Res.cell1 rfl Dy (Bx.cell q3h rfl) Res.nil)) (Aj X4h ⟨A7g,c8g,rfl,n5h⟩)
    ·refine scP (Ad Ls (by rfl)) (Fi r6c A0e c1e w9 (tbx X0c hT) n2e (.error r1c) h7c) fun w1b E5a=>?_
     have X6h:=xtr X0c E5a
     have q7h:=(((((((q6a.ext E4a).ext E1a).ext E0a).ext E2a).ext E3a).ext E9a).ext E0b).ext E5a
     have q8h:=((((((q7a.ext E1a).ext E0a).ext E2a).ext E3a).ext E9a).ext E0b).ext E5a
     refine JP KK (EQ b9 b3b (.bool false:Value) (.slice none 0 0:Value) (.int .i64 0:Value) (.int .i64 0:Value) r1c q7h q8h) rfl ?_
     rintro w9 ⟨u9,q9,q9'⟩
     obtain rfl:=sj hr0
     exact ⟨_,(Res.cellN rfl Bt q9 rfl rfl (Res.cell1 rfl Dy (Bx.cell q9' rfl) Res.nil)),Aj (u9.toExt X6h g2b g4b) ⟨none,0,rfl,RU.nil _⟩⟩
   ·refine scP (Ad Qz (by rfl)) (KL x2 w6 (tbx X8b hT)  (.error r9b) h4c) fun w7 E3a=>?_
    have X9h:=xtr X8b E3a
    have q0i:=((((q6a.ext E4a).ext E1a).ext E0a).ext E2a).ext E3a
    have q1i:=(((q7a.ext E1a).ext E0a).ext E2a).ext E3a
    refine JP KK (EQ b9 b3b (.bool false:Value) (.slice none 0 0:Value) (.int .i64 0:Value) (.int .i64 0:Value) r9b q0i q1i) rfl ?_
    rintro w9 ⟨u9,q9,q9'⟩
    obtain rfl:=sj hr0
    exact ⟨_,(Res.cellN rfl Bt q9 rfl rfl (Res.cell1 rfl Dy (Bx.cell q9' rfl) Res.nil)),Aj (u9.toExt X9h g2b g4b) ⟨none,0,rfl,RU.nil _⟩⟩
  ·refine scP (Ad Lh (by rfl)) (GT x1 w5 (tbx X6b hT)  (.error r7b) h3c) fun w6 E2a=>?_
   have X2i:=xtr X6b E2a
   have q3i:=(((q6a.ext E4a).ext E1a).ext E0a).ext E2a
   have q4i:=((q7a.ext E1a).ext E0a).ext E2a
   refine JP KK (EQ b9 b3b (.bool false:Value) (.slice none 0 0:Value) (.int .i64 0:Value) (.int .i64 0:Value) r7b q3i q4i) rfl ?_
   rintro w9 ⟨u9,q9,q9'⟩
   obtain rfl:=sj hr0
   exact ⟨_,(Res.cellN rfl Bt q9 rfl rfl (Res.cell1 rfl Dy (Bx.cell q9' rfl) Res.nil)),Aj (u9.toExt X2i g2b g4b) ⟨none,0,rfl,RU.nil _⟩⟩
 ·refine scP (Ad Ki (by rfl)) (EG x0 b4d A1 c2 w4 (tbx X8a hT) (n3.ext X8a) q5d (.error r5b) h2c) fun w5 E0a=>?_
  have X5i:=xtr X8a E0a
  have q6i:=((q6a.ext E4a).ext E1a).ext E0a
  refine JP KK (EQ b9 b3b (.bool false:Value) (.slice none 0 0:Value) (.int .i64 0:Value) (.int .i64 0:Value) r5b q6i ((q7a.ext E1a).ext E0a)) rfl ?_
  rintro w9 ⟨u9,q9,q9'⟩
  obtain rfl:=sj hr0
  exact ⟨_,(Res.cellN rfl Bt q9 rfl rfl (Res.cell1 rfl Dy (Bx.cell q9' rfl) Res.nil)),Aj (u9.toExt X5i g2b g4b) ⟨none,0,rfl,RU.nil _⟩⟩
theorem Dd (x0:Int) (x1:Int) (w:World) (hT:TB w) (r:AI) (hr:Cf x0 x1=some r) :
  Calls Tryz.prog 97 #[.int .i64 x0,.int .i64 x1] w (Ret Nr w r):=by
 unfold Cf at hr
 go_enter Tryz.func97,Tryz.ntmps97
 refine wp_seq_k fun _ h1=>Ae<|AA Ii fun b2 w1 E3 g4 q5=>?_
 refine nrm ?_
 refine wh h1<|wp_seq_k fun _ h6=>Ae<|sV (Aa rfl) ?_
 obtain ⟨r7,h8,f9⟩:=Ab hr
 refine sc (Ad KW (by rfl)) (BH x0 0 w1 (tbx E3 hT)  r7 h8) ?_
 rintro _ w2 E0b ⟨A3a,c4a,rfl,n6b⟩
 refine nrm ?_
 have X1b:=xtr E3 E0b
 refine AA Hm fun b5d w3 E7b g2b q8b=>?_
 refine nrm ?_
 have g6d:=nlt X1b.size g2b
 refine ss FA q8b fun w4 U9b q0c=>?_
 have F5a:=belU E7b U9b g2b
 have X3b:=xtr X1b F5a
 refine wh h6<|wp_seq_k fun _ h1c=>Ae<|sV (Aa rfl) ?_
 obtain ⟨r0a,h2c,f3c⟩:=Ab f9
 refine sc (Ad KW (by rfl)) (BH x1 0 w4 (tbx X3b hT)  r0a h2c) ?_
 rintro _ w5 E2a ⟨A6a,c7a,rfl,n4c⟩
 refine nrm ?_
 have X4b:=xtr X3b E2a
 refine AA Hm fun b7d w6 E5c g5b q6c=>?_
 refine nrm ?_
 have g8d:=nlt X4b.size g5b
 refine ss FA q6c fun w7 U7c q8c=>?_
 have F1a:=belU E5c U7c g5b
 have X9c:=xtr X4b F1a
 refine wh h1c<|wp_seq_k fun _ h0d=>Ae<|sV3 (Al Bt rfl ((q0c.ext E2a).ext F1a) rfl) (Al Bt rfl q8c rfl) (Bb (vals:=[(0,.agg #[.bool r7.Man.Neg,.slice A3a (sz r7.Man.Abs) c4a,.int .i64 r7.Exp]),(1,.agg #[.bool r0a.Man.Neg,.slice A6a (sz r0a.Man.Abs) c7a,.int .i64 r0a.Exp])]) (cells:=[.bool r7.Man.Neg,.slice A3a (sz r7.Man.Abs) c4a,.int .i64 r7.Exp,.bool r0a.Man.Neg,.slice A6a (sz r0a.Man.Abs) c7a,.int .i64 r0a.Exp]) (by rfl) (by kernel_rfl)) ?_
 have q8a:=(((q5.ext E0b).ext F5a).ext E2a).ext F1a
 refine ss HJ q8a fun w8 U9a q1d=>?_
 have X2d:=belU X9c U9a g4
 refine wh h0d<|wp_ret ?_
 have n3d:=(((n6b.ext F5a).ext E2a).ext F1a).upd U9a q8a (by decide)
 have n4d:=(n4c.ext F1a).upd U9a q8a (by decide)
 obtain rfl:=sj f3c
 exact fin rfl (Res.cellN rfl DE q1d rfl rfl Res.nil) (Aj X2d ⟨A3a,c4a,A6a,c7a,rfl,n3d,n4d⟩)
theorem CU (b b':Nat) (v0 v1 v2 v3 v4 v5:Value) (u:Value) (n:Int) {w:World} (qa:Bx w b 29 [v0,v1,v2,v3,v4,v5]) (qb:Bx w b' 33 [u]) :
  CallsD Tryz.prog 161 #[.pointer (some ⟨b,0,none⟩),.pointer (some ⟨b',0,none⟩)] (.panicking [entry 201 n]) w fun e u' w'=>e = .returned (.tuple #[])∧u' = .panicking [{ entry 201 n with recovered:=true }]∧(Upd2 b b' w w'∧Bx w' b 29 [.bool false,.slice none 0 0,.int .i64 0,.bool false,.slice none 0 0,.int .i64 0]∧Bx w' b' 33 [.int .i64 n]):=by
 refine Kh Tryz.func161 rfl [.pointer (some ⟨b,0,none⟩),.pointer (some ⟨b',0,none⟩),uu,uu,uu,uu,uu,uu,uu,uu,uu,uu,uu,uu,uu,uu,uu,uu,uu,uu,uu,uu,uu,uu,uu,uu] (by simp [Tryz.ntmps161]) fun c₀ cs hu=>?_
 apply wpS_seq
 refine QW hu rfl ?_
 simp only [S0,S1]
 refine wpS_of_wp<|wp_seq_k fun _ h1=>Ae<|sV2 (Aa rfl) (LY LG rfl) ?_
 refine wh h1<|wp_cond_true (Ai (evb rfl rfl))<|wp_seq_k fun _ h2=>Ae<|sV3 (Aa rfl) (Lv Nn rfl) (Aa rfl) ?_
 refine sV2 (Av rfl rfl) (Av rfl rfl) ?_
 refine AA NM fun b3 w1 E4 g5 q6=>?_
 refine nrm ?_
 have X7:=(Upd2.refl b b' w).ext E4
 refine ss NP q6 fun w2 U8 q9=>?_
 have X3a:=X7.upd U8 (.inl g5)
 refine sV (Ac rfl) ?_
 refine wh h2<|wp_seq_k fun _ h9a=>wp_seq_k fun _ h0b=>Ae<|sV2 (Aa rfl) (Mu rfl rfl rfl) ?_
 refine wh h0b<|wp_cond_false (Ai (evb rfl rfl))<|wp_skip<|h9a _ _<|wp_seq_k fun _ h1b=>Ae<|AA Ii fun b8c w3 E1a g2b q3b=>?_
 refine nrm ?_
 have g9c:=nlt X3a.size g2b
 have X4b:=X3a.ext E1a
 refine wh h1b<|Dn [6,8] 9 mo rfl fun w4 E0a S5b=>have X6b:=X4b.ext E0a;dA 0 rfl (fun _=>Aa rfl) ?_
 refine dA 1 rfl (fun _=>Aa rfl) ?_
 refine dV 2 rfl (fun _ hw=>Al DE rfl ((q3b.ext E0a).ext hw) rfl) S5b ?_
 refine dA 3 rfl (fun _=>Ag (o':=0) Mj rfl rfl) ?_
 refine dA 5 rfl (fun _=>BE rfl) ?_
 refine IN #[true,true,true,true,true,true,true,false,false] 2 (fun l l' w'=>UpdS [b] w4 w'∧Bx w' b 29 [.bool false,.slice none 0 0,.int .i64 0,.bool false,.slice none 0 0,.int .i64 0]∧l'=(l.set 23 (.int .i64 n))) ?_ ?_
 ·intro HJ38
  refine Hz 4 6 (by kernel_rfl) ?_ ?_
  ·refine opV 4 rfl (by rfl) (Af Dy rfl (Bx.cell ((q9.ext E1a).ext E0a) rfl)) (dnrm ?_)
   refine Dl 6 (by kernel_rfl) ?_
   ·have F7b:=belU E4 U8 g5
    refine opK 6 rfl (by decide) (by rfl) HJ rfl rfl (((qa.ext F7b).ext E1a).ext E0a) rfl rfl rfl rfl (by simp only [SP0,SP1,S0,S1,Nat.reduceAdd];rfl) fun w5 U8b q9b=>?_
    exact EL (by kernel_rfl) (HJ38 _ _ ⟨((UpdS.refl _ _).upd U8b (.inl im0)),q9b,(by simp only [S0,S1]<;>rfl)⟩)
  ·have F4a:=belU E4 U8 g5
   refine opK 6 rfl (by decide) (by rfl) HJ rfl rfl (((qa.ext F4a).ext E1a).ext E0a) rfl rfl rfl rfl (by simp only [SP0,SP1,S0,S1,Nat.reduceAdd];rfl) fun w5 U5a q0c=>?_
   refine Dl 4 (by kernel_rfl) ?_
   ·have ne1c:=(Bx.neT ((q9.ext E1a).ext E0a) (((qa.ext F4a).ext E1a).ext E0a) (by decide))
    have q2c:=((q9.ext E1a).ext E0a).upd U5a ne1c
    refine opV 4 rfl (by rfl) (Af Dy rfl (Bx.cell q2c rfl)) (dnrm ?_)
    exact EL (by kernel_rfl) (HJ38 _ _ ⟨((UpdS.refl _ _).upd U5a (.inl im0)),q0c,(by simp only [S0,S1]<;>rfl)⟩)
 ·rintro l' w5 ⟨U6a,q3c,hq'⟩ l'' hl
  rw [hq'] at hl
  clear hq'
  simp only [S0,S1] at hl
  subst hl
  have X4c:=X6b.updS U6a (alc (.inr (.inl rfl)) al0)
  refine dA 7 rfl (fun _=>BE rfl) ?_
  have F2a:=belU E4 U8 g5
  have ne7a:=(Bx.neT (((qb.ext F2a).ext E1a).ext E0a) (((qa.ext F2a).ext E1a).ext E0a) (by decide))
  have q5c:=(((qb.ext F2a).ext E1a).ext E0a).updS U6a (nmc ne7a nm0)
  refine dkk 8 HU q5c fun w6 U8a q6c=>?_
  have X7c:=X4c.upd U8a (.inr (.inr rfl))
  refine Cn (by kernel_rfl) ?_
  exact QV (by kernel_rfl) ⟨rfl,rfl,X7c,(q3c.upd U8a (Ne.symm ne7a)),q6c⟩
theorem Hs:Qj Tryz.prog 161:=by
 intro ar b b' w ha
 subst ha
 refine Kh Tryz.func161 rfl [.pointer (some ⟨b,0,none⟩),.pointer (some ⟨b',0,none⟩),uu,uu,uu,uu,uu,uu,uu,uu,uu,uu,uu,uu,uu,uu,uu,uu,uu,uu,uu,uu,uu,uu,uu,uu] (by simp [Tryz.ntmps161]) fun c₀ cs hu=>?_
 apply wpS_seq
 refine Qy hu rfl ?_
 simp only [S0,S1]
 refine wpS_of_wp<|wp_seq_k fun _ h1=>Ae<|sV2 (Aa rfl) (Km LG rfl) ?_
 refine wh h1<|wp_cond_false (Ai (evb rfl rfl))<|wp_skip ?_
 exact PN hu (by kernel_rfl) ⟨rfl,rfl,rfl⟩
theorem c_wide_Int_Sign (x0:Ah) (A1:Option Addr) (c2:Nat) (w:World) (hT:TB w) (n3:RU w A1 c2 x0.Abs) (r:Int) (hr:HY x0=some r) :
  Calls Tryz.prog 182 #[.agg #[.bool x0.Neg,.slice A1 (sz x0.Abs) c2]] w (Ret Fy w r):=by
 unfold HY at hr
 go_enter Tryz.func182,Tryz.ntmps182
 refine wp_seq_k fun _ h4=>Ae<|Bu rfl rfl fun b5 w1 E6 g7 q8=>?_
 refine nrm ?_
 refine sV (Ac rfl) ?_
 refine wh h4<|wp_seq_k fun _ h9=>?_
 apply wp_block
 refine wp_seq_k fun _ h3a=>Ae<|sV3 (Ag (o':=1) BF rfl rfl) (Af DI rfl (Bx.cell q8 rfl)) (Ax Aq rfl) ?_
 refine sb (Bl rfl rfl) fun z2a hz2a=>?_
 refine nrm ?_
 refine sV (Ac rfl) ?_
 refine wh h3a ?_
 rcases zi hz2a hr with ⟨e1a,_,f4a⟩ | ⟨e1a,_,f32⟩
 ·refine wp_cond_true (Ai (evb rfl e1a))<|wp_seq_k fun _ h5a=>Ae<|sV (Ac rfl) ?_
  refine wh h5a<|wp_ret ?_
  obtain rfl:=sj f4a
  exact fin rfl (Res.tmp rfl Res.nil) (Aj E6 rfl)
 ·refine wp_cond_false (Ai (evb rfl e1a))<|wp_seq_k fun _ h6a=>Ae<|sV3 (Ag (o':=0) Fz rfl rfl) (Af GC rfl (Bx.cell q8 rfl)) (Ac rfl) ?_
  refine wh h6a ?_
  rcases bft x0.Neg with e0a | e0a
  ·have p7a:=e0a
   have f8a:=ifP p7a f32
   refine wp_cond_true (Ai (evb rfl e0a))<|wp_seq_k fun _ h9a=>Ae<|sV (Ac rfl) ?_
   refine wh h9a<|wp_ret ?_
   obtain rfl:=sj f8a
   exact fin rfl (Res.tmp rfl Res.nil) (Aj E6 rfl)
  ·have p0b:=bF e0a
   have f1b:=ifN p0b f32
   refine wp_cond_false (Ai (evb rfl e0a))<|wp_skip<|h9 _ _<|wp_seq_k fun _ h2b=>Ae<|sV (Ac rfl) ?_
   refine wh h2b<|wp_ret ?_
   obtain rfl:=sj f1b
   exact fin rfl (Res.tmp rfl Res.nil) (Aj E6 rfl)
theorem DZ (x0:Am) (A1:Option Addr) (c2:Nat) (w:World) (hT:TB w) (n3:RU w A1 c2 x0.m.Abs) (r:Int) (hr:Bz x0=some r) :
  Calls Tryz.prog 103 #[.agg #[.bool x0.m.Neg,.slice A1 (sz x0.m.Abs) c2,.int .i64 x0.e]] w (Ret Fy w r):=by
 unfold Bz at hr
 go_enter Tryz.func103,Tryz.ntmps103
 refine wp_seq_k fun _ h4=>Ae<|Bu rfl rfl fun b5 w1 E6 g7 q8=>?_
 refine nrm ?_
 refine sV (Ac rfl) ?_
 refine wh h4<|wp_seq_k fun _ h9=>Ae<|sV2 (Ag (o':=0) CB rfl rfl) (AL EH rfl q8 (by simp only [List.drop_zero,List.take_succ_cons,List.take_zero];rfl) rfl) ?_
 obtain ⟨r0a,h1a,f2a⟩:=Ab hr
 refine sc (Ad en_182 (by rfl)) (c_wide_Int_Sign x0.m A1 c2 w1 (tbx E6 hT) (n3.ext E6) r0a h1a) ?_
 rintro _ w2 E3a rfl
 refine nrm ?_
 have X4a:=xtr E6 E3a
 refine sV (Ac rfl) ?_
 refine wh h9<|wp_ret ?_
 obtain rfl:=sj f2a
 exact fin rfl (Res.tmp rfl Res.nil) (Aj X4a rfl)
theorem Le (x0:Int) (x1:Int) (w:World) (hT:TB w) (r:Int) (hr:Fj x0 x1=some r) :
  Calls Tryz.prog 187 #[.int .i64 x0,.int .i64 x1] w (Ret Fy w r):=by
 unfold Fj at hr
 go_enter Tryz.func187,Tryz.ntmps187
 refine wp_seq_k fun _ h1=>Ae<|sV (Ac rfl) ?_
 refine wh h1<|wp_seq_k fun _ h2=>?_
 apply wp_block
 refine wp_seq_k fun _ h3=>Ae<|sV2 (Aa rfl) (Aa rfl) ?_
 refine sb (Cj rfl rfl) fun z4 hz4=>?_
 refine nrm ?_
 refine sV (Ac rfl) ?_
 refine wh h3 ?_
 rcases zi hz4 hr with ⟨e0a,_,f3a⟩ | ⟨e0a,_,f4a⟩
 ·refine wp_cond_true (Ai (evb rfl e0a))<|wp_seq_k fun _ h5a=>Ae<|sV (Ac rfl) ?_
  refine wh h5a<|wp_ret ?_
  obtain rfl:=sj f3a
  exact fin rfl (Res.tmp rfl Res.nil) (Aj (Ext.refl _) rfl)
 ·refine wp_cond_false (Ai (evb rfl e0a))<|wp_seq_k fun _ h6a=>Ae<|sV2 (Aa rfl) (Aa rfl) ?_
  refine sb (EX rfl rfl) fun z2a hz2a=>?_
  refine nrm ?_
  refine sV (Ac rfl) ?_
  refine wh h6a ?_
  rcases zi hz2a f4a with ⟨e1a,_,f7a⟩ | ⟨e1a,_,f8a⟩
  ·refine wp_cond_true (Ai (evb rfl e1a))<|wp_seq_k fun _ h9a=>Ae<|sV (Ac rfl) ?_
   refine wh h9a<|wp_ret ?_
   obtain rfl:=sj f7a
   exact fin rfl (Res.tmp rfl Res.nil) (Aj (Ext.refl _) rfl)
  ·refine wp_cond_false (Ai (evb rfl e1a))<|wp_skip<|h2 _ _<|wp_seq_k fun _ h0b=>Ae<|sV (Ac rfl) ?_
   refine wh h0b<|wp_ret ?_
   obtain rfl:=sj f8a
   exact fin rfl (Res.tmp rfl Res.nil) (Aj (Ext.refl _) rfl)
theorem JB (x0:Am) (A1:Option Addr) (c2:Nat) (w:World) (hT:TB w) (n3:RU w A1 c2 x0.m.Abs) (r:Int) (hr:FO x0=some r) :
  Calls Tryz.prog 122 #[.agg #[.bool x0.m.Neg,.slice A1 (sz x0.m.Abs) c2,.int .i64 x0.e]] w (Ret Fy w r):=by
 unfold FO at hr
 go_enter Tryz.func122,Tryz.ntmps122
 refine wp_seq_k fun _ h4=>Ae<|Bu rfl rfl fun b5 w1 E6 g7 q8=>?_
 refine nrm ?_
 refine sV (Ac rfl) ?_
 refine wh h4<|wp_seq_k fun _ h9=>Dn [] 9 mo rfl fun w2 E0a S1a=>have X2a:=xtr E6 E0a;dA 0 rfl (fun _=>Ag (o':=0) CB rfl rfl) ?_
 refine dA 1 rfl (fun _=>Ag (o':=1) BF rfl rfl) ?_
 refine dV 2 rfl (fun _ hw=>Af DI rfl (Bx.cell ((q8.ext E0a).ext hw) rfl)) S1a ?_
 refine dA 5 rfl (fun _=>Ag (o':=2) Ef rfl rfl) ?_
 refine dV 6 rfl (fun _ hw=>Af EN rfl (Bx.cell ((q8.ext E0a).ext hw) rfl)) S1a ?_
 obtain ⟨r3a,h5a,f6a⟩:=Ab hr
 refine dc 3 rfl (by kernel_rfl) (by rfl) (Ad ME (by rfl)) (EF x0.m.Abs A1 c2 w2 (tbx X2a hT) (n3.ext X2a) r3a h5a) ?_
 rintro _ w3 E4a rfl
 refine dnrm ?_
 have X7a:=xtr X2a E4a
 have S8a:=S1a.trans E4a
 refine dA 4 rfl (fun _=>Ba (c:=wi64 (r3a - 1)) rfl rfl rfl) ?_
 refine dA 7 rfl (fun _=>AM (c:=wi64 ((wi64 (r3a - 1))+x0.e)) rfl rfl rfl) ?_
 refine dA 8 rfl (fun _=>Ac rfl) ?_
 refine Cn (by kernel_rfl) ?_
 refine h9 _ _<|wp_ret ?_
 obtain rfl:=sj f6a
 exact fin rfl (Res.tmp rfl Res.nil) (Aj X7a rfl)
theorem c_wide_Int_Minus (x0:Ah) (A1:Option Addr) (c2:Nat) (w:World) (hT:TB w) (n3:RU w A1 c2 x0.Abs) (r:Ah) (hr:HL x0=some r) :
  Calls Tryz.prog 192 #[.agg #[.bool x0.Neg,.slice A1 (sz x0.Abs) c2]] w (Ret Mn w r):=by
 unfold HL at hr
 go_enter Tryz.func192,Tryz.ntmps192
 refine wp_seq_k fun _ h4=>Ae<|Bu rfl rfl fun b5 w1 E6 g7 q8=>?_
 refine nrm ?_
 refine AA Ib fun b9 w2 E1a g2a q4a=>?_
 refine nrm ?_
 have g9a:=nlt E6.size g2a
 refine wh h4<|wp_seq_k fun _ h5a=>Ae<|sV2 (Ag (o':=0) Fz rfl rfl) (Af GC rfl (Bx.cell (q8.ext E1a) rfl)) ?_
 refine sb (Fv rfl) fun z0a hz0a=>?_
 refine nrm ?_
 refine sV3 (Ag (o':=1) BF rfl rfl) (Af DI rfl (Bx.cell (q8.ext E1a) rfl)) (Bb (vals:=[(0,.bool z0a),(1,.slice A1 (sz x0.Abs) c2)]) (cells:=[.bool z0a,.slice A1 (sz x0.Abs) c2]) (by rfl) (by kernel_rfl)) ?_
 refine ss Hr q4a fun w3 U6a q7a=>?_
 have F8a:=belU E1a U6a g2a
 have X3a:=xtr E6 F8a
 refine wh h5a<|wp_ret ?_
 obtain rfl:z0a=decide (¬(x0.Neg=true)):=bz hz0a
 obtain rfl:=sj hr
 exact fin rfl (Res.cellN rfl EH q7a rfl rfl Res.nil) (Aj X3a ⟨A1,c2,rfl,(n3.ext X3a)⟩)
theorem c_dyad_num_minus (x0:Am) (A1:Option Addr) (c2:Nat) (w:World) (hT:TB w) (n3:RU w A1 c2 x0.m.Abs) (r:Am) (hr:HN x0=some r) :
  Calls Tryz.prog 115 #[.agg #[.bool x0.m.Neg,.slice A1 (sz x0.m.Abs) c2,.int .i64 x0.e]] w (Ret IS w r):=by
 unfold HN at hr
 go_enter Tryz.func115,Tryz.ntmps115
 refine wp_seq_k fun _ h4=>Ae<|Bu rfl rfl fun b5 w1 E6 g7 q8=>?_
 refine nrm ?_
 refine AA Bn fun b9 w2 E3a g0b q8a=>?_
 refine nrm ?_
 have g1b:=nlt E6.size g0b
 have X2b:=xtr E6 E3a
 refine wh h4<|wp_seq_k fun _ h3b=>Dn [6] 7 mo rfl fun w3 E0a S4a=>have X5a:=xtr X2b E0a;dA 0 rfl (fun _=>Ag (o':=0) CB rfl rfl) ?_
 refine dV 1 rfl (fun _ hw=>AL EH rfl (((q8.ext E3a).ext E0a).ext hw) (by simp only [List.drop_zero,List.take_succ_cons,List.take_zero];rfl) rfl) S4a ?_
 refine dA 3 rfl (fun _=>Ag (o':=2) Ef rfl rfl) ?_
 refine dV 4 rfl (fun _ hw=>Af EN rfl (Bx.cell (((q8.ext E3a).ext E0a).ext hw) rfl)) S4a ?_
 obtain ⟨r1a,h4b,f5b⟩:=Ab hr
 refine dc 2 rfl (by kernel_rfl) (by rfl) (Ad en_192 (by rfl)) (c_wide_Int_Minus x0.m A1 c2 w3 (tbx X5a hT) (n3.ext X5a) r1a h4b) ?_
 rintro _ w4 E2a ⟨A6a,c7a,rfl,n6b⟩
 refine dnrm ?_
 have X7b:=xtr X5a E2a
 have S1c:=S4a.trans E2a
 refine dA 5 rfl (fun _=>Bb (vals:=[(0,.agg #[.bool r1a.Neg,.slice A6a (sz r1a.Abs) c7a]),(1,.int .i64 x0.e)]) (cells:=[.bool r1a.Neg,.slice A6a (sz r1a.Abs) c7a,.int .i64 x0.e]) (by rfl) (by kernel_rfl)) ?_
 refine dkk 6 CL ((q8a.ext E0a).ext E2a) fun w5 U9a q8b=>?_
 have X9b:=belU X7b U9a g1b
 refine Cn (by kernel_rfl) ?_
 refine h3b _ _<|wp_ret ?_
 have n0c:=n6b.upd U9a ((q8a.ext E0a).ext E2a) (by decide)
 obtain rfl:=sj f5b
 exact fin rfl (Res.cellN rfl AN q8b rfl rfl Res.nil) (Aj X9b ⟨A6a,c7a,rfl,n0c⟩)
theorem c_wide_Int_Add (x0:Ah) (x1:Ah) (A1:Option Addr) (c2:Nat) (A4:Option Addr) (c5:Nat) (w:World) (hT:TB w) (n3:RU w A1 c2 x0.Abs) (n6:RU w A4 c5 x1.Abs) (r:Ah) (hr:Iw x0 x1=some r) :
  Calls Tryz.prog 196 #[.agg #[.bool x0.Neg,.slice A1 (sz x0.Abs) c2],.agg #[.bool x1.Neg,.slice A4 (sz x1.Abs) c5]] w (Ret Mn w r):=by
 unfold Iw at hr
 go_enter Tryz.func196,Tryz.ntmps196
 refine wp_seq_k fun _ h7=>Ae<|Bu rfl rfl fun b8 w1 E9 g5h q3a=>?_
 refine nrm ?_
 refine Bu rfl rfl fun b6h w2 E2a g0e q4a=>?_
 refine nrm ?_
 have g7h:=nlt E9.size g0e
 have X1d:=xtr E9 E2a
 refine AA Ib fun b8h w3 E0a g1e q9a=>?_
 refine nrm ?_
 have g7b:=nlt X1d.size g1e
 have X6a:=xtr X1d E0a
 refine wh h7<|wp_seq_k fun _ h2e=>wp_seq_k fun _ h3e=>Ae<|sV3 (Ag (o':=0) Fz rfl rfl) (Af GC rfl (Bx.cell ((q3a.ext E2a).ext E0a) rfl)) (Ag (o':=0) Fz rfl rfl) ?_
 refine sV (Af GC rfl (Bx.cell (q4a.ext E0a) rfl)) ?_
 refine sb (Pa Ps rfl rfl) fun z2d hz2d=>?_
 refine nrm ?_
 refine wh h3e ?_
 rcases zi hz2d hr with ⟨e8b,_,f4e⟩ | ⟨e8b,_,f5e⟩
 ·refine wp_cond_true (Ai (evb rfl e8b))<|wp_seq_k fun _ h6e=>Dn [8] 9 mo rfl fun w4 E5a S0b=>have X1b:=xtr X6a E5a;dA 0 rfl (fun _=>Ag (o':=0) Fz rfl rfl) ?_
  refine dV 1 rfl (fun _ hw=>Af GC rfl (Bx.cell ((((q3a.ext E2a).ext E0a).ext E5a).ext hw) rfl)) S0b ?_
  refine dA 2 rfl (fun _=>Ag (o':=1) BF rfl rfl) ?_
  refine dV 3 rfl (fun _ hw=>Af DI rfl (Bx.cell ((((q3a.ext E2a).ext E0a).ext E5a).ext hw) rfl)) S0b ?_
  refine dA 4 rfl (fun _=>Ag (o':=1) BF rfl rfl) ?_
  refine dV 5 rfl (fun _ hw=>Af DI rfl (Bx.cell (((q4a.ext E0a).ext E5a).ext hw) rfl)) S0b ?_
  obtain ⟨r9b,h7e,f8e⟩:=Ab f4e
  refine dc 6 rfl (by kernel_rfl) (by rfl) (Ad Ph (by rfl)) (HB x0.Abs x1.Abs A1 c2 A4 c5 w4 (tbx X1b hT) (n3.ext X1b) (n6.ext X1b) r9b h7e) ?_
  rintro _ w5 E2b ⟨A0c,c1c,rfl,n9e⟩
  refine dnrm ?_
  have X0f:=xtr X1b E2b
  have S9h:=S0b.trans E2b
  refine dA 7 rfl (fun _=>Bb (vals:=[(0,.bool x0.Neg),(1,.slice A0c (sz r9b) c1c)]) (cells:=[.bool x0.Neg,.slice A0c (sz r9b) c1c]) (by rfl) (by kernel_rfl)) ?_
  refine dkk 8 Hr ((q9a.ext E5a).ext E2b) fun w6 U3d q1f=>?_
  have X2f:=belU X0f U3d g7b
  refine Cn (by kernel_rfl) ?_
  refine h6e _ _<|wp_ret ?_
  have n3f:=n9e.upd U3d ((q9a.ext E5a).ext E2b) (by decide)
  obtain rfl:=sj f8e
  exact fin rfl (Res.cellN rfl EH q1f rfl rfl Res.nil) (Aj X2f ⟨A0c,c1c,rfl,n3f⟩)
 ·refine wp_cond_false (Ai (evb rfl e8b))<|wp_skip<|h2e _ _<|wp_seq_k fun _ h4f=>wp_seq_k fun _ h5f=>Ae<|sV3 (Ag (o':=1) BF rfl rfl) (Af DI rfl (Bx.cell ((q3a.ext E2a).ext E0a) rfl)) (Ag (o':=1) BF rfl rfl) ?_
  refine sV (Af DI rfl (Bx.cell (q4a.ext E0a) rfl)) ?_
  obtain ⟨r6f,h7f,f8f⟩:=Ab f5e
  refine sc (Ad Nd (by rfl)) (GF x0.Abs x1.Abs A1 c2 A4 c5 w3 (tbx X6a hT) (n3.ext X6a) (n6.ext X6a) r6f h7f) ?_
  rintro _ w4 E1a rfl
  refine nrm ?_
  have X4d:=xtr X6a E1a
  refine sb (Fu rfl rfl) fun z5d hz5d=>?_
  refine nrm ?_
  refine wh h5f ?_
  rcases zi hz5d f8f with ⟨e2c,_,f9f⟩ | ⟨e2c,_,f0g⟩
  ·refine wp_cond_true (Ai (evb rfl e2c))<|wp_seq_k fun _ h1g=>Dn [8] 9 mo rfl fun w5 E7a S3b=>have X4b:=xtr X4d E7a;dA 0 rfl (fun _=>Ag (o':=0) Fz rfl rfl) ?_
   refine dV 1 rfl (fun _ hw=>Af GC rfl (Bx.cell (((((q3a.ext E2a).ext E0a).ext E1a).ext E7a).ext hw) rfl)) S3b ?_
   refine dA 2 rfl (fun _=>Ag (o':=1) BF rfl rfl) ?_
   refine dV 3 rfl (fun _ hw=>Af DI rfl (Bx.cell (((((q3a.ext E2a).ext E0a).ext E1a).ext E7a).ext hw) rfl)) S3b ?_
   refine dA 4 rfl (fun _=>Ag (o':=1) BF rfl rfl) ?_
   refine dV 5 rfl (fun _ hw=>Af DI rfl (Bx.cell ((((q4a.ext E0a).ext E1a).ext E7a).ext hw) rfl)) S3b ?_
   obtain ⟨r3c,h2g,f3g⟩:=Ab f9f
   refine dc 6 rfl (by kernel_rfl) (by rfl) (Ad NL (by rfl)) (GM x0.Abs x1.Abs A1 c2 A4 c5 w5 (tbx X4b hT) (n3.ext X4b) (n6.ext X4b) r3c h2g) ?_
   rintro _ w6 E4c ⟨A5c,c6c,rfl,n4g⟩
   refine dnrm ?_
   have X5g:=xtr X4b E4c
   have S0i:=S3b.trans E4c
   refine dA 7 rfl (fun _=>Bb (vals:=[(0,.bool x0.Neg),(1,.slice A5c (sz r3c) c6c)]) (cells:=[.bool x0.Neg,.slice A5c (sz r3c) c6c]) (by rfl) (by kernel_rfl)) ?_
   have q6d:=((q9a.ext E1a).ext E7a).ext E4c
   refine dkk 8 Hr q6d fun w7 U7d q6g=>?_
   have X7g:=belU X5g U7d g7b
   refine Cn (by kernel_rfl) ?_
   refine h1g _ _<|wp_ret ?_
   obtain rfl:=sj f3g
   exact fin rfl (Res.cellN rfl EH q6g rfl rfl Res.nil) (Aj X7g ⟨A5c,c6c,rfl,(n4g.upd U7d q6d (by decide))⟩)
  ·refine wp_cond_false (Ai (evb rfl e2c))<|wp_skip<|h4f _ _<|wp_seq_k fun _ h8g=>Dn [8] 9 mo rfl fun w5 E8a S5b=>have X6b:=xtr X4d E8a;dA 0 rfl (fun _=>Ag (o':=0) Fz rfl rfl) ?_
   refine dV 1 rfl (fun _ hw=>Af GC rfl (Bx.cell ((((q4a.ext E0a).ext E1a).ext E8a).ext hw) rfl)) S5b ?_
   refine dA 2 rfl (fun _=>Ag (o':=1) BF rfl rfl) ?_
   refine dV 3 rfl (fun _ hw=>Af DI rfl (Bx.cell ((((q4a.ext E0a).ext E1a).ext E8a).ext hw) rfl)) S5b ?_
   refine dA 4 rfl (fun _=>Ag (o':=1) BF rfl rfl) ?_
   refine dV 5 rfl (fun _ hw=>Af DI rfl (Bx.cell (((((q3a.ext E2a).ext E0a).ext E1a).ext E8a).ext hw) rfl)) S5b ?_
   obtain ⟨r7c,h9g,f0h⟩:=Ab f0g
   refine dc 6 rfl (by kernel_rfl) (by rfl) (Ad NL (by rfl)) (GM x1.Abs x0.Abs A4 c5 A1 c2 w5 (tbx X6b hT) (n6.ext X6b) (n3.ext X6b) r7c h9g) ?_
   rintro _ w6 E8c ⟨A9c,c0d,rfl,n1h⟩
   refine dnrm ?_
   have X2h:=xtr X6b E8c
   have S1i:=S5b.trans E8c
   refine dA 7 rfl (fun _=>Bb (vals:=[(0,.bool x1.Neg),(1,.slice A9c (sz r7c) c0d)]) (cells:=[.bool x1.Neg,.slice A9c (sz r7c) c0d]) (by rfl) (by kernel_rfl)) ?_
   have q8d:=((q9a.ext E1a).ext E8a).ext E8c
   refine dkk 8 Hr q8d fun w7 U9d q3h=>?_
   have X4h:=belU X2h U9d g7b
   refine Cn (by kernel_rfl) ?_
   refine h8g _ _<|wp_ret ?_
   obtain rfl:=sj f0h
   exact fin rfl (Res.cellN rfl EH q3h rfl rfl Res.nil) (Aj X4h ⟨A9c,c0d,rfl,(n1h.upd U9d q8d (by decide))⟩)
theorem c_dyad_num_plus_1 (x0:Ah) (x1:Ah) (x2:Int) (A1:Option Addr) (c2:Nat) (A4:Option Addr) (c5:Nat) (w:World) (hT:TB w) (n3:RU w A1 c2 x0.Abs) (n6:RU w A4 c5 x1.Abs) (r:Am) (hr:Hv x0 x1 x2=some r) :
  Calls Tryz.prog 195 #[.agg #[.bool x0.Neg,.slice A1 (sz x0.Abs) c2],.agg #[.bool x1.Neg,.slice A4 (sz x1.Abs) c5],.int .i64 x2] w (Ret IS w r):=by
 unfold Hv at hr
 go_enter Tryz.func195,Tryz.ntmps195
 refine wp_seq_k fun _ h7=>Ae<|Bu rfl rfl fun b8 w1 E9 g1d q0b=>?_
 refine nrm ?_
 refine Bu rfl rfl fun b2d w2 E4a g1b q2b=>?_
 refine nrm ?_
 have g3d:=nlt E9.size g1b
 have X5a:=xtr E9 E4a
 refine AA Bn fun b4d w3 E1a g3b q6a=>?_
 refine nrm ?_
 have g4b:=nlt X5a.size g3b
 have X0a:=xtr X5a E1a
 refine wh h7<|wp_seq_k fun _ h5b=>Ae<|sV2 (Al EH rfl ((q0b.ext E4a).ext E1a) rfl) (Al EH rfl (q2b.ext E1a) rfl) ?_
 obtain ⟨r7a,h6b,f7b⟩:=Ab hr
 refine sc (Ad en_196 (by rfl)) (c_wide_Int_Add x0 x1 A1 c2 A4 c5 w3 (tbx X0a hT) (n3.ext X0a) (n6.ext X0a) r7a h6b) ?_
 rintro _ w4 E2a ⟨A8b,c9b,rfl,n0c⟩
 refine nrm ?_
 have X8a:=xtr X0a E2a
 refine sV (Aa rfl) ?_
 obtain ⟨r1c,h2c,f3c⟩:=Ab f7b
 refine sc (Ad LN (by rfl)) (Gz r7a x2 A8b c9b w4 (tbx X8a hT) n0c r1c h2c) ?_
 rintro _ w5 E3a ⟨A4c,c5c,rfl,n6c⟩
 refine nrm ?_
 have X7c:=xtr X8a E3a
 refine ss CL ((q6a.ext E2a).ext E3a) fun w6 U9a q8c=>?_
 have X9c:=belU X7c U9a g4b
 refine wh h5b<|wp_ret ?_
 have n0d:=n6c.upd U9a ((q6a.ext E2a).ext E3a) (by decide)
 obtain rfl:=sj f3c
 exact fin rfl (Res.cellN rfl AN q8c rfl rfl Res.nil) (Aj X9c ⟨A4c,c5c,rfl,n0d⟩)
theorem c_dyad_aligned__dyad_num_plus_1 (x0:Am) (x1:Am) (A1:Option Addr) (c2:Nat) (A4:Option Addr) (c5:Nat) (w:World) (hT:TB w) (n3:RU w A1 c2 x0.m.Abs) (n6:RU w A4 c5 x1.m.Abs) (r:Am) (hr:Dp x0 x1=some r) :
  Calls Tryz.prog 194 #[.agg #[.bool x0.m.Neg,.slice A1 (sz x0.m.Abs) c2,.int .i64 x0.e],.agg #[.bool x1.m.Neg,.slice A4 (sz x1.m.Abs) c5,.int .i64 x1.e],.func (.func 195) #[] #[]] w (Ret IS w r):=by
 unfold Dp at hr
 go_enter Tryz.func194,Tryz.ntmps194
 refine wp_seq_k fun _ h7=>Ae<|Bu rfl rfl fun b8 w1 E9 g7l q1c=>?_
 refine nrm ?_
 refine Bu rfl rfl fun b7f w2 E2b g8l q2a=>?_
 refine nrm ?_
 have g2v:=nlt E9.size g8l
 have X8f:=xtr E9 E2b
 refine AA Bn fun b3v w3 E0a g9l q8d=>?_
 refine nrm ?_
 have g0m:=nlt X8f.size g9l
 have X1m:=xtr X8f E0a
 refine wh h7<|wp_seq_k fun _ h2m=>Ae<|sV3 (Ag (o':=2) Ef rfl rfl) (Af EN rfl (Bx.cell ((q1c.ext E2b).ext E0a) rfl)) (Ag (o':=2) Ef rfl rfl) ?_
 refine sV3 (Af EN rfl (Bx.cell (q2a.ext E0a) rfl)) (Oc rfl rfl) (Ac rfl) ?_
 refine wh h2m<|wp_seq_k fun _ h3m=>wp_seq_k fun _ h4m=>Ae<|sV3 (Ag (o':=0) CB rfl rfl) (Ag (o':=1) BF rfl rfl) (Af DI rfl (Bx.cell ((q1c.ext E2b).ext E0a) rfl)) ?_
 refine sV (Ax Aq rfl) ?_
 refine sb (Bl rfl rfl) fun z9f hz9f=>?_
 refine nrm ?_
 refine wh h4m ?_
 obtain ⟨m5m,h6m,f7m⟩:=Ab hr
 refine BX (fun l l' w'=>∃(t0g:Value) (t1g:Value),w3=w'∧l'=(((l.set 7 (.int .i64 m5m)).set 20 t0g).set 21 t1g)) ?_ ?_
 ·rcases zi hz9f h6m with ⟨e9d,_,f8m⟩ | ⟨e9d,_,f9m⟩
  ·refine wp_cond_true (Ai (evb rfl e9d))<|Ae<|sV3 (Ag (o':=2) Ef rfl rfl) (Af EN rfl (Bx.cell (q2a.ext E0a) rfl)) (Ac rfl) ?_
   refine AG ?_
   obtain rfl:=sj f8m
   exact ⟨_,rfl,(.pointer (some ⟨b7f,2,none⟩)),(.int .i64 x1.e),rfl,(by simp only [S0,S1]<;>rfl)⟩
  ·refine wp_cond_false (Ai (evb rfl e9d))<|wp_skip ?_
   obtain rfl:=sj f9m
   exact ⟨_,rfl,uu,uu,rfl,(by simp only [S0,S1]<;>rfl)⟩
 ·rintro l' _ ⟨t0g,t1g,rfl,hq'⟩ l'' hl
  rw [hq'] at hl
  clear hq'
  simp only [S0,S1] at hl
  subst hl
  refine h3m _ _<|wp_seq_k fun _ h0n=>wp_seq_k fun _ h1n=>Ae<|sV3 (Ag (o':=0) CB rfl rfl) (Ag (o':=1) BF rfl rfl) (Af DI rfl (Bx.cell (q2a.ext E0a) rfl)) ?_
  refine sV (Ax Aq rfl) ?_
  refine sb (Bl rfl rfl) fun z2g hz2g=>?_
  refine nrm ?_
  refine wh h1n ?_
  obtain ⟨m6a,h2n,f3n⟩:=Ab f7m
  refine BX (fun l l' w'=>∃(t3g:Value) (t4g:Value),w3=w'∧l'=(((l.set 7 (.int .i64 m6a)).set 27 t3g).set 28 t4g)) ?_ ?_
  ·rcases zi hz2g h2n with ⟨e0e,_,f64⟩ | ⟨e0e,_,f4n⟩
   ·refine wp_cond_true (Ai (evb rfl e0e))<|Ae<|sV3 (Ag (o':=2) Ef rfl rfl) (Af EN rfl (Bx.cell ((q1c.ext E2b).ext E0a) rfl)) (Ac rfl) ?_
    refine AG ?_
    obtain rfl:=sj f64
    exact ⟨_,rfl,(.pointer (some ⟨b8,2,none⟩)),(.int .i64 x0.e),rfl,(by simp only [S0,S1]<;>rfl)⟩
   ·refine wp_cond_false (Ai (evb rfl e0e))<|wp_skip ?_
    obtain rfl:=sj f4n
    exact ⟨_,rfl,uu,uu,rfl,(by simp only [S0,S1]<;>rfl)⟩
  ·rintro l' _ ⟨t3g,t4g,rfl,hq'⟩ l'' hl
   rw [hq'] at hl
   clear hq'
   simp only [S0,S1] at hl
   subst hl
   refine h0n _ _<|wp_seq_k fun _ h5n=>Dn [6,7] 8 mo rfl fun w4 E1a S6n=>have X5a:=xtr X1m E1a;dA 0 rfl (fun _=>Ag (o':=0) CB rfl rfl) ?_
   refine dV 1 rfl (fun _ hw=>AL EH rfl ((((q1c.ext E2b).ext E0a).ext E1a).ext hw) (by simp only [List.drop_zero,List.take_succ_cons,List.take_zero];rfl) rfl) S6n ?_
   refine dA 2 rfl (fun _=>Ag (o':=0) CB rfl rfl) ?_
   refine IN #[true,true,true,true,true,true,true,false] 1 (fun l l' w'=>∃(b3b:Nat) (b4b:Nat),UpdS [] w4 w'∧w4.heap.size≤b3b∧Bx w' b3b 117 [.bool x0.m.Neg,.slice A1 (sz x0.m.Abs) c2]∧w4.heap.size≤b4b∧Bx w' b4b 117 [.bool false,.slice none 0 0]∧b3b≠b4b∧l'=(((l.set 8 (.pointer (some ⟨b3b,0,none⟩))).set 9 (.pointer (some ⟨b4b,0,none⟩))).set 32 (.agg #[.bool x1.m.Neg,.slice A4 (sz x1.m.Abs) c5]))) ?_ ?_
   ·intro HJ172
    refine Og 3 4 5 (by kernel_rfl) ?_ ?_ ?_
    ·refine opV 3 rfl (by rfl) (AL EH rfl ((q2a.ext E0a).ext E1a) (by simp only [List.drop_zero,List.take_succ_cons,List.take_zero];rfl) rfl) (dnrm ?_)
     refine Hz 4 5 (by kernel_rfl) ?_ ?_
     ·refine opA 4 rfl (by rfl) (Bq Ib) fun b7n w5 E1e g2e q5g=>dnrm ?_
      have g4v:=nlt X5a.size g2e
      have X8n:=xtr X5a E1e
      refine Dl 5 (by kernel_rfl) ?_
      ·refine opA 5 rfl (by rfl) (Bq Ib) fun b9n w6 E6g g3e q0o=>dnrm ?_
       have g5v:=nlt X8n.size g3e
       refine Dl 6 (by kernel_rfl) ?_
       ·refine opK 6 rfl (by decide) (by rfl) Hr rfl rfl (q5g.ext E6g) rfl rfl rfl rfl (by simp only [SP0,SP1,S0,S1,Nat.reduceAdd];rfl) fun w7 U7g q1o=>?_
        have ne8g:=(Bx.ne q5g g3e).symm
        exact EL (by kernel_rfl) (HJ172 _ _ ⟨b7n,b9n,((((UpdS.refl _ _).ext E1e).ext E6g).upd U7g (.inr (nlt (Nat.le_refl _) g2e))),(nlt (Nat.le_refl _) g2e),q1o,(nlt (nlt (Nat.le_refl _) E1e.size) g3e),(q0o.upd U7g ne8g),(Ne.symm ne8g),(by simp only [S0,S1]<;>rfl)⟩)
     ·refine opA 5 rfl (by rfl) (Bq Ib) fun b2o w5 E1d g9g q0h=>dnrm ?_
      have g6v:=nlt X5a.size g9g
      have X3o:=xtr X5a E1d
      refine Dl 4 (by kernel_rfl) ?_
      ·refine opA 4 rfl (by rfl) (Bq Ib) fun b4o w6 E1h g2d q5o=>dnrm ?_
       have g7v:=nlt X3o.size g2d
       refine Dl 6 (by kernel_rfl) ?_
       ·refine opK 6 rfl (by decide) (by rfl) Hr rfl rfl q5o rfl rfl rfl rfl (by simp only [SP0,SP1,S0,S1,Nat.reduceAdd];rfl) fun w7 U2h q6o=>?_
        have ne3h:=(Bx.ne q0h g2d)
        exact EL (by kernel_rfl) (HJ172 _ _ ⟨b4o,b2o,((((UpdS.refl _ _).ext E1d).ext E1h).upd U2h (.inr (nlt (nlt (Nat.le_refl _) E1d.size) g2d))),(nlt (nlt (Nat.le_refl _) E1d.size) g2d),q6o,(nlt (Nat.le_refl _) g9g),((q0h.ext E1h).upd U2h ne3h),(Ne.symm ne3h),(by simp only [S0,S1]<;>rfl)⟩)
    ·refine opA 4 rfl (by rfl) (Bq Ib) fun b4e w5 E7a g5b q6b=>dnrm ?_
     have g8v:=nlt X5a.size g5b
     have X4h:=xtr X5a E7a
     refine Hz 3 5 (by kernel_rfl) ?_ ?_
     ·have q7o:=((q2a.ext E0a).ext E1a).ext E7a
      refine opV 3 rfl (by rfl) (AL EH rfl q7o (by simp only [List.drop_zero,List.take_succ_cons,List.take_zero];rfl) rfl) (dnrm ?_)
      refine Dl 5 (by kernel_rfl) ?_
      ·refine opA 5 rfl (by rfl) (Bq Ib) fun b8o w6 E5h g5e q9o=>dnrm ?_
       have g9v:=nlt X4h.size g5e
       refine Dl 6 (by kernel_rfl) ?_
       ·refine opK 6 rfl (by decide) (by rfl) Hr rfl rfl (q6b.ext E5h) rfl rfl rfl rfl (by simp only [SP0,SP1,S0,S1,Nat.reduceAdd];rfl) fun w7 U6h q0p=>?_
        have ne7h:=(Bx.ne q6b g5e).symm
        exact EL (by kernel_rfl) (HJ172 _ _ ⟨b4e,b8o,((((UpdS.refl _ _).ext E7a).ext E5h).upd U6h (.inr (nlt (Nat.le_refl _) g5b))),(nlt (Nat.le_refl _) g5b),q0p,(nlt (nlt (Nat.le_refl _) E7a.size) g5e),(q9o.upd U6h ne7h),(Ne.symm ne7h),(by simp only [S0,S1]<;>rfl)⟩)
     ·refine opA 5 rfl (by rfl) (Bq Ib) fun b8h w6 E0b g6c q9h=>dnrm ?_
      have g0w:=nlt X4h.size g6c
      refine Hz 3 6 (by kernel_rfl) ?_ ?_
      ·have q1p:=(((q2a.ext E0a).ext E1a).ext E7a).ext E0b
       refine opV 3 rfl (by rfl) (AL EH rfl q1p (by simp only [List.drop_zero,List.take_succ_cons,List.take_zero];rfl) rfl) (dnrm ?_)
       refine Dl 6 (by kernel_rfl) ?_
       ·refine opK 6 rfl (by decide) (by rfl) Hr rfl rfl (q6b.ext E0b) rfl rfl rfl rfl (by simp only [SP0,SP1,S0,S1,Nat.reduceAdd];rfl) fun w7 U0i q2p=>?_
        have ne1i:=(Bx.ne q6b g6c).symm
        exact EL (by kernel_rfl) (HJ172 _ _ ⟨b4e,b8h,((((UpdS.refl _ _).ext E7a).ext E0b).upd U0i (.inr (nlt (Nat.le_refl _) g5b))),(nlt (Nat.le_refl _) g5b),q2p,(nlt (nlt (Nat.le_refl _) E7a.size) g6c),(q9h.upd U0i ne1i),(Ne.symm ne1i),(by simp only [S0,S1]<;>rfl)⟩)
      ·refine opK 6 rfl (by decide) (by rfl) Hr rfl rfl (q6b.ext E0b) rfl rfl rfl rfl (by simp only [SP0,SP1,S0,S1,Nat.reduceAdd];rfl) fun w7 U6e q3p=>?_
       refine Dl 3 (by kernel_rfl) ?_
       ·have ne4p:=(Bx.neT ((((q2a.ext E0a).ext E1a).ext E7a).ext E0b) (q6b.ext E0b) (by decide))
        have q5p:=((((q2a.ext E0a).ext E1a).ext E7a).ext E0b).upd U6e ne4p
        refine opV 3 rfl (by rfl) (AL EH rfl q5p (by simp only [List.drop_zero,List.take_succ_cons,List.take_zero];rfl) rfl) (dnrm ?_)
        have ne2i:=(Bx.ne q6b g6c).symm
        exact EL (by kernel_rfl) (HJ172 _ _ ⟨b4e,b8h,((((UpdS.refl _ _).ext E7a).ext E0b).upd U6e (.inr (nlt (Nat.le_refl _) g5b))),(nlt (Nat.le_refl _) g5b),q3p,(nlt (nlt (Nat.le_refl _) E7a.size) g6c),(q9h.upd U6e ne2i),(Ne.symm ne2i),(by simp only [S0,S1]<;>rfl)⟩)
    ·refine opA 5 rfl (by rfl) (Bq Ib) fun b7e w5 E3a g3d q2c=>dnrm ?_
     have g1w:=nlt X5a.size g3d
     have X3i:=xtr X5a E3a
     refine Hz 3 4 (by kernel_rfl) ?_ ?_
     ·have q6p:=((q2a.ext E0a).ext E1a).ext E3a
      refine opV 3 rfl (by rfl) (AL EH rfl q6p (by simp only [List.drop_zero,List.take_succ_cons,List.take_zero];rfl) rfl) (dnrm ?_)
      refine Dl 4 (by kernel_rfl) ?_
      ·refine opA 4 rfl (by rfl) (Bq Ib) fun b7p w6 E4i g4d q8p=>dnrm ?_
       have g2w:=nlt X3i.size g4d
       refine Dl 6 (by kernel_rfl) ?_
       ·refine opK 6 rfl (by decide) (by rfl) Hr rfl rfl q8p rfl rfl rfl rfl (by simp only [SP0,SP1,S0,S1,Nat.reduceAdd];rfl) fun w7 U5i q9p=>?_
        have ne6i:=(Bx.ne q2c g4d)
        exact EL (by kernel_rfl) (HJ172 _ _ ⟨b7p,b7e,((((UpdS.refl _ _).ext E3a).ext E4i).upd U5i (.inr (nlt (nlt (Nat.le_refl _) E3a.size) g4d))),(nlt (nlt (Nat.le_refl _) E3a.size) g4d),q9p,(nlt (Nat.le_refl _) g3d),((q2c.ext E4i).upd U5i ne6i),(Ne.symm ne6i),(by simp only [S0,S1]<;>rfl)⟩)
     ·refine opA 4 rfl (by rfl) (Bq Ib) fun b7i w6 E7b g8b q8e=>dnrm ?_
      have g3w:=nlt X3i.size g8b
      refine Hz 3 6 (by kernel_rfl) ?_ ?_
      ·have q0q:=(((q2a.ext E0a).ext E1a).ext E3a).ext E7b
       refine opV 3 rfl (by rfl) (AL EH rfl q0q (by simp only [List.drop_zero,List.take_succ_cons,List.take_zero];rfl) rfl) (dnrm ?_)
       refine Dl 6 (by kernel_rfl) ?_
       ·refine opK 6 rfl (by decide) (by rfl) Hr rfl rfl q8e rfl rfl rfl rfl (by simp only [SP0,SP1,S0,S1,Nat.reduceAdd];rfl) fun w7 U8i q1q=>?_
        have ne9i:=(Bx.ne q2c g8b)
        exact EL (by kernel_rfl) (HJ172 _ _ ⟨b7i,b7e,((((UpdS.refl _ _).ext E3a).ext E7b).upd U8i (.inr (nlt (nlt (Nat.le_refl _) E3a.size) g8b))),(nlt (nlt (Nat.le_refl _) E3a.size) g8b),q1q,(nlt (Nat.le_refl _) g3d),((q2c.ext E7b).upd U8i ne9i),(Ne.symm ne9i),(by simp only [S0,S1]<;>rfl)⟩)
      ·refine opK 6 rfl (by decide) (by rfl) Hr rfl rfl q8e rfl rfl rfl rfl (by simp only [SP0,SP1,S0,S1,Nat.reduceAdd];rfl) fun w7 U9e q2q=>?_
       refine Dl 3 (by kernel_rfl) ?_
       ·have ne3q:=(Bx.neT ((((q2a.ext E0a).ext E1a).ext E3a).ext E7b) q8e (by decide))
        have q4q:=((((q2a.ext E0a).ext E1a).ext E3a).ext E7b).upd U9e ne3q
        refine opV 3 rfl (by rfl) (AL EH rfl q4q (by simp only [List.drop_zero,List.take_succ_cons,List.take_zero];rfl) rfl) (dnrm ?_)
        have ne0j:=(Bx.ne q2c g8b)
        exact EL (by kernel_rfl) (HJ172 _ _ ⟨b7i,b7e,((((UpdS.refl _ _).ext E3a).ext E7b).upd U9e (.inr (nlt (nlt (Nat.le_refl _) E3a.size) g8b))),(nlt (nlt (Nat.le_refl _) E3a.size) g8b),q2q,(nlt (Nat.le_refl _) g3d),((q2c.ext E7b).upd U9e ne0j),(Ne.symm ne0j),(by simp only [S0,S1]<;>rfl)⟩)
   ·rintro l' w5 ⟨b3b,b4b,U8a,g5q,q9b,g6q,q5d,ne9a,hq'⟩ l'' hl
    rw [hq'] at hl
    clear hq'
    simp only [S0,S1] at hl
    subst hl
    have g7q:=nlt X5a.size g5q
    have g1j:=nlt X5a.size g6q
    have X8q:=KR X5a U8a (X5a).size al0
    refine dkk 7 Hr q5d fun w6 U4a q9q=>?_
    have X7c:=belU X8q U4a g1j
    refine Cn (by kernel_rfl) ?_
    refine h5n _ _<|wp_seq_k fun _ h0r=>wp_seq_k fun _ h1r=>Ae<|sV3 (Ag (o':=1) BF rfl rfl) (Af DI rfl (Bx.cell (q9b.upd U4a ne9a) rfl)) (Ax Aq rfl) ?_
    refine sb (EX rfl rfl) fun z2j hz2j=>?_
    refine nrm ?_
    refine wh h1r ?_
    obtain ⟨m1b,h2r,f3r⟩:=Ab f3n
    refine BX (fun l l' w'=>∃(t3j:Value) (t4j:Value) (t5j:Value) (t6j:Value) (t7j:Value) (t8j:Value) (A3c:Option Addr) (c4c:Nat),UpdS [b3b] w6 w'∧Bx w' b3b 117 [.bool m1b.1,.slice A3c (sz m1b.2) c4c]∧RU w' A3c c4c m1b.2∧l'=((((((l.set 37 t3j).set 38 t4j).set 39 t5j).set 40 t6j).set 41 t7j).set 42 t8j)) ?_ ?_
    ·rcases zi hz2j h2r with ⟨e0f,_,f4r⟩ | ⟨e0f,_,f5r⟩
     ·refine wp_cond_true (Ai (evb rfl e0f))<|Ae<|sV2 (Al EH rfl (q9b.upd U4a ne9a) rfl) (Ag (o':=2) Ef rfl rfl) ?_
      have ne6r:=(Bx.neT ((((q1c.ext E2b).ext E0a).ext E1a).updS U8a nm0) q5d (by decide))
      have q7r:=((((q1c.ext E2b).ext E0a).ext E1a).updS U8a nm0).upd U4a ne6r
      refine sV3 (Af EN rfl (Bx.cell q7r rfl)) (Aa rfl) (Ba (c:=wi64 (x0.e - m6a)) rfl rfl rfl) ?_
      obtain ⟨r1f,h8r,f9r⟩:=Ab f4r
      refine sc (Ad Pg (by rfl)) (JL x0.m (wi64 (x0.e - m6a)) A1 c2 w6 (tbx X7c hT) (n3.ext X7c) r1f h8r) ?_
      rintro _ w7 E2f ⟨A9j,c0k,rfl,n0s⟩
      refine nrm ?_
      refine ss Hr ((q9b.upd U4a ne9a).ext E2f) fun w8 U1k q1s=>?_
      refine AG ?_
      have n2s:=n0s.upd U1k ((q9b.upd U4a ne9a).ext E2f) (by decide)
      obtain rfl:=sj f9r
      exact ⟨_,rfl,(.agg #[.bool x0.m.Neg,.slice A1 (sz x0.m.Abs) c2]),(.pointer (some ⟨b8,2,none⟩)),(.int .i64 x0.e),(.int .i64 m6a),(.int .i64 (wi64 (x0.e - m6a))),(.agg #[.bool r1f.Neg,.slice A9j (sz r1f.Abs) c0k]),A9j,c0k,(((UpdS.refl _ _).ext E2f).upd U1k (.inl im0)),q1s,n2s,(by simp only [S0,S1]<;>rfl)⟩
     ·refine wp_cond_false (Ai (evb rfl e0f))<|wp_skip ?_
      obtain rfl:=sj f5r
      exact ⟨_,rfl,uu,uu,uu,uu,uu,uu,A1,c2,(UpdS.refl _ _),(q9b.upd U4a ne9a),(n3.ext X7c),(by simp only [S0,S1]<;>rfl)⟩
    ·rintro l' w7 ⟨t3j,t4j,t5j,t6j,t7j,t8j,A3c,c4c,U6d,q3s,n4s,hq'⟩ l'' hl
     rw [hq'] at hl
     clear hq'
     simp only [S0,S1] at hl
     subst hl
     have X8c:=KR X7c U6d (X7c).size (alc g7q al0)
     refine h0r _ _<|wp_seq_k fun _ h5s=>wp_seq_k fun _ h6s=>Ae<|sV (Ag (o':=1) BF rfl rfl) ?_
     have q5c:=q9q.updS U6d (nmc (Ne.symm ne9a) nm0)
     refine sV2 (Af DI rfl (Bx.cell q5c rfl)) (Ax Aq rfl) ?_
     refine sb (EX rfl rfl) fun z2k hz2k=>?_
     refine nrm ?_
     refine wh h6s ?_
     obtain ⟨m0c,h7s,f8s⟩:=Ab f3r
     refine BX (fun l l' w'=>∃(t3k:Value) (t4k:Value) (t5k:Value) (t6k:Value) (t7k:Value) (t8k:Value) (A9c:Option Addr) (c0d:Nat),UpdS [b4b] w7 w'∧Bx w' b4b 117 [.bool m0c.1,.slice A9c (sz m0c.2) c0d]∧RU w' A9c c0d m0c.2∧l'=((((((l.set 47 t3k).set 48 t4k).set 49 t5k).set 50 t6k).set 51 t7k).set 52 t8k)) ?_ ?_
     ·rcases zi hz2k h7s with ⟨e3f,_,f9s⟩ | ⟨e3f,_,f0t⟩
      ·refine wp_cond_true (Ai (evb rfl e3f))<|Ae<|sV2 (Al EH rfl q5c rfl) (Ag (o':=2) Ef rfl rfl) ?_
       have ne9k:=(Bx.neT (((q2a.ext E0a).ext E1a).updS U8a nm0) q5d (by decide))
       have ne1t:=(Bx.neT ((((q2a.ext E0a).ext E1a).updS U8a nm0).upd U4a ne9k) (q9b.upd U4a ne9a) (by decide))
       have q2t:=((((q2a.ext E0a).ext E1a).updS U8a nm0).upd U4a ne9k).updS U6d (nmc ne1t nm0)
       refine sV3 (Af EN rfl (Bx.cell q2t rfl)) (Aa rfl) (Ba (c:=wi64 (x1.e - m6a)) rfl rfl rfl) ?_
       obtain ⟨r4f,h3t,f4t⟩:=Ab f9s
       refine sc (Ad Pg (by rfl)) (JL x1.m (wi64 (x1.e - m6a)) A4 c5 w7 (tbx X8c hT) (n6.ext X8c) r4f h3t) ?_
       rintro _ w8 E5f ⟨A0l,c1l,rfl,n5t⟩
       refine nrm ?_
       refine ss Hr (q5c.ext E5f) fun w9 U2l q6t=>?_
       refine AG ?_
       have n7t:=n5t.upd U2l (q5c.ext E5f) (by decide)
       obtain rfl:=sj f4t
       exact ⟨_,rfl,(.agg #[.bool x1.m.Neg,.slice A4 (sz x1.m.Abs) c5]),(.pointer (some ⟨b7f,2,none⟩)),(.int .i64 x1.e),(.int .i64 m6a),(.int .i64 (wi64 (x1.e - m6a))),(.agg #[.bool r4f.Neg,.slice A0l (sz r4f.Abs) c1l]),A0l,c1l,(((UpdS.refl _ _).ext E5f).upd U2l (.inl im0)),q6t,n7t,(by simp only [S0,S1]<;>rfl)⟩
      ·refine wp_cond_false (Ai (evb rfl e3f))<|wp_skip ?_
       obtain rfl:=sj f0t
       exact ⟨_,rfl,uu,uu,uu,uu,uu,uu,A4,c5,(UpdS.refl _ _),q5c,(n6.ext X8c),(by simp only [S0,S1]<;>rfl)⟩
     ·rintro l' w8 ⟨t3k,t4k,t5k,t6k,t7k,t8k,A9c,c0d,U7d,q8t,n9t,hq'⟩ l'' hl
      rw [hq'] at hl
      clear hq'
      simp only [S0,S1] at hl
      subst hl
      have X3l:=KR X8c U7d (X8c).size (alc g1j al0)
      refine h5s _ _<|wp_seq_k fun _ h0u=>Ae<|sV3 (Aa rfl) (Al EH rfl (q3s.updS U7d (nmc ne9a nm0)) rfl) (Al EH rfl q8t rfl) ?_
      refine sV (Aa rfl) ?_
      have n1u:RU w8 A3c c4c m1b.2:=n4s.updS U7d (alc ⟨_,_,by decide,q5c⟩ al0)
      obtain ⟨r2u,h3u,f4u⟩:=Ab f8s
      refine sc (Gx (first:=[]) (cap:=[]) (args:=[.agg #[.bool m1b.1,.slice A3c (sz m1b.2) c4c],.agg #[.bool m0c.1,.slice A9c (sz m0c.2) c0d],.int .i64 m6a]) en_195 (by rfl) (by rfl)) (c_dyad_num_plus_1 (⟨m1b.1,m1b.2⟩:Ah) (⟨m0c.1,m0c.2⟩:Ah) m6a A3c c4c A9c c0d w8 (tbx X3l hT) n1u n9t r2u h3u) ?_
      rintro _ w9 E4l ⟨A5u,c6u,rfl,n7u⟩
      refine nrm ?_
      have X8u:=xtr X3l E4l
      have ne6f:=(Bx.neT ((q8d.ext E1a).updS U8a nm0) q5d (by decide))
      have ne9u:=(Bx.neT (((q8d.ext E1a).updS U8a nm0).upd U4a ne6f) (q9b.upd U4a ne9a) (by decide))
      have q5l:=(((((q8d.ext E1a).updS U8a nm0).upd U4a ne6f).updS U6d (nmc ne9u nm0)).updS U7d (nmc ne6f nm0)).ext E4l
      refine ss CL q5l fun w7l U6l q0v=>?_
      have X1v:=belU X8u U6l g0m
      refine wh h0u<|wp_ret ?_
      obtain rfl:=sj f4u
      exact fin rfl (Res.cellN rfl AN q0v rfl rfl Res.nil) (Aj X1v ⟨A5u,c6u,rfl,(n7u.upd U6l q5l (by decide))⟩)
theorem c_dyad_num_plus (x0:Am) (x1:Am) (A1:Option Addr) (c2:Nat) (A4:Option Addr) (c5:Nat) (w:World) (hT:TB w) (n3:RU w A1 c2 x0.m.Abs) (n6:RU w A4 c5 x1.m.Abs) (r:Am) (hr:Hk x0 x1=some r) :
  Calls Tryz.prog 124 #[.agg #[.bool x0.m.Neg,.slice A1 (sz x0.m.Abs) c2,.int .i64 x0.e],.agg #[.bool x1.m.Neg,.slice A4 (sz x1.m.Abs) c5,.int .i64 x1.e]] w (Ret IS w r):=by
 unfold Hk at hr
 go_enter Tryz.func124,Tryz.ntmps124
 refine wp_seq_k fun _ h7=>Ae<|Bu rfl rfl fun b8 w1 E9 g3c q7a=>?_
 refine nrm ?_
 refine Bu rfl rfl fun b4c w2 E3a g8a q9a=>?_
 refine nrm ?_
 have g5c:=nlt E9.size g8a
 have X4a:=xtr E9 E3a
 refine AA Bn fun b6c w3 E1a g0b q5a=>?_
 refine nrm ?_
 have g1b:=nlt X4a.size g0b
 have X0a:=xtr X4a E1a
 refine wh h7<|wp_seq_k fun _ h2b=>Ae<|sV2 (Al AN rfl ((q7a.ext E3a).ext E1a) rfl) (Al AN rfl (q9a.ext E1a) rfl) ?_
 obtain ⟨r3b,h4b,f5b⟩:=Ab hr
 refine sc (Ad en_194 (by rfl)) (c_dyad_aligned__dyad_num_plus_1 x0 x1 A1 c2 A4 c5 w3 (tbx X0a hT) (n3.ext X0a) (n6.ext X0a) r3b h4b) ?_
 rintro _ w4 E2a ⟨A6b,c7b,rfl,n8b⟩
 refine nrm ?_
 have X9b:=xtr X0a E2a
 refine ss CL (q5a.ext E2a) fun w5 U6a q0c=>?_
 have X1c:=belU X9b U6a g1b
 refine wh h2b<|wp_ret ?_
 have n2c:=n8b.upd U6a (q5a.ext E2a) (by decide)
 obtain rfl:=sj f5b
 exact fin rfl (Res.cellN rfl AN q0c rfl rfl Res.nil) (Aj X1c ⟨A6b,c7b,rfl,n2c⟩)
theorem Ds (x0:Am) (x1:Am) (A1:Option Addr) (c2:Nat) (A4:Option Addr) (c5:Nat) (w:World) (hT:TB w) (n3:RU w A1 c2 x0.m.Abs) (n6:RU w A4 c5 x1.m.Abs) (r:Int) (hr:Bp x0 x1=some r) :
  Calls Tryz.prog 106 #[.agg #[.bool x0.m.Neg,.slice A1 (sz x0.m.Abs) c2,.int .i64 x0.e],.agg #[.bool x1.m.Neg,.slice A4 (sz x1.m.Abs) c5,.int .i64 x1.e]] w (Ret Fy w r):=by
 unfold Bp at hr
 go_enter Tryz.func106,Tryz.ntmps106
 refine wp_seq_k fun _ h7=>Ae<|Bu rfl rfl fun b8 w1 E9 g1b q4a=>?_
 refine nrm ?_
 refine Bu rfl rfl fun b3e w2 E6a g4e q2b=>?_
 refine nrm ?_
 have g3k:=nlt E9.size g4e
 have X5e:=xtr E9 E6a
 refine sV (Ac rfl) ?_
 refine wh h7<|wp_seq_k fun _ h6e=>wp_seq_k fun _ h7e=>Dn [] 6 mo rfl fun w3 E0a S3b=>have X4b:=xtr X5e E0a;dV 0 rfl (fun _ hw=>Al AN rfl (((q4a.ext E6a).ext E0a).ext hw) rfl) S3b ?_
 refine dV 2 rfl (fun _ hw=>Al AN rfl ((q2b.ext E0a).ext hw) rfl) S3b ?_
 obtain ⟨r7a,h8e,f9e⟩:=Ab hr
 refine dc 1 rfl (by kernel_rfl) (by rfl) (Ad Kz (by rfl)) (DZ x0 A1 c2 w3 (tbx X4b hT) (n3.ext X4b) r7a h8e) ?_
 rintro _ w4 E1a rfl
 refine dnrm ?_
 have X5b:=xtr X4b E1a
 have S0f:=S3b.trans E1a
 obtain ⟨r7c,h1f,f2f⟩:=Ab f9e
 refine dc 3 rfl (by kernel_rfl) (by rfl) (Ad Kz (by rfl)) (DZ x1 A4 c5 w4 (tbx X5b hT) (n6.ext X5b) r7c h1f) ?_
 rintro _ w5 E2a rfl
 refine dnrm ?_
 have X6b:=xtr X5b E2a
 have S4k:=S0f.trans E2a
 refine dA 4 rfl (fun _=>Ac rfl) ?_
 refine dA 5 rfl (fun _=>Ac rfl) ?_
 refine Cn (by kernel_rfl) ?_
 refine h7e _ _<|wp_seq_k fun _ h3f=>Ae<|sV2 (Aa rfl) (Aa rfl) ?_
 refine sb (HT rfl rfl) fun z8c hz8c=>?_
 refine nrm ?_
 refine sV (Aa rfl) ?_
 obtain ⟨m4f,h5f,f6f⟩:=Ab f2f
 refine Bm 7 (fun l l' w'=>∃(t9c:Value) (t0d:Value),w5=w'∧l'=(((l.set 17 t9c).set 18 t0d).set 19 (.bool m4f))) ?_ ?_
 ·intro HJ49
  rcases zi hz8c h5f with ⟨e3a,_,f7f⟩ | ⟨e3a,_,f8f⟩
  ·refine sP ?_ (hw:=wgF rfl e3a)
   refine sP ?_ (hw:=wgF rfl e3a)
   refine sV (Ar (evb rfl e3a) rfl) ?_
   obtain rfl:=sj f7f
   exact HJ49 _ _ ⟨uu,uu,rfl,(by simp only [S0,S1]<;>rfl)⟩
  ·refine sV (Aa rfl) ?_ (hw:=wgT rfl e3a)
   refine sb (Bl rfl rfl) ?_ (hw:=wgT rfl e3a)
   intro z7b hz7b
   refine nrm ?_
   refine sV (Aw (evb rfl e3a) rfl) ?_
   obtain rfl:z7b=decide (r7a=0):=bz hz7b
   obtain rfl:=sj f8f
   exact HJ49 _ _ ⟨(.int .i64 r7a),(.bool (decide (r7a=0))),rfl,(by simp only [S0,S1]<;>rfl)⟩
 ·rintro l' _ ⟨t9c,t0d,rfl,hq'⟩ l'' hl
  rw [hq'] at hl
  clear hq'
  simp only [S0,S1] at hl
  subst hl
  refine wh h3f ?_
  rcases zb f6f with ⟨e8b,f9f⟩ | ⟨e8b,f0g⟩
  ·refine wp_cond_true (Ai (evb rfl e8b))<|wp_seq_k fun _ h1g=>Ae<|sV2 (Aa rfl) (Aa rfl) ?_
   obtain ⟨r2g,h3g,f4g⟩:=Ab f9f
   refine sc (Ad Qs (by rfl)) (Le r7a r7c w5 (tbx X6b hT)  r2g h3g) ?_
   rintro _ w6 E5g rfl
   refine nrm ?_
   have X6g:=xtr X6b E5g
   refine sV (Ac rfl) ?_
   refine wh h1g<|wp_ret ?_
   obtain rfl:=sj f4g
   exact fin rfl (Res.tmp rfl Res.nil) (Aj X6g rfl)
  ·refine wp_cond_false (Ai (evb rfl e8b))<|wp_skip<|h6e _ _<|wp_seq_k fun _ h7g=>wp_seq_k fun _ h8g=>Dn [] 6 mo rfl fun w6 E5a S9b=>have X0c:=xtr X6b E5a;dV 0 rfl (fun _ hw=>Al AN rfl ((((((q4a.ext E6a).ext E0a).ext E1a).ext E2a).ext E5a).ext hw) rfl) S9b ?_
   refine dV 2 rfl (fun _ hw=>Al AN rfl (((((q2b.ext E0a).ext E1a).ext E2a).ext E5a).ext hw) rfl) S9b ?_
   obtain ⟨r1d,h9g,f0h⟩:=Ab f0g
   refine dc 1 rfl (by kernel_rfl) (by rfl) (Ad Pi (by rfl)) (JB x0 A1 c2 w6 (tbx X0c hT) (n3.ext X0c) r1d h9g) ?_
   rintro _ w7 E8a rfl
   refine dnrm ?_
   have X1c:=xtr X0c E8a
   have S1h:=S9b.trans E8a
   obtain ⟨r2d,h2h,f3h⟩:=Ab f0h
   refine dc 3 rfl (by kernel_rfl) (by rfl) (Ad Pi (by rfl)) (JB x1 A4 c5 w7 (tbx X1c hT) (n6.ext X1c) r2d h2h) ?_
   rintro _ w8 E9a rfl
   refine dnrm ?_
   have X0b:=xtr X1c E9a
   have S5k:=S1h.trans E9a
   refine dA 4 rfl (fun _=>Ac rfl) ?_
   refine dA 5 rfl (fun _=>Ac rfl) ?_
   refine Cn (by kernel_rfl) ?_
   refine h8g _ _<|wp_seq_k fun _ h4h=>Ae<|sV2 (Aa rfl) (Aa rfl) ?_
   refine sb (HT rfl rfl) fun z3d hz3d=>?_
   refine nrm ?_
   refine wh h4h ?_
   rcases zi hz3d f3h with ⟨e2c,_,f5h⟩ | ⟨e2c,_,f6h⟩
   ·refine wp_cond_true (Ai (evb rfl e2c))<|wp_seq_k fun _ h7h=>Ae<|have q8h:=((((((q4a.ext E6a).ext E0a).ext E1a).ext E2a).ext E5a).ext E8a).ext E9a;sV (Al AN rfl q8h rfl) ?_
    obtain ⟨r4d,h9h,f0i⟩:=Ab f5h
    refine sc (Ad Kz (by rfl)) (DZ x0 A1 c2 w8 (tbx X0b hT) (n3.ext X0b) r4d h9h) ?_
    rintro _ w9 E1i rfl
    refine nrm ?_
    have X5d:=xtr X0b E1i
    refine sV2 (Aa rfl) (Aa rfl) ?_
    obtain ⟨r6d,h2i,f3i⟩:=Ab f0i
    refine sc (Ad Qs (by rfl)) (Le r1d r2d w9 (tbx X5d hT)  r6d h2i) ?_
    rintro _ w1b E4i rfl
    refine nrm ?_
    have X5i:=xtr X5d E4i
    refine sV2 (Jq (c:=wi64 (r4d*r6d)) rfl rfl rfl) (Ac rfl) ?_
    refine wh h7h<|wp_ret ?_
    obtain rfl:=sj f3i
    exact fin rfl (Res.tmp rfl Res.nil) (Aj X5i rfl)
   ·refine wp_cond_false (Ai (evb rfl e2c))<|wp_skip<|h7g _ _<|wp_seq_k fun _ h6i=>Dn [] 6 mo rfl fun w9 E3c S4c=>have X5c:=xtr X0b E3c;dV 0 rfl (fun _ hw=>Al AN rfl (((((((((q4a.ext E6a).ext E0a).ext E1a).ext E2a).ext E5a).ext E8a).ext E9a).ext E3c).ext hw) rfl) S4c ?_
    refine dV 1 rfl (fun _ hw=>Al AN rfl ((((((((q2b.ext E0a).ext E1a).ext E2a).ext E5a).ext E8a).ext E9a).ext E3c).ext hw) rfl) S4c ?_
    obtain ⟨r7d,h7i,f8i⟩:=Ab f6h
    refine dc 2 rfl (by kernel_rfl) (by rfl) (Ad en_115 (by rfl)) (c_dyad_num_minus x1 A4 c5 w9 (tbx X5c hT) (n6.ext X5c) r7d h7i) ?_
    rintro _ w1b E8d ⟨A9i,c0j,rfl,n1j⟩
    refine dnrm ?_
    have X6c:=xtr X5c E8d
    have S2j:=S4c.trans E8d
    obtain ⟨r9d,h3j,f4j⟩:=Ab f8i
    refine dc 3 rfl (by kernel_rfl) (by rfl) (Ad en_124 (by rfl)) (c_dyad_num_plus x0 r7d A1 c2 A9i c0j w1b (tbx X6c hT) (n3.ext X6c) n1j r9d h3j) ?_
    rintro _ w4a E0e ⟨A5j,c6j,rfl,n7j⟩
    refine dnrm ?_
    have X1e:=xtr X6c E0e
    have S8j:=S2j.trans E0e
    obtain ⟨r9j,h0k,f1k⟩:=Ab f4j
    refine dc 4 rfl (by kernel_rfl) (by rfl) (Ad Kz (by rfl)) (DZ r9d A5j c6j w4a (tbx X1e hT) n7j r9j h0k) ?_
    rintro _ w3e E2e rfl
    refine dnrm ?_
    have X2k:=xtr X1e E2e
    have S6k:=S8j.trans E2e
    refine dA 5 rfl (fun _=>Ac rfl) ?_
    refine Cn (by kernel_rfl) ?_
    refine h6i _ _<|wp_ret ?_
    obtain rfl:=sj f1k
    exact fin rfl (Res.tmp rfl Res.nil) (Aj X2k rfl)
theorem LF (x0:AO) (A1:Option Addr) (c2:Nat) (A4:Option Addr) (c5:Nat) (w:World) (hT:TB w) (n3:RLu w A1 c2 x0.Lo.Man.Abs) (n6:RLu w A4 c5 x0.Hi.Man.Abs) (r:Bool) (hr:IU x0=some r) :
  Calls Tryz.prog 65 #[.agg #[.bool x0.Lo.Man.Neg,.slice A1 x0.Lo.Man.Abs.length c2,.int .i64 x0.Lo.Exp,.bool x0.Hi.Man.Neg,.slice A4 x0.Hi.Man.Abs.length c5,.int .i64 x0.Hi.Exp]] w (Ret Gq w r):=by
 unfold IU at hr
 go_enter Tryz.func65,Tryz.ntmps65
 refine wp_seq_k fun _ h7=>Ae<|Bu rfl rfl fun b8 w1 E9 g7f q3a=>?_
 refine nrm ?_
 refine sV (Ac rfl) ?_
 refine wh h7<|wp_seq_k fun _ h6a=>Dn [] 19 mo rfl fun w2 E2a S2b=>have X7a:=xtr E9 E2a;dA 0 rfl (fun _=>Ag (o':=0) Mc rfl rfl) ?_
 refine dV 1 rfl (fun _ hw=>AL Bt rfl ((q3a.ext E2a).ext hw) (by simp only [List.drop_zero,List.take_succ_cons,List.take_zero];rfl) rfl) S2b ?_
 obtain ⟨r6c,h7c,f8c⟩:=Ab hr
 refine dc 2 rfl (by kernel_rfl) (by rfl) (Ad Ou (by rfl)) (IF x0.Lo A1 c2 w2 (tbx X7a hT) (n3.ext X7a) r6c h7c) ?_
 rintro _ w3 E3b rfl
 refine dnrm ?_
 have X4a:=xtr X7a E3b
 have S4b:=S2b.trans E3b
 refine dA 3 rfl (fun _=>Aa rfl) ?_
 rcases zb f8c with ⟨e1a,f9c⟩ | ⟨e1a,f0d⟩
 ·refine dA 4 rfl (fun _=>Ag (o':=3) Mb rfl rfl) ?_ (hw:=wgT rfl e1a)
  refine dV 5 rfl (fun _ hw=>AL Bt rfl ((q3a.ext E2a).ext hw) (by simp only [List.drop_succ_cons,List.drop_zero,List.take_succ_cons,List.take_zero];rfl) rfl) S4b ?_ (hw:=wgT rfl e1a)
  obtain ⟨r1d,h2d,f3d⟩:=Ab f9c
  refine dc 6 rfl (by kernel_rfl) (wgT rfl e1a) (Ad Ou (by rfl)) (IF x0.Hi A4 c5 w3 (tbx X4a hT) (n6.ext X4a) r1d h2d) ?_
  rintro _ w4 E5b rfl
  refine dnrm ?_
  have X5a:=xtr X4a E5b
  have S8a:=S4b.trans E5b
  refine dA 7 rfl (fun _=>Ar (evb rfl e1a) rfl) ?_
  refine dA 8 rfl (fun _=>Aa rfl) ?_
  rcases zb f3d with ⟨e0a,f4d⟩ | ⟨e0a,f5d⟩
  ·refine dA 9 rfl (fun _=>Ag (o':=0) Mc rfl rfl) ?_ (hw:=wgT rfl e0a)
   refine dV 10 rfl (fun _ hw=>AL Bt rfl ((q3a.ext E2a).ext hw) (by simp only [List.drop_zero,List.take_succ_cons,List.take_zero];rfl) rfl) S8a ?_ (hw:=wgT rfl e0a)
   refine dA 12 rfl (fun _=>Ag (o':=3) Mb rfl rfl) ?_ (hw:=wgT rfl e0a)
   refine dV 13 rfl (fun _ hw=>AL Bt rfl ((q3a.ext E2a).ext hw) (by simp only [List.drop_succ_cons,List.drop_zero,List.take_succ_cons,List.take_zero];rfl) rfl) S8a ?_ (hw:=wgT rfl e0a)
   obtain ⟨m6b,h6d,f7d⟩:=Ab f4d
   have hx7b:=BO h6d
   have n8d:RU w4 A1 c2 m6b:=by unfold RU;rw [hx7b];exact (n3.ext X5a)
   obtain ⟨r8b,h9d,f0e⟩:=Ab f7d
   refine dc 11 rfl (by kernel_rfl) (wgT rfl e0a) (Ad Kw (by simp only [sz,hx7b];rfl)) (HM (⟨(⟨x0.Lo.Man.Neg,m6b⟩:Ah),x0.Lo.Exp⟩:Ak) A1 c2 w4 (tbx X5a hT) n8d r8b h9d) ?_
   rintro _ w5 E9b ⟨A1e,c2e,rfl,n3e⟩
   refine dnrm ?_
   have X9a:=xtr X5a E9b
   have S4e:=S8a.trans E9b
   obtain ⟨m0c,h5e,f6e⟩:=Ab f0e
   have hx1c:=BO h5e
   have n7e:RU w5 A4 c5 m0c:=by unfold RU;rw [hx1c];exact (n6.ext X9a)
   obtain ⟨r2c,h8e,f9e⟩:=Ab f6e
   refine dc 14 rfl (by kernel_rfl) (wgT rfl e0a) (Ad Kw (by simp only [sz,hx1c];rfl)) (HM (⟨(⟨x0.Hi.Man.Neg,m0c⟩:Ah),x0.Hi.Exp⟩:Ak) A4 c5 w5 (tbx X9a hT) n7e r2c h8e) ?_
   rintro _ w6 E0b ⟨A0f,c1f,rfl,n2f⟩
   refine dnrm ?_
   have X3c:=xtr X9a E0b
   have S3f:=S4e.trans E0b
   obtain ⟨r4c,h4f,f5f⟩:=Ab f9e
   refine dc 15 rfl (by kernel_rfl) (wgT rfl e0a) (Ad JE (by rfl)) (Ds r8b r2c A1e c2e A0f c1f w6 (tbx X3c hT) (n3e.ext E0b) n2f r4c h4f) ?_
   rintro _ w7 E5c rfl
   refine dnrm ?_
   have X6f:=xtr X3c E5c
   have S8f:=S3f.trans E5c
   refine dab 16 rfl (by kernel_rfl) (fun _ _ _ h=>h) (wgT rfl e0a) (fun _=>Ie rfl rfl) fun z1b hz1b=>?_
   refine dnrm ?_
   refine dA 17 rfl (fun _=>Ar (evb rfl e0a) rfl) ?_
   refine dA 18 rfl (fun _=>Ac rfl) ?_
   refine Cn (by kernel_rfl) ?_
   refine h6a _ _<|wp_ret ?_
   obtain rfl:z1b=decide (r4c≤0):=bz hz1b
   obtain rfl:=sj f5f
   exact fin rfl (Res.tmp rfl Res.nil) (Aj X6f rfl)
  ·refine dP 9 rfl ?_ (hw:=wgF rfl e0a)
   refine dP 10 rfl ?_ (hw:=wgF rfl e0a)
   refine dP 11 rfl ?_ (hw:=wgF rfl e0a)
   refine dP 12 rfl ?_ (hw:=wgF rfl e0a)
   refine dP 13 rfl ?_ (hw:=wgF rfl e0a)
   refine dP 14 rfl ?_ (hw:=wgF rfl e0a)
   refine dP 15 rfl ?_ (hw:=wgF rfl e0a)
   refine dP 16 rfl ?_ (hw:=wgF rfl e0a)
   refine dA 17 rfl (fun _=>Aw (evb rfl e0a) rfl) ?_
   refine dA 18 rfl (fun _=>Ac rfl) ?_
   refine Cn (by kernel_rfl) ?_
   refine h6a _ _<|wp_ret ?_
   obtain rfl:=sj f5d
   exact fin rfl (Res.tmp rfl Res.nil) (Aj X5a rfl)
 ·refine dP 4 rfl ?_ (hw:=wgF rfl e1a)
  refine dP 5 rfl ?_ (hw:=wgF rfl e1a)
  refine dP 6 rfl ?_ (hw:=wgF rfl e1a)
  refine dA 7 rfl (fun _=>Aw (evb rfl e1a) rfl) ?_
  refine dA 8 rfl (fun _=>Aa rfl) ?_
  refine dP 9 rfl ?_ (hw:=wgF rfl rfl)
  refine dP 10 rfl ?_ (hw:=wgF rfl rfl)
  refine dP 11 rfl ?_ (hw:=wgF rfl rfl)
  refine dP 12 rfl ?_ (hw:=wgF rfl rfl)
  refine dP 13 rfl ?_ (hw:=wgF rfl rfl)
  refine dP 14 rfl ?_ (hw:=wgF rfl rfl)
  refine dP 15 rfl ?_ (hw:=wgF rfl rfl)
  refine dP 16 rfl ?_ (hw:=wgF rfl rfl)
  refine dA 17 rfl (fun _=>Aw (evb rfl rfl) rfl) ?_
  refine dA 18 rfl (fun _=>Ac rfl) ?_
  refine Cn (by kernel_rfl) ?_
  refine h6a _ _<|wp_ret ?_
  obtain rfl:=sj f0d
  exact fin rfl (Res.tmp rfl Res.nil) (Aj X4a rfl)
theorem FM (x0_0:AO) (x0_1:AO) (bp0:Nat) (A1:Option Addr) (c2:Nat) (A4:Option Addr) (c5:Nat) (A7:Option Addr) (c8:Nat) (A5a:Option Addr) (c6a:Nat) (w:World) (hT:TB w) (n3:RLu w A1 c2 x0_0.Lo.Man.Abs) (n6:RLu w A4 c5 x0_0.Hi.Man.Abs) (n9:RLu w A7 c8 x0_1.Lo.Man.Abs) (n8b:RLu w A5a c6a x0_1.Hi.Man.Abs) (q4b:Bx w bp0 29 [.bool x0_0.Lo.Man.Neg,.slice A1 x0_0.Lo.Man.Abs.length c2,.int .i64 x0_0.Lo.Exp,.bool x0_0.Hi.Man.Neg,.slice A4 x0_0.Hi.Man.Abs.length c5,.int .i64 x0_0.Hi.Exp,.bool x0_1.Lo.Man.Neg,.slice A7 x0_1.Lo.Man.Abs.length c8,.int .i64 x0_1.Lo.Exp,.bool x0_1.Hi.Man.Neg,.slice A5a x0_1.Hi.Man.Abs.length c6a,.int .i64 x0_1.Hi.Exp]) (r:Except Int (Unit)) (hr:GP x0_0 x0_1=some r) :
  Calls Tryz.prog 162 #[.slice (some ⟨bp0,0,none⟩) 2 2] w (RetE 201 Ld w r):=by
 unfold GP at hr
 go_enter Tryz.func162,Tryz.ntmps162
 refine wp_seq_k fun _ h9b=>Ae<|sV3 (Aa rfl) (Ax Mx rfl) (Aa rfl) ?_
 refine wh h9b ?_
 apply wp_block
 refine Ia<|AV<|wp_seq_k fun _ h0c=>Ae<|sV (JH (v:=.bool true) (Cj rfl rfl) (by rfl)) ?_
 refine wh h0c<|wp_seq_k fun _ h1c=>wp_cond_true (Ai (evb rfl rfl))<|wp_skip<|h1c _ _<|wp_seq_k fun _ h2c=>?_
 apply wp_block
 refine wp_seq_k fun _ h3c=>Ae<|sV (Iu (o':=0) Mx HJ rfl rfl (by decide) (by decide) (by decide)) ?_
 refine sV (AL DE rfl q4b (by simp only [List.drop_zero,List.take_succ_cons,List.take_zero];rfl) rfl) ?_
 refine AA Ii fun b0f w1 E4c g5c q6c=>?_
 refine nrm ?_
 refine ss HJ q6c fun w2 U7c q8c=>?_
 have F0a:=belU E4c U7c g5c
 refine wh h3c<|Ae<|sV (Al DE rfl q8c rfl) ?_
 obtain ⟨r7a,h9c,f0d⟩:=Ab hr
 refine sc (Ad Ro (by rfl)) (LF x0_0 A1 c2 A4 c5 w2 (tbx F0a hT) (n3.ext F0a) (n6.ext F0a) r7a h9c) ?_
 rintro _ w3 E5b rfl
 refine nrm ?_
 have X1a:=xtr F0a E5b
 rcases AR f0d with ⟨r8a,h9a,f1d⟩ | ⟨r8a,h9a,rfl⟩
 ·refine scO (Ad EI (by rfl)) (Bh r7a 1 w3 (tbx X1a hT)  (.ok r8a) h9a) ?_
  rintro _ w4 E2a rfl
  refine nrm ?_
  have X6b:=xtr X1a E2a
  refine wh h2c<|Ae<|sV (AM (c:=1) rfl rfl (by decide)) ?_
  refine sV (Aa rfl) ?_
  refine AG<|AV<|wp_seq_k fun _ h2d=>Ae<|sV (JH (v:=.bool true) (Cj rfl rfl) (by rfl)) ?_
  refine wh h2d<|wp_seq_k fun _ h3d=>wp_cond_true (Ai (evb rfl rfl))<|wp_skip<|h3d _ _<|wp_seq_k fun _ h4d=>?_
  apply wp_block
  refine wp_seq_k fun _ h5d=>Ae<|sV (Iu (o':=6) Mx HJ rfl rfl (by decide) (by decide) (by decide)) ?_
  have q6d:=((q4b.ext F0a).ext E5b).ext E2a
  refine sV (AL DE rfl q6d (by simp only [List.drop_succ_cons,List.drop_zero,List.take_succ_cons,List.take_zero];rfl) rfl) ?_
  refine AA Ii fun b1f w5 E7d g7b q8d=>?_
  refine nrm ?_
  have g2f:=nlt X6b.size g7b
  refine ss HJ q8d fun w6 U9d q0e=>?_
  have F1e:=belU E7d U9d g7b
  have X3a:=xtr X6b F1e
  refine wh h5d<|Ae<|sV (Al DE rfl q0e rfl) ?_
  obtain ⟨r0b,h2e,f3e⟩:=Ab f1d
  refine sc (Ad Ro (by rfl)) (LF x0_1 A7 c8 A5a c6a w6 (tbx X3a hT) (n9.ext X3a) (n8b.ext X3a) r0b h2e) ?_
  rintro _ w7 E4e rfl
  refine nrm ?_
  have X4a:=xtr X3a E4e
  rcases AR f3e with ⟨r1b,h2b,f5e⟩ | ⟨r1b,h2b,rfl⟩
  ·refine scO (Ad EI (by rfl)) (Bh r0b 1 w7 (tbx X4a hT)  (.ok r1b) h2b) ?_
   rintro _ w8 E3b rfl
   refine nrm ?_
   have X6e:=xtr X4a E3b
   refine wh h4d<|Ae<|sV (AM (c:=2) rfl rfl (by decide)) ?_
   refine sV (Aa rfl) ?_
   refine AG<|AV<|wp_seq_k fun _ h7e=>Ae<|sV (JH (v:=.bool false) (Cj rfl rfl) (by rfl)) ?_
   refine wh h7e<|wp_seq_k fun _ h3f=>wp_cond_false (Ai (evb rfl rfl))<|wp_exit ?_
   simp only [Exit.then,Exit.inBlock,↓reduceIte,Nat.reduceEqDiff]
   obtain rfl:=sj f5e
   exact Nb rfl Res.nil (EK X6e rfl)
  ·refine scP (Ad EI (by rfl)) (Bh r0b 1 w7 (tbx X4a hT)  (.error r1b) h2b) fun w8 E3b=>?_
   have X8e:=xtr X4a E3b
   exact ⟨rfl,Cw X8e⟩
 ·refine scP (Ad EI (by rfl)) (Bh r7a 1 w3 (tbx X1a hT)  (.error r8a) h9a) fun w4 E2a=>?_
  have X9e:=xtr X1a E2a
  exact ⟨rfl,Cw X9e⟩
theorem Hp (x0:AI) (A1:Option Addr) (c2:Nat) (A4:Option Addr) (c5:Nat) (w:World) (hT:TB w) (n3:RU w A1 c2 x0.Lo.Man.Abs) (n6:RU w A4 c5 x0.Hi.Man.Abs) (r:AB) (hr:FH x0=some r) :
  Calls Tryz.prog 163 #[.agg #[.bool x0.Lo.Man.Neg,.slice A1 (sz x0.Lo.Man.Abs) c2,.int .i64 x0.Lo.Exp,.bool x0.Hi.Man.Neg,.slice A4 (sz x0.Hi.Man.Abs) c5,.int .i64 x0.Hi.Exp]] w (Ret PF w r):=by
 unfold FH at hr
 go_enter Tryz.func163,Tryz.ntmps163
 refine wp_seq_k fun _ h7=>Ae<|Bu rfl rfl fun b8 w1 E9 g2d q5b=>?_
 refine nrm ?_
 refine AA Qm fun b3d w2 E4a g6b q7b=>?_
 refine nrm ?_
 have g8b:=nlt E9.size g6b
 have X9b:=xtr E9 E4a
 refine wh h7<|wp_seq_k fun _ h0c=>Dn [7] 8 mo rfl fun w3 E2a S5a=>have X6a:=xtr X9b E2a;dA 0 rfl (fun _=>Ag (o':=0) Mc rfl rfl) ?_
 refine dV 1 rfl (fun _ hw=>AL Bt rfl (((q5b.ext E4a).ext E2a).ext hw) (by simp only [List.drop_zero,List.take_succ_cons,List.take_zero];rfl) rfl) S5a ?_
 refine dA 3 rfl (fun _=>Ag (o':=3) Mb rfl rfl) ?_
 refine dV 4 rfl (fun _ hw=>AL Bt rfl (((q5b.ext E4a).ext E2a).ext hw) (by simp only [List.drop_succ_cons,List.drop_zero,List.take_succ_cons,List.take_zero];rfl) rfl) S5a ?_
 obtain ⟨r0a,h1c,f2c⟩:=Ab hr
 refine dc 2 rfl (by kernel_rfl) (by rfl) (Ad Kw (by rfl)) (HM x0.Lo A1 c2 w3 (tbx X6a hT) (n3.ext X6a) r0a h1c) ?_
 rintro _ w4 E7a ⟨A8a,c9a,rfl,n3c⟩
 refine dnrm ?_
 have X0b:=xtr X6a E7a
 have S4c:=S5a.trans E7a
 obtain ⟨r1a,h5c,f6c⟩:=Ab f2c
 refine dc 5 rfl (by kernel_rfl) (by rfl) (Ad Kw (by rfl)) (HM x0.Hi A4 c5 w4 (tbx X0b hT) (n6.ext X0b) r1a h5c) ?_
 rintro _ w5 E3a ⟨A1b,c2b,rfl,n7c⟩
 refine dnrm ?_
 have X8c:=xtr X0b E3a
 have S4d:=S4c.trans E3a
 refine dA 6 rfl (fun _=>Bb (vals:=[(0,.agg #[.bool r0a.m.Neg,.slice A8a (sz r0a.m.Abs) c9a,.int .i64 r0a.e]),(1,.agg #[.bool r1a.m.Neg,.slice A1b (sz r1a.m.Abs) c2b,.int .i64 r1a.e])]) (cells:=[.bool r0a.m.Neg,.slice A8a (sz r0a.m.Abs) c9a,.int .i64 r0a.e,.bool r1a.m.Neg,.slice A1b (sz r1a.m.Abs) c2b,.int .i64 r1a.e]) (by rfl) (by kernel_rfl)) ?_
 have q3b:=((q7b.ext E2a).ext E7a).ext E3a
 refine dkk 7 Qw q3b fun w6 U4b q9c=>?_
 have X0d:=belU X8c U4b g8b
 refine Cn (by kernel_rfl) ?_
 refine h0c _ _<|wp_ret ?_
 have n1d:=(n3c.ext E3a).upd U4b q3b (by decide)
 obtain rfl:=sj f6c
 exact fin rfl (Res.cellN rfl Ln q9c rfl rfl Res.nil) (Aj X0d ⟨A8a,c9a,A1b,c2b,rfl,n1d,(n7c.upd U4b q3b (by decide))⟩)
theorem c_wide_Int_Mul (x0:Ah) (x1:Ah) (A1:Option Addr) (c2:Nat) (A4:Option Addr) (c5:Nat) (w:World) (hT:TB w) (n3:RU w A1 c2 x0.Abs) (n6:RU w A4 c5 x1.Abs) (r:Ah) (hr:IB x0 x1=some r) :
  Calls Tryz.prog 193 #[.agg #[.bool x0.Neg,.slice A1 (sz x0.Abs) c2],.agg #[.bool x1.Neg,.slice A4 (sz x1.Abs) c5]] w (Ret Mn w r):=by
 unfold IB at hr
 go_enter Tryz.func193,Tryz.ntmps193
 refine wp_seq_k fun _ h7=>Ae<|Bu rfl rfl fun b8 w1 E9 g7c q0b=>?_
 refine nrm ?_
 refine Bu rfl rfl fun b8c w2 E6a g5b q1b=>?_
 refine nrm ?_
 have g9c:=nlt E9.size g5b
 have X2b:=xtr E9 E6a
 refine AA Ib fun b0d w3 E1a g6b q3b=>?_
 refine nrm ?_
 have g7b:=nlt X2b.size g6b
 have X8b:=xtr X2b E1a
 refine wh h7<|wp_seq_k fun _ h9b=>Dn [11] 12 mo rfl fun w4 E0a S2a=>have X4a:=xtr X8b E0a;dA 0 rfl (fun _=>Ag (o':=0) Fz rfl rfl) ?_
 refine dV 1 rfl (fun _ hw=>Af GC rfl (Bx.cell ((((q0b.ext E6a).ext E1a).ext E0a).ext hw) rfl)) S2a ?_
 refine dA 2 rfl (fun _=>Ag (o':=0) Fz rfl rfl) ?_
 refine dV 3 rfl (fun _ hw=>Af GC rfl (Bx.cell (((q1b.ext E1a).ext E0a).ext hw) rfl)) S2a ?_
 refine dab 4 rfl (by kernel_rfl) (fun _ _ _ h=>h) (by rfl) (fun _=>NI Ps rfl rfl) fun z3a hz3a=>?_
 refine dnrm ?_
 refine dA 5 rfl (fun _=>Ag (o':=1) BF rfl rfl) ?_
 refine dV 6 rfl (fun _ hw=>Af DI rfl (Bx.cell ((((q0b.ext E6a).ext E1a).ext E0a).ext hw) rfl)) S2a ?_
 refine dA 7 rfl (fun _=>Ag (o':=1) BF rfl rfl) ?_
 refine dV 8 rfl (fun _ hw=>Af DI rfl (Bx.cell (((q1b.ext E1a).ext E0a).ext hw) rfl)) S2a ?_
 obtain ⟨r7a,h0c,f1c⟩:=Ab hr
 refine dc 9 rfl (by kernel_rfl) (by rfl) (Ad QI (by rfl)) (Iv x0.Abs x1.Abs A1 c2 A4 c5 w4 (tbx X4a hT) (n3.ext X4a) (n6.ext X4a) r7a h0c) ?_
 rintro _ w5 E5a ⟨A8a,c9a,rfl,n2c⟩
 refine dnrm ?_
 have X3c:=xtr X4a E5a
 have S1d:=S2a.trans E5a
 refine dA 10 rfl (fun _=>Bb (vals:=[(0,.bool z3a),(1,.slice A8a (sz r7a) c9a)]) (cells:=[.bool z3a,.slice A8a (sz r7a) c9a]) (by rfl) (by kernel_rfl)) ?_
 refine dkk 11 Hr ((q3b.ext E0a).ext E5a) fun w6 U4b q4c=>?_
 have X5c:=belU X3c U4b g7b
 refine Cn (by kernel_rfl) ?_
 refine h9b _ _<|wp_ret ?_
 obtain rfl:z3a=decide (¬x0.Neg=x1.Neg):=bz hz3a
 have n6c:=n2c.upd U4b ((q3b.ext E0a).ext E5a) (by decide)
 obtain rfl:=sj f1c
 exact fin rfl (Res.cellN rfl EH q4c rfl rfl Res.nil) (Aj X5c ⟨A8a,c9a,rfl,n6c⟩)
theorem IP (x0:Am) (x1:Am) (A1:Option Addr) (c2:Nat) (A4:Option Addr) (c5:Nat) (w:World) (hT:TB w) (n3:RU w A1 c2 x0.m.Abs) (n6:RU w A4 c5 x1.m.Abs) (r:Am) (hr:En x0 x1=some r) :
  Calls Tryz.prog 117 #[.agg #[.bool x0.m.Neg,.slice A1 (sz x0.m.Abs) c2,.int .i64 x0.e],.agg #[.bool x1.m.Neg,.slice A4 (sz x1.m.Abs) c5,.int .i64 x1.e]] w (Ret IS w r):=by
 unfold En at hr
 go_enter Tryz.func117,Tryz.ntmps117
 refine wp_seq_k fun _ h7=>Ae<|Bu rfl rfl fun b8 w1 E9 g5d q7a=>?_
 refine nrm ?_
 refine Bu rfl rfl fun b6d w2 E4a g4b q8a=>?_
 refine nrm ?_
 have g7d:=nlt E9.size g4b
 have X9a:=xtr E9 E4a
 refine AA Bn fun b8d w3 E1a g5b q6b=>?_
 refine nrm ?_
 have g7b:=nlt X9a.size g5b
 have X8b:=xtr X9a E1a
 refine wh h7<|wp_seq_k fun _ h9b=>Dn [11] 12 mo rfl fun w4 E0a S2a=>have X3a:=xtr X8b E0a;dA 0 rfl (fun _=>Ag (o':=0) CB rfl rfl) ?_
 refine dV 1 rfl (fun _ hw=>AL EH rfl ((((q7a.ext E4a).ext E1a).ext E0a).ext hw) (by simp only [List.drop_zero,List.take_succ_cons,List.take_zero];rfl) rfl) S2a ?_
 refine dA 2 rfl (fun _=>Ag (o':=0) CB rfl rfl) ?_
 refine dV 3 rfl (fun _ hw=>AL EH rfl (((q8a.ext E1a).ext E0a).ext hw) (by simp only [List.drop_zero,List.take_succ_cons,List.take_zero];rfl) rfl) S2a ?_
 refine dA 5 rfl (fun _=>Ag (o':=2) Ef rfl rfl) ?_
 refine dV 6 rfl (fun _ hw=>Af EN rfl (Bx.cell ((((q7a.ext E4a).ext E1a).ext E0a).ext hw) rfl)) S2a ?_
 refine dA 7 rfl (fun _=>Ag (o':=2) Ef rfl rfl) ?_
 refine dV 8 rfl (fun _ hw=>Af EN rfl (Bx.cell (((q8a.ext E1a).ext E0a).ext hw) rfl)) S2a ?_
 refine dA 9 rfl (fun _=>AM (c:=wi64 (x0.e+x1.e)) rfl rfl rfl) ?_
 obtain ⟨r0b,h0c,f1c⟩:=Ab hr
 refine dc 4 rfl (by kernel_rfl) (by rfl) (Ad en_193 (by rfl)) (c_wide_Int_Mul x0.m x1.m A1 c2 A4 c5 w4 (tbx X3a hT) (n3.ext X3a) (n6.ext X3a) r0b h0c) ?_
 rintro _ w5 E5a ⟨A2c,c3c,rfl,n4c⟩
 refine dnrm ?_
 have X1b:=xtr X3a E5a
 have S5c:=S2a.trans E5a
 obtain ⟨r6c,h7c,f8c⟩:=Ab f1c
 refine dc 10 rfl (by kernel_rfl) (by rfl) (Ad LN (by rfl)) (Gz r0b (wi64 (x0.e+x1.e)) A2c c3c w5 (tbx X1b hT) n4c r6c h7c) ?_
 rintro _ w6 E6a ⟨A9c,c0d,rfl,n1d⟩
 refine dnrm ?_
 have X2d:=xtr X1b E6a
 have S9d:=S5c.trans E6a
 have q2b:=((q6b.ext E0a).ext E5a).ext E6a
 refine dkk 11 CL q2b fun w7 U3b q3d=>?_
 have X4d:=belU X2d U3b g7b
 refine Cn (by kernel_rfl) ?_
 refine h9b _ _<|wp_ret ?_
 obtain rfl:=sj f8c
 exact fin rfl (Res.cellN rfl AN q3d rfl rfl Res.nil) (Aj X4d ⟨A9c,c0d,rfl,(n1d.upd U3b q2b (by decide))⟩)
theorem c_dyad_span_outward (x0:AB) (x1:Int) (A1:Option Addr) (c2:Nat) (A4:Option Addr) (c5:Nat) (w:World) (hT:TB w) (n3:RU w A1 c2 x0.lo.m.Abs) (n6:RU w A4 c5 x0.hi.m.Abs) (r:AB) (hr:HQ x0 x1=some r) :
  Calls Tryz.prog 118 #[.agg #[.bool x0.lo.m.Neg,.slice A1 (sz x0.lo.m.Abs) c2,.int .i64 x0.lo.e,.bool x0.hi.m.Neg,.slice A4 (sz x0.hi.m.Abs) c5,.int .i64 x0.hi.e],.int .i64 x1] w (Ret PF w r):=by
 unfold HQ at hr
 go_enter Tryz.func118,Tryz.ntmps118
 refine wp_seq_k fun _ h7=>Ae<|Bu rfl rfl fun b8 w1 E9 g2d q5b=>?_
 refine nrm ?_
 refine AA Qm fun b3d w2 E4a g6b q7b=>?_
 refine nrm ?_
 have g8b:=nlt E9.size g6b
 have X9b:=xtr E9 E4a
 refine wh h7<|wp_seq_k fun _ h0c=>Dn [9] 10 mo rfl fun w3 E2a S5a=>have X6a:=xtr X9b E2a;dA 0 rfl (fun _=>Ag (o':=0) Fh rfl rfl) ?_
 refine dV 1 rfl (fun _ hw=>AL AN rfl (((q5b.ext E4a).ext E2a).ext hw) (by simp only [List.drop_zero,List.take_succ_cons,List.take_zero];rfl) rfl) S5a ?_
 refine dA 2 rfl (fun _=>Aa rfl) ?_
 refine dA 4 rfl (fun _=>Ag (o':=3) Fw rfl rfl) ?_
 refine dV 5 rfl (fun _ hw=>AL AN rfl (((q5b.ext E4a).ext E2a).ext hw) (by simp only [List.drop_succ_cons,List.drop_zero,List.take_succ_cons,List.take_zero];rfl) rfl) S5a ?_
 refine dA 6 rfl (fun _=>Aa rfl) ?_
 obtain ⟨r0a,h1c,f2c⟩:=Ab hr
 refine dc 3 rfl (by kernel_rfl) (by rfl) (Ad Ni (by rfl)) (GO x0.lo x1 5 false A1 c2 w3 (tbx X6a hT) (n3.ext X6a) r0a h1c) ?_
 rintro _ w4 E7a ⟨A8a,c9a,rfl,n3c⟩
 refine dnrm ?_
 have X0b:=xtr X6a E7a
 have S4c:=S5a.trans E7a
 obtain ⟨r1a,h5c,f6c⟩:=Ab f2c
 refine dc 7 rfl (by kernel_rfl) (by rfl) (Ad Ni (by rfl)) (GO x0.hi x1 4 false A4 c5 w4 (tbx X0b hT) (n6.ext X0b) r1a h5c) ?_
 rintro _ w5 E3a ⟨A1b,c2b,rfl,n7c⟩
 refine dnrm ?_
 have X8c:=xtr X0b E3a
 have S4d:=S4c.trans E3a
 refine dA 8 rfl (fun _=>Bb (vals:=[(0,.agg #[.bool r0a.m.Neg,.slice A8a (sz r0a.m.Abs) c9a,.int .i64 r0a.e]),(1,.agg #[.bool r1a.m.Neg,.slice A1b (sz r1a.m.Abs) c2b,.int .i64 r1a.e])]) (cells:=[.bool r0a.m.Neg,.slice A8a (sz r0a.m.Abs) c9a,.int .i64 r0a.e,.bool r1a.m.Neg,.slice A1b (sz r1a.m.Abs) c2b,.int .i64 r1a.e]) (by rfl) (by kernel_rfl)) ?_
 have q3b:=((q7b.ext E2a).ext E7a).ext E3a
 refine dkk 9 Qw q3b fun w6 U4b q9c=>?_
 have X0d:=belU X8c U4b g8b
 refine Cn (by kernel_rfl) ?_
 refine h0c _ _<|wp_ret ?_
 have n1d:=(n3c.ext E3a).upd U4b q3b (by decide)
 obtain rfl:=sj f6c
 exact fin rfl (Res.cellN rfl Ln q9c rfl rfl Res.nil) (Aj X0d ⟨A8a,c9a,A1b,c2b,rfl,n1d,(n7c.upd U4b q3b (by decide))⟩)
theorem Gi (x0:AB) (A1:Option Addr) (c2:Nat) (A4:Option Addr) (c5:Nat) (w:World) (hT:TB w) (n3:RU w A1 c2 x0.lo.m.Abs) (n6:RU w A4 c5 x0.hi.m.Abs) (r:Except Int (AI)) (hr:He x0=some r) :
  Calls Tryz.prog 107 #[.agg #[.bool x0.lo.m.Neg,.slice A1 (sz x0.lo.m.Abs) c2,.int .i64 x0.lo.e,.bool x0.hi.m.Neg,.slice A4 (sz x0.hi.m.Abs) c5,.int .i64 x0.hi.e]] w (RetE 201 Nr w r):=by
 unfold He at hr
 go_enter Tryz.func107,Tryz.ntmps107
 refine wp_seq_k fun _ h7=>Ae<|Bu rfl rfl fun b8 w1 E9 g4d q7b=>?_
 refine nrm ?_
 refine AA Ii fun b5d w2 E7a g8b q9b=>?_
 refine nrm ?_
 have g0c:=nlt E9.size g8b
 have X1c:=xtr E9 E7a
 refine wh h7<|wp_seq_k fun _ h2c=>Dn [7] 8 mo rfl fun w3 E6a S8a=>have X2a:=xtr X1c E6a;dA 0 rfl (fun _=>Ag (o':=0) Fh rfl rfl) ?_
 refine dV 1 rfl (fun _ hw=>AL AN rfl (((q7b.ext E7a).ext E6a).ext hw) (by simp only [List.drop_zero,List.take_succ_cons,List.take_zero];rfl) rfl) S8a ?_
 refine dA 3 rfl (fun _=>Ag (o':=3) Fw rfl rfl) ?_
 refine dV 4 rfl (fun _ hw=>AL AN rfl (((q7b.ext E7a).ext E6a).ext hw) (by simp only [List.drop_succ_cons,List.drop_zero,List.take_succ_cons,List.take_zero];rfl) rfl) S8a ?_
 rcases AR hr with ⟨r0a,h9a,f3c⟩ | ⟨r0a,h9a,rfl⟩
 ·refine dcO 2 rfl (by kernel_rfl) (by rfl) (Ad Ls (by rfl)) (Fi x0.lo A1 c2 w3 (tbx X2a hT) (n3.ext X2a) (.ok r0a) h9a) ?_
  rintro _ w4 E5a ⟨A0b,c1b,rfl,n4c⟩
  refine dnrm ?_
  have X3a:=xtr X2a E5a
  have S5c:=S8a.trans E5a
  rcases AR f3c with ⟨r1a,h2b,f6c⟩ | ⟨r1a,h2b,rfl⟩
  ·refine dcO 5 rfl (by kernel_rfl) (by rfl) (Ad Ls (by rfl)) (Fi x0.hi A4 c5 w4 (tbx X3a hT) (n6.ext X3a) (.ok r1a) h2b) ?_
   rintro _ w5 E4a ⟨A3b,c4b,rfl,n7c⟩
   refine dnrm ?_
   have X8c:=xtr X3a E4a
   have S6d:=S5c.trans E4a
   refine dA 6 rfl (fun _=>Bb (vals:=[(0,.agg #[.bool r0a.Man.Neg,.slice A0b (sz r0a.Man.Abs) c1b,.int .i64 r0a.Exp]),(1,.agg #[.bool r1a.Man.Neg,.slice A3b (sz r1a.Man.Abs) c4b,.int .i64 r1a.Exp])]) (cells:=[.bool r0a.Man.Neg,.slice A0b (sz r0a.Man.Abs) c1b,.int .i64 r0a.Exp,.bool r1a.Man.Neg,.slice A3b (sz r1a.Man.Abs) c4b,.int .i64 r1a.Exp]) (by rfl) (by kernel_rfl)) ?_
   have q5b:=((q9b.ext E6a).ext E5a).ext E4a
   refine dkk 7 HJ q5b fun w6 U6b q9c=>?_
   have X0d:=belU X8c U6b g0c
   refine Cn (by kernel_rfl) ?_
   refine h2c _ _<|wp_ret ?_
   have n1d:=(n4c.ext E4a).upd U6b q5b (by decide)
   obtain rfl:=sj f6c
   exact fin rfl (Res.cellN rfl DE q9c rfl rfl Res.nil) (EK X0d ⟨A0b,c1b,A3b,c4b,rfl,n1d,(n7c.upd U6b q5b (by decide))⟩)
  ·refine dcP 5 rfl (by kernel_rfl) (by rfl) (Ad Ls (by rfl)) (Fi x0.hi A4 c5 w4 (tbx X3a hT) (n6.ext X3a) (.error r1a) h2b) fun w5 E4a=>?_
   have X2d:=xtr X3a E4a
   exact ⟨rfl,Cw X2d⟩
 ·refine dcP 2 rfl (by kernel_rfl) (by rfl) (Ad Ls (by rfl)) (Fi x0.lo A1 c2 w3 (tbx X2a hT) (n3.ext X2a) (.error r0a) h9a) fun w4 E5a=>?_
  have X3d:=xtr X2a E5a
  exact ⟨rfl,Cw X3d⟩
end Go.Proofs

