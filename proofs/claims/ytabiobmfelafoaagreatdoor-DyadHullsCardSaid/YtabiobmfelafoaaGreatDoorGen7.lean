import Derived.Test.YtabiobmfelafoaaGreatDoorGen6
namespace Go.Proofs
set_option linter.unusedVariables false
set_option linter.unusedSimpArgs false
set_option maxHeartbeats 4000000
open Go.RowKit Go.Sb Go.Proofs.Sbn
theorem c_sorobanlaw04_valid__1 (x0_0:Aq) (bp0:Nat) (A1:Option Addr) (c2:Nat) (w:World) (hT:TB w) (n3:RLu w A1 c2 x0_0.Man.Abs) (q4:Bx w bp0 27 [.bool x0_0.Man.Neg,.slice A1 x0_0.Man.Abs.length c2,.int .i64 x0_0.Exp]) (r:Bool) (hr:El x0_0=some r) :
  Calls Tryz.prog 33 #[.slice (some ⟨bp0,0,none⟩) 1 1] w (Ret FN w r):=by
 unfold El at hr
 go_enter Tryz.func33,Tryz.ntmps33
 refine wp_seq_k fun _ h5=>Af<|sV (Ab rfl) ?_
 refine wh h5<|wp_seq_k fun _ h6=>wp_seq_k fun _ h7=>Af<|sV (Ab rfl) ?_
 refine wh h7 ?_
 apply wp_block
 refine Hh<|Bk<|wp_seq_k fun _ h8=>wp_seq_k fun _ h9=>Af<|sV3 (Aa rfl) (Aa rfl) (AG KE rfl) ?_
 refine sV (IN (v:=.bool true) (Cn rfl rfl) (by rfl)) ?_
 refine wh h9<|wp_cond_true (Ak (evb rfl rfl))<|wp_skip<|h8 _ _<|wp_seq_k fun _ h3b=>?_
 apply wp_block
 refine wp_seq_k fun _ h4b=>Af<|sV3 (Aa rfl) (Aa rfl) (Ht (o':=0) KE FI rfl rfl (by decide) (by decide) (by decide)) ?_
 refine sV (Am BT rfl q4 rfl) ?_
 refine scr hr (Ad Ry (by rfl)) (HU x0_0 A1 c2 w hT n3) fun r9c f5b w1 E1a=>?_
 refine sb (Fq rfl) fun z5a hz5a=>?_
 refine nrm ?_
 refine sV (Aa rfl) ?_
 obtain ⟨m6b,h7b,f8b⟩:=Ac f5b
 refine BH 14 (fun l l' w'=>∃(t6a:Value) (t7a:Value) (t8a:Value) (t9a:Value) (t0b:Value) (t1b:Value),UpdS [] w1 w'∧l'=(((((((l.set 17 t6a).set 18 t7a).set 19 t8a).set 20 t9a).set 21 t0b).set 22 t1b).set 23 (.bool m6b))) ?_ ?_
 ·intro HJ38
  rcases zi hz5a h7b with ⟨e0a,_,f9b⟩ | ⟨e0a,_,f0c⟩
  ·refine sQ rfl e0a ?_
   refine sQ rfl e0a ?_
   refine sQ rfl e0a ?_
   refine sQ rfl e0a ?_
   refine sQ rfl e0a ?_
   refine sQ rfl e0a ?_
   refine sV (AA (evb rfl e0a) rfl) ?_
   obtain rfl:=sj f9b
   exact HJ38 _ _ ⟨uu,uu,uu,uu,uu,uu,(UpdS.refl _ _),(by kernel_rfl)⟩
  ·refine sV (Aa rfl) ?_ (hw:=wgT rfl e0a)
   refine sV (Aa rfl) ?_ (hw:=wgT rfl e0a)
   refine sV (Ht (o':=0) KE FI rfl rfl (by decide) (by decide) (by decide)) ?_ (hw:=wgT rfl e0a)
   refine sV (Am BT rfl (q4.ext E1a) rfl) ?_ (hw:=wgT rfl e0a)
   refine scr f0c (Ad NQ (by rfl)) (Ic x0_0 A1 c2 w1 (tbx E1a hT) (n3.ext E1a)) (fun r2a f1c w2 E2c=>?_) (hw:=wgT rfl e0a)
   refine sb (Fq rfl) ?_ (hw:=wgT rfl e0a)
   intro z3a hz3a
   refine nrm ?_
   refine sV (AC (evb rfl e0a) rfl) ?_
   obtain rfl:z3a=decide (¬(r2a=true)):=bz hz3a
   obtain rfl:=sj f1c
   exact HJ38 _ _ ⟨(.slice (some ⟨bp0,0,none⟩) 1 1),(.int .i64 0),(.pointer (some ⟨bp0,0,none⟩)),(.agg #[.bool x0_0.Man.Neg,.slice A1 x0_0.Man.Abs.length c2,.int .i64 x0_0.Exp]),(.bool r2a),(.bool (decide (¬(r2a=true)))),((UpdS.refl _ _).ext E2c),(by kernel_rfl)⟩
 ·rintro l' w2 ⟨t6a,t7a,t8a,t9a,t0b,t1b,U3c,hq'⟩ l'' hl
  rw [hq'] at hl
  clear hq'
  simp only [S0,S1] at hl
  subst hl
  have X2b:=Jf E1a U3c (E1a).size al0
  refine wh h4b ?_
  rcases zb f8b with ⟨e4a,f4c⟩ | ⟨e4a,f5c⟩
  ·refine wp_cond_true (Ak (evb rfl e4a))<|wp_seq_k fun _ h6c=>Af<|sV (Ab rfl) ?_
   refine wh h6c<|wp_ret ?_
   exact BG f4c X2b rfl
  ·refine wp_cond_false (Ak (evb rfl e4a))<|wp_skip<|h3b _ _<|Af<|sV2 (Aa rfl) (Bj (c:=1) rfl rfl (by decide)) ?_
   refine sV (Ab rfl) ?_
   refine AK<|Bk<|wp_seq_k fun _ h0d=>wp_seq_k fun _ h7c=>Af<|sV3 (Aa rfl) (Aa rfl) (AG KE rfl) ?_
   refine sV (IN (v:=.bool false) (Cn rfl rfl) (by rfl)) ?_
   refine wh h7c<|wp_cond_false (Ak (evb rfl rfl))<|wp_exit ?_
   simp only [Exit.then,Exit.inBlock,↓reduceIte,Nat.reduceEqDiff]
   refine h6 _ _<|wp_seq_k fun _ h8c=>Af<|sV (Ab rfl) ?_
   refine wh h8c<|wp_ret ?_
   exact BG f5c X2b rfl
theorem JI (x0:Ag) (x1:Ag) (A1:Option Addr) (c2:Nat) (A4:Option Addr) (c5:Nat) (w:World) (hT:TB w) (n3:RU w A1 c2 x0.Man.Abs) (n6:RU w A4 c5 x1.Man.Abs) (r:Bool) (hr:Ep x0 x1=some r) :
  Calls Tryz.prog 35 #[.agg #[.bool x0.Man.Neg,.slice A1 (sz x0.Man.Abs) c2,.int .i64 x0.Exp],.agg #[.bool x1.Man.Neg,.slice A4 (sz x1.Man.Abs) c5,.int .i64 x1.Exp]] w (Ret FN w r):=by
 unfold Ep at hr
 go_enter Tryz.func35,Tryz.ntmps35
 refine wp_seq_k fun _ h7=>Af<|Bm rfl rfl fun b8 w1 E9 g1c q8a=>?_
 refine nrm ?_
 refine Bm rfl rfl fun b2c w2 E4a g9a q0b=>?_
 refine nrm ?_
 have g3c:=nlt E9.size g9a
 have X1a:=xtr E9 E4a
 refine sV (Ab rfl) ?_
 refine wh h7<|wp_seq_k fun _ h1b=>Af<|sV2 (Am BT rfl (q8a.ext E4a) rfl) (Am BT rfl q0b rfl) ?_
 refine scr hr (Ad en_41 (by rfl)) (c_dyad_Cmp (⟨(⟨x0.Man.Neg,(limbs x0.Man.Abs)⟩:Ay),x0.Exp⟩:Aq) (⟨(⟨x1.Man.Neg,(limbs x1.Man.Abs)⟩:Ay),x1.Exp⟩:Aq) A1 c2 A4 c5 w2 (tbx X1a hT) (n3.ext X1a) (n6.ext X1a)) fun r2a f2b w3 E3b=>?_
 have X4b:=xtr X1a E3b
 refine sV3 (Aa rfl) (Aj rfl rfl) (Aj rfl rfl) ?_
 refine sV2 (Ab rfl) (Ab rfl) ?_
 refine wh h1b<|wp_seq_k fun _ h5b=>Af<|sV (Aa rfl) ?_
 refine sb (CG rfl rfl) fun z5a hz5a=>?_
 refine nrm ?_
 refine sV (Aa rfl) ?_
 obtain ⟨m6b,h7b,f8b⟩:=Ac f2b
 refine BH 6 (fun l l' w'=>∃(t6a:Value) (t7a:Value),w3=w'∧l'=(((l.set 16 t6a).set 17 t7a).set 18 (.bool m6b))) ?_ ?_
 ·intro HJ38
  rcases zi hz5a h7b with ⟨e0a,_,f9b⟩ | ⟨e0a,_,f0c⟩
  ·refine sV (Aa rfl) ?_ (hw:=wgT rfl e0a)
   refine sb (Jh rfl rfl) ?_ (hw:=wgT rfl e0a)
   intro z3a hz3a
   refine nrm ?_
   refine sV (AA (evb rfl e0a) rfl) ?_
   obtain rfl:z3a=decide (r2a.1≤0):=bz hz3a
   obtain rfl:=sj f9b
   exact HJ38 _ _ ⟨(.int .i64 r2a.1),(.bool (decide (r2a.1≤0))),rfl,(by kernel_rfl)⟩
  ·refine sQ rfl e0a ?_
   refine sQ rfl e0a ?_
   refine sV (AC (evb rfl e0a) rfl) ?_
   obtain rfl:=sj f0c
   exact HJ38 _ _ ⟨uu,uu,rfl,(by kernel_rfl)⟩
 ·rintro l' _ ⟨t6a,t7a,rfl,hq'⟩ l'' hl
  rw [hq'] at hl
  clear hq'
  simp only [S0,S1] at hl
  subst hl
  refine sV (Ab rfl) ?_
  refine wh h5b<|wp_ret ?_
  exact BG f8b X4b rfl
theorem Jg (x0:Al) (x1:Int) (x2:Al) (x3:Int) (A1:Option Addr) (c2:Nat) (A4:Option Addr) (c5:Nat) (A7:Option Addr) (c8:Nat) (A4a:Option Addr) (c5a:Nat) (w:World) (hT:TB w) (n3:RU w A1 c2 x0.Lo.Man.Abs) (n6:RU w A4 c5 x0.Hi.Man.Abs) (n9:RU w A7 c8 x2.Lo.Man.Abs) (n1c:RU w A4a c5a x2.Hi.Man.Abs) (r:Bool) (hr:DV x0 x1 x2 x3=some r) :
  Calls Tryz.prog 88 #[.agg #[.bool x0.Lo.Man.Neg,.slice A1 (sz x0.Lo.Man.Abs) c2,.int .i64 x0.Lo.Exp,.bool x0.Hi.Man.Neg,.slice A4 (sz x0.Hi.Man.Abs) c5,.int .i64 x0.Hi.Exp],.int .i64 x1,.agg #[.bool x2.Lo.Man.Neg,.slice A7 (sz x2.Lo.Man.Abs) c8,.int .i64 x2.Lo.Exp,.bool x2.Hi.Man.Neg,.slice A4a (sz x2.Hi.Man.Abs) c5a,.int .i64 x2.Hi.Exp],.int .i64 x3] w (Ret FN w r):=by
 unfold DV at hr
 go_enter Tryz.func88,Tryz.ntmps88
 refine wp_seq_k fun _ h2c=>Af<|Bm rfl rfl fun b3c w1 E0b g8e q1b=>?_
 refine nrm ?_
 refine Bm rfl rfl fun b4c w2 E6a g5c q2b=>?_
 refine nrm ?_
 have g9e:=nlt E0b.size g5c
 have X2a:=xtr E0b E6a
 refine sV (Ab rfl) ?_
 refine wh h2c<|wp_seq_k fun _ h6c=>wp_seq_k fun _ h7c=>Af<|sV (Aa rfl) ?_
 refine sb (Ik rfl rfl) fun z3b hz3b=>?_
 refine nrm ?_
 refine sV (Aa rfl) ?_
 obtain ⟨m8c,h9c,f0d⟩:=Ac hr
 refine BH 6 (fun l l' w'=>∃(t4b:Value) (t5b:Value),w2=w'∧l'=(((l.set 12 t4b).set 13 t5b).set 14 (.bool m8c))) ?_ ?_
 ·intro HJ39
  rcases zi hz3b h9c with ⟨e1a,_,f1d⟩ | ⟨e1a,_,f2d⟩
  ·refine sQ rfl e1a ?_
   refine sQ rfl e1a ?_
   refine sV (AA (evb rfl e1a) rfl) ?_
   obtain rfl:=sj f1d
   exact HJ39 _ _ ⟨uu,uu,rfl,(by kernel_rfl)⟩
  ·refine sV (Aa rfl) ?_ (hw:=wgT rfl e1a)
   refine sb (Ik rfl rfl) ?_ (hw:=wgT rfl e1a)
   intro z7a hz7a
   refine nrm ?_
   refine sV (AC (evb rfl e1a) rfl) ?_
   obtain rfl:z7a=decide (¬x3=0):=bz hz7a
   obtain rfl:=sj f2d
   exact HJ39 _ _ ⟨(.int .i64 x3),(.bool (decide (¬x3=0))),rfl,(by kernel_rfl)⟩
 ·rintro l' _ ⟨t4b,t5b,rfl,hq'⟩ l'' hl
  rw [hq'] at hl
  clear hq'
  simp only [S0,S1] at hl
  subst hl
  refine wh h7c ?_
  rcases zb f0d with ⟨e8a,f3d⟩ | ⟨e8a,f4d⟩
  ·refine wp_cond_true (Ak (evb rfl e8a))<|wp_seq_k fun _ h5d=>Af<|sV (Ab rfl) ?_
   refine wh h5d<|wp_ret ?_
   exact BG f3d X2a rfl
  ·refine wp_cond_false (Ak (evb rfl e8a))<|wp_skip<|h6c _ _<|wp_seq_k fun _ h6d=>Af<|sV2 (Ah (o':=0) Jy rfl rfl) (dld BT q2b) ?_
   refine sV2 (Ah (o':=0) Jy rfl rfl) (dld BT (q1b.ext E6a)) ?_
   refine scr f4d (Ad RK (by rfl)) (JI x2.Lo x0.Lo A7 c8 A1 c2 w2 (tbx X2a hT) (n9.ext X2a) (n3.ext X2a)) fun r0f f7d w3 E9a=>?_
   have X3a:=xtr X2a E9a
   refine sV (Aa rfl) ?_
   obtain ⟨m8d,h9d,f0e⟩:=Ac f7d
   refine BH 12 (fun l l' w'=>∃(t6b:Value) (t7b:Value) (t8b:Value) (t9b:Value) (t0c:Value),UpdS [] w3 w'∧l'=((((((l.set 21 t6b).set 22 t7b).set 23 t8b).set 24 t9b).set 25 t0c).set 26 (.bool m8d))) ?_ ?_
   ·intro HJ82
    rcases zb h9d with ⟨e0a,f1e⟩ | ⟨e0a,f2e⟩
    ·refine sV (Ah (o':=3) Jv rfl rfl) ?_ (hw:=wgT rfl e0a)
     refine sV (dld BT ((q1b.ext E6a).ext E9a)) ?_ (hw:=wgT rfl e0a)
     refine sV (Ah (o':=3) Jv rfl rfl) ?_ (hw:=wgT rfl e0a)
     refine sV (dld BT (q2b.ext E9a)) ?_ (hw:=wgT rfl e0a)
     refine scr f1e (Ad RK (by rfl)) (JI x0.Hi x2.Hi A4 c5 A4a c5a w3 (tbx X3a hT) (n6.ext X3a) (n1c.ext X3a)) (fun r3e f4e w4 E5e=>?_) (hw:=wgT rfl e0a)
     refine sV (AA (evb rfl e0a) rfl) ?_
     obtain rfl:=sj f4e
     exact HJ82 _ _ ⟨(.pointer (some ⟨b3c,3,none⟩)),(.agg #[.bool x0.Hi.Man.Neg,.slice A4 (sz x0.Hi.Man.Abs) c5,.int .i64 x0.Hi.Exp]),(.pointer (some ⟨b4c,3,none⟩)),(.agg #[.bool x2.Hi.Man.Neg,.slice A4a (sz x2.Hi.Man.Abs) c5a,.int .i64 x2.Hi.Exp]),(.bool r3e),((UpdS.refl _ _).ext E5e),(by kernel_rfl)⟩
    ·refine sQ rfl e0a ?_
     refine sQ rfl e0a ?_
     refine sQ rfl e0a ?_
     refine sQ rfl e0a ?_
     refine sQ rfl e0a ?_
     refine sV (AC (evb rfl e0a) rfl) ?_
     obtain rfl:=sj f2e
     exact HJ82 _ _ ⟨uu,uu,uu,uu,uu,(UpdS.refl _ _),(by kernel_rfl)⟩
   ·rintro l' w4 ⟨t6b,t7b,t8b,t9b,t0c,U6e,hq'⟩ l'' hl
    rw [hq'] at hl
    clear hq'
    simp only [S0,S1] at hl
    subst hl
    have X7e:=Jf X3a U6e (X3a).size al0
    refine sV (Ab rfl) ?_
    refine wh h6d<|wp_ret ?_
    exact BG f0e X7e rfl
end Go.Proofs

