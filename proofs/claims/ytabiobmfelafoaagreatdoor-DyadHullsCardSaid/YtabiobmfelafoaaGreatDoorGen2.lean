import Derived.Test.YtabiobmfelafoaaGreatDoorGen1
namespace Go.Proofs
set_option linter.unusedVariables false
set_option linter.unusedSimpArgs false
set_option maxHeartbeats 4000000
open Go.RowKit Go.Sb Go.Proofs.Sbn
theorem HU (x0:Aq) (A1:Option Addr) (c2:Nat) (w:World) (hT:TB w) (n3:RLu w A1 c2 x0.Man.Abs) (r:Bool) (hr:CB x0=some r) :
  Calls Tryz.prog 44 #[.agg #[.bool x0.Man.Neg,.slice A1 x0.Man.Abs.length c2,.int .i64 x0.Exp]] w (Ret FN w r):=by
 unfold CB at hr
 go_enter Tryz.func44,Tryz.ntmps44
 refine wp_seq_k fun _ h4=>Af<|Bm rfl rfl fun b5 w1 E6 g7 q8=>?_
 refine nrm ?_
 refine sV (Ab rfl) ?_
 refine wh h4<|wp_seq_k fun _ h9=>Af<|sV3 (Ah (o':=0) HF rfl rfl) (Ah (o':=1) Eb rfl rfl) (Ai Gf rfl (Bx.cell q8 rfl)) ?_
 refine sV (AG Dn rfl) ?_
 refine sb (Jh rfl rfl) fun z4b hz4b=>?_
 refine nrm ?_
 refine sV (Aa rfl) ?_
 obtain ⟨m9c,h0d,f1d⟩:=Ac hr
 refine BH 20 (fun l l' w'=>∃(t5b:Value) (t6b:Value) (t7b:Value) (t8b:Value) (t9b:Value) (t0c:Value) (t1c:Value) (t2c:Value) (t3c:Value) (t4c:Value) (t5c:Value) (t6c:Value) (t7c:Value),UpdS [] w1 w'∧l'=((((((((((((((l.set 9 t5b).set 10 t6b).set 11 t7b).set 12 t8b).set 13 t9b).set 14 t0c).set 15 t1c).set 16 t2c).set 17 t3c).set 18 t4c).set 19 t5c).set 20 t6c).set 21 t7c).set 22 (.bool m9c))) ?_ ?_
 ·intro HJ85
  rcases zi hz4b h0d with ⟨e0a,_,f2d⟩ | ⟨e0a,_,f3d⟩
  ·refine sV (Ah (o':=2) Hj rfl rfl) ?_ (hw:=wgT rfl e0a)
   refine sV (Ai FM rfl (Bx.cell q8 rfl)) ?_ (hw:=wgT rfl e0a)
   refine sb (FP rfl rfl) ?_ (hw:=wgT rfl e0a)
   intro z3a hz3a
   refine nrm ?_
   refine sV (Aa rfl) ?_ (hw:=wgT rfl e0a)
   obtain ⟨m4a,h4d,f5d⟩:=Ac f2d
   refine BH 14 (fun l l' w'=>∃(t5a:Value) (t6a:Value) (t7a:Value),w1=w'∧l'=((((l.set 13 t5a).set 14 t6a).set 15 t7a).set 16 (.bool m4a))) ?_ ?_
   ·intro HJ105
    rcases zi hz3a h4d with ⟨e1a,_,f6d⟩ | ⟨e1a,_,f7d⟩
    ·refine sV (Ah (o':=2) Hj rfl rfl) ?_ (hw:=wgT rfl e1a)
     refine sV (Ai FM rfl (Bx.cell q8 rfl)) ?_ (hw:=wgT rfl e1a)
     refine sb (Jh rfl rfl) ?_ (hw:=wgT rfl e1a)
     intro z8a hz8a
     refine nrm ?_
     refine sV (AA (evb rfl e1a) rfl) ?_ (hw:=wgT rfl e0a)
     obtain rfl:z8a=decide (x0.Exp≤3000):=bz hz8a
     obtain rfl:=sj f6d
     exact HJ105 _ _ ⟨(.pointer (some ⟨b5,2,none⟩)),(.int .i64 x0.Exp),(.bool (decide (x0.Exp≤3000))),rfl,(by kernel_rfl)⟩
    ·refine sQ rfl e1a ?_
     refine sQ rfl e1a ?_
     refine sQ rfl e1a ?_
     refine sV (AC (evb rfl e1a) rfl) ?_ (hw:=wgT rfl e0a)
     obtain rfl:=sj f7d
     exact HJ105 _ _ ⟨uu,uu,uu,rfl,(by kernel_rfl)⟩
   ·rintro l' _ ⟨t5a,t6a,t7a,rfl,hq'⟩ l'' hl
    rw [hq'] at hl
    clear hq'
    simp only [S0,S1] at hl
    subst hl
    refine sV (Aa rfl) ?_ (hw:=wgT rfl e0a)
    obtain ⟨m8c,h8d,f9d⟩:=Ac f5d
    refine BH 19 (fun l l' w'=>∃(t9a:Value) (t0b:Value) (t1b:Value),UpdS [] w1 w'∧l'=((((l.set 18 t9a).set 19 t0b).set 20 t1b).set 21 (.bool m8c))) ?_ ?_
    ·intro HJ130
     rcases zb h8d with ⟨e2a,f0e⟩ | ⟨e2a,f1e⟩
     ·refine sQ rfl e2a ?_
      refine sQ rfl e2a ?_
      refine sQ rfl e2a ?_
      refine sV (AA (evb rfl e2a) rfl) ?_ (hw:=wgT rfl e0a)
      obtain rfl:=sj f0e
      exact HJ130 _ _ ⟨uu,uu,uu,(UpdS.refl _ _),(by kernel_rfl)⟩
     ·refine sV (Am BT rfl q8 rfl) ?_ (hw:=wgT rfl e2a)
      refine scr f1e (Ad en_45 (by rfl)) (c_sorobanref04_Valid x0 A1 c2 w1 (tbx E6 hT) (n3.ext E6)) (fun r2b f2e w2 E3e=>?_) (hw:=wgT rfl e2a)
      refine sb (Fq rfl) ?_ (hw:=wgT rfl e2a)
      intro z3b hz3b
      refine nrm ?_
      refine sV (AC (evb rfl e2a) rfl) ?_ (hw:=wgT rfl e0a)
      obtain rfl:z3b=decide (¬(r2b=true)):=bz hz3b
      obtain rfl:=sj f2e
      exact HJ130 _ _ ⟨(.agg #[.bool x0.Man.Neg,.slice A1 x0.Man.Abs.length c2,.int .i64 x0.Exp]),(.bool r2b),(.bool (decide (¬(r2b=true)))),((UpdS.refl _ _).ext E3e),(by kernel_rfl)⟩
    ·rintro l' w2 ⟨t9a,t0b,t1b,U4e,hq'⟩ l'' hl
     rw [hq'] at hl
     clear hq'
     simp only [S0,S1] at hl
     subst hl
     refine sV (AA (evb rfl e0a) rfl) ?_
     obtain rfl:=sj f9d
     exact HJ85 _ _ ⟨(.pointer (some ⟨b5,2,none⟩)),(.int .i64 x0.Exp),(.bool z3a),(.bool z3a),t5a,t6a,t7a,(.bool m4a),(.bool m4a),t9a,t0b,t1b,(.bool m8c),((UpdS.refl _ _).updS U4e al0),(by kernel_rfl)⟩
  ·refine sQ rfl e0a ?_
   refine sQ rfl e0a ?_
   refine sQ rfl e0a ?_
   refine sQ rfl e0a ?_
   refine sP ?_
   refine sP ?_
   refine sP ?_
   refine sQ rfl e0a ?_
   refine sQ rfl e0a ?_
   refine sP ?_
   refine sP ?_
   refine sP ?_
   refine sQ rfl e0a ?_
   refine sV (AC (evb rfl e0a) rfl) ?_
   obtain rfl:=sj f3d
   exact HJ85 _ _ ⟨uu,uu,uu,uu,uu,uu,uu,uu,uu,uu,uu,uu,uu,(UpdS.refl _ _),(by kernel_rfl)⟩
 ·rintro l' w2 ⟨t5b,t6b,t7b,t8b,t9b,t0c,t1c,t2c,t3c,t4c,t5c,t6c,t7c,U5e,hq'⟩ l'' hl
  rw [hq'] at hl
  clear hq'
  simp only [S0,S1] at hl
  subst hl
  have X6e:=Jf E6 U5e (E6).size al0
  refine sV (Ab rfl) ?_
  refine wh h9<|wp_ret ?_
  exact BG f1d X6e rfl
theorem Iz (x0:Ao) (A1:Option Addr) (c2:Nat) (A4:Option Addr) (c5:Nat) (w:World) (hT:TB w) (n3:RLu w A1 c2 x0.Lo.Man.Abs) (n6:RLu w A4 c5 x0.Hi.Man.Abs) (r:Bool) (hr:Dg x0=some r) :
  Calls Tryz.prog 26 #[.agg #[.bool x0.Lo.Man.Neg,.slice A1 x0.Lo.Man.Abs.length c2,.int .i64 x0.Lo.Exp,.bool x0.Hi.Man.Neg,.slice A4 x0.Hi.Man.Abs.length c5,.int .i64 x0.Hi.Exp]] w (Ret FN w r):=by
 unfold Dg at hr
 go_enter Tryz.func26,Tryz.ntmps26
 refine wp_seq_k fun _ h7=>Af<|Bm rfl rfl fun b8 w1 E9 g9b q2a=>?_
 refine nrm ?_
 refine sV (Ab rfl) ?_
 refine wh h7<|wp_seq_k fun _ h7a=>Af<|sV2 (Ah (o':=0) Jy rfl rfl) (dld BT q2a) ?_
 refine scr hr (Ad Ry (by rfl)) (HU x0.Lo A1 c2 w1 (tbx E9 hT) (n3.ext E9)) fun r0c f8a w2 E3a=>?_
 have X1a:=xtr E9 E3a
 refine sV (Aa rfl) ?_
 obtain ⟨m9a,h0b,f1b⟩:=Ac f8a
 refine BH 8 (fun l l' w'=>∃(t4a:Value) (t5a:Value) (t6a:Value),UpdS [] w2 w'∧l'=((((l.set 7 t4a).set 8 t5a).set 9 t6a).set 10 (.bool m9a))) ?_ ?_
 ·intro HJ35
  rcases zb h0b with ⟨e0a,f2b⟩ | ⟨e0a,f3b⟩
  ·refine sV (Ah (o':=3) Jv rfl rfl) ?_ (hw:=wgT rfl e0a)
   refine sV (dld BT (q2a.ext E3a)) ?_ (hw:=wgT rfl e0a)
   refine scr f2b (Ad Ry (by rfl)) (HU x0.Hi A4 c5 w2 (tbx X1a hT) (n6.ext X1a)) (fun r4b f5b w3 E6b=>?_) (hw:=wgT rfl e0a)
   refine sV (AA (evb rfl e0a) rfl) ?_
   obtain rfl:=sj f5b
   exact HJ35 _ _ ⟨(.pointer (some ⟨b8,3,none⟩)),(.agg #[.bool x0.Hi.Man.Neg,.slice A4 x0.Hi.Man.Abs.length c5,.int .i64 x0.Hi.Exp]),(.bool r4b),((UpdS.refl _ _).ext E6b),(by kernel_rfl)⟩
  ·refine sQ rfl e0a ?_
   refine sQ rfl e0a ?_
   refine sQ rfl e0a ?_
   refine sV (AC (evb rfl e0a) rfl) ?_
   obtain rfl:=sj f3b
   exact HJ35 _ _ ⟨uu,uu,uu,(UpdS.refl _ _),(by kernel_rfl)⟩
 ·rintro l' w3 ⟨t4a,t5a,t6a,U7b,hq'⟩ l'' hl
  rw [hq'] at hl
  clear hq'
  simp only [S0,S1] at hl
  subst hl
  have X8b:=Jf X1a U7b (X1a).size al0
  refine sV (Ab rfl) ?_
  refine wh h7a<|wp_ret ?_
  exact BG f1b X8b rfl
end Go.Proofs

