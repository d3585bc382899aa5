import Derived.Test.YtabiobmfelafoaaDoorGen2
namespace Go.Proofs
set_option linter.unusedVariables false
set_option linter.unusedSimpArgs false
set_option maxHeartbeats 4000000
open Go.RowKit Go.Sb Go.Proofs.Sbn
theorem EK (x0:Al) (A1:Option Addr) (c2:Nat) (w:World) (hT:TB w) (n3:RLu w A1 c2 x0.Man.Abs) (r:Bool) (hr:Co x0=some r) :
  Calls Tryd.prog 26 #[.agg #[.bool x0.Man.Neg,.slice A1 x0.Man.Abs.length c2,.int .i64 x0.Exp]] w (Ret EO w r):=by
 unfold Co at hr
 go_enter Tryd.func26,Tryd.ntmps26
 refine wp_seq_k fun K4 h4=>Ah<|Br rfl rfl fun b5 w1 E6 g7 q8=>?_
 refine nrm ?_
 refine sV (Ac rfl) ?_
 refine Ad<|h4 _ _<|wp_seq_k fun K9 h9=>Ah<|sV (Ai (o':=0) Er rfl rfl) ?_
 refine sV (Ai (o':=1) Du rfl rfl) ?_
 refine sV (Aj Fl rfl (Bx.cell q8 rfl)) ?_
 refine sV (AO CQ rfl) ?_
 refine sb (Gr rfl rfl) fun z4a hz4a=>?_
 refine nrm ?_
 refine sV (Aa rfl) ?_
 obtain ⟨m2d,h5b,f3d⟩:=Ab hr
 refine Bh 20 (fun l l' w'=>∃(t6b:Value) (t7b:Value) (t8b:Value) (t9b:Value) (t0c:Value) (t1c:Value) (t2c:Value) (t3c:Value) (t4c:Value) (t5c:Value) (t6c:Value) (t7c:Value) (t8c:Value),UpdS [] w1 w'∧l'=((((((((((((((l.set 9 t6b).set 10 t7b).set 11 t8b).set 12 t9b).set 13 t0c).set 14 t1c).set 15 t2c).set 16 t3c).set 17 t4c).set 18 t5c).set 19 t6c).set 20 t7c).set 21 t8c).set 22 (.bool m2d))) ?_ ?_
 ·intro HJ85
  rcases bft z4a with e0a | e0a
  ·have p4d:=zP hz4a e0a
   have f5d:=ifP p4d h5b
   refine sV (Ai (o':=2) Ff rfl rfl) ?_ (hw:=wgT rfl e0a)
   refine sV (Aj Ex rfl (Bx.cell q8 rfl)) ?_ (hw:=wgT rfl e0a)
   refine sb (Fz rfl rfl) ?_ (hw:=wgT rfl e0a)
   intro z3a hz3a
   refine nrm ?_
   refine sV (Aa rfl) ?_ (hw:=wgT rfl e0a)
   obtain ⟨m5a,h9c,f6d⟩:=Ab f5d
   refine Bh 14 (fun l l' w'=>∃(t7a:Value) (t8a:Value) (t9a:Value),w1=w'∧l'=((((l.set 13 t7a).set 14 t8a).set 15 t9a).set 16 (.bool m5a))) ?_ ?_
   ·intro HJ105
    rcases bft z3a with e1a | e1a
    ·have p7d:=zP hz3a e1a
     have f8d:=ifP p7d h9c
     refine sV (Ai (o':=2) Ff rfl rfl) ?_ (hw:=wgT rfl e1a)
     refine sV (Aj Ex rfl (Bx.cell q8 rfl)) ?_ (hw:=wgT rfl e1a)
     refine sb (Gr rfl rfl) ?_ (hw:=wgT rfl e1a)
     intro z0b hz0b
     refine nrm ?_
     refine sV (Ar (evb rfl e1a) rfl) ?_ (hw:=wgT rfl e0a)
     obtain rfl:z0b=decide (x0.Exp≤3000):=bz hz0b
     obtain rfl:=sj f8d
     exact HJ105 _ _ ⟨(.pointer (some ⟨b5,2,none⟩)),(.int .i64 x0.Exp),(.bool (decide (x0.Exp≤3000))),rfl,(by simp only [S0,S1]<;>rfl)⟩
    ·have p9d:=zN hz3a e1a
     have f0e:=ifN p9d h9c
     refine sP ?_ (hw:=wgF rfl e1a)
     refine sP ?_ (hw:=wgF rfl e1a)
     refine sP ?_ (hw:=wgF rfl e1a)
     refine sV (Az (evb rfl e1a) rfl) ?_ (hw:=wgT rfl e0a)
     obtain rfl:=sj f0e
     exact HJ105 _ _ ⟨uu,uu,uu,rfl,(by simp only [S0,S1]<;>rfl)⟩
   ·rintro l' _ ⟨t7a,t8a,t9a,rfl,hq'⟩ l'' hl
    rw [hq'] at hl
    clear hq'
    simp only [S0,S1] at hl
    subst hl
    refine sV (Aa rfl) ?_ (hw:=wgT rfl e0a)
    obtain ⟨m0d,h1d,f1e⟩:=Ab f6d
    refine Bh 19 (fun l l' w'=>∃(t1b:Value) (t2b:Value) (t3b:Value),UpdS [] w1 w'∧l'=((((l.set 18 t1b).set 19 t2b).set 20 t3b).set 21 (.bool m0d))) ?_ ?_
    ·intro HJ130
     rcases bft m5a with e2a | e2a
     ·have p2e:=e2a
      have f3e:=ifP p2e h1d
      refine sP ?_ (hw:=wgF rfl e2a)
      refine sP ?_ (hw:=wgF rfl e2a)
      refine sP ?_ (hw:=wgF rfl e2a)
      refine sV (Ar (evb rfl e2a) rfl) ?_ (hw:=wgT rfl e0a)
      obtain rfl:=sj f3e
      exact HJ130 _ _ ⟨uu,uu,uu,(UpdS.refl _ _),(by simp only [S0,S1]<;>rfl)⟩
     ·have p4e:=bF e2a
      have f5e:=ifN p4e h1d
      refine sV (Ak As rfl q8 rfl) ?_ (hw:=wgT rfl e2a)
      obtain ⟨r6a,h6e,f7e⟩:=Ab f5e
      refine sc (Ae en_47 (by rfl)) (c_sorobanref04_Valid x0 A1 c2 w1 (tbx E6 hT) (n3.ext E6) r6a h6e) ?_ (hw:=wgT rfl e2a)
      rintro _ w2 E8e rfl
      refine nrm ?_
      refine sb (Eg rfl) ?_ (hw:=wgT rfl e2a)
      intro z4b hz4b
      refine nrm ?_
      refine sV (Az (evb rfl e2a) rfl) ?_ (hw:=wgT rfl e0a)
      obtain rfl:z4b=decide (¬(r6a=true)):=bz hz4b
      obtain rfl:=sj f7e
      exact HJ130 _ _ ⟨(.agg #[.bool x0.Man.Neg,.slice A1 x0.Man.Abs.length c2,.int .i64 x0.Exp]),(.bool r6a),(.bool (decide (¬(r6a=true)))),((UpdS.refl _ _).ext E8e),(by simp only [S0,S1]<;>rfl)⟩
    ·rintro l' w2 ⟨t1b,t2b,t3b,U9e,hq'⟩ l'' hl
     rw [hq'] at hl
     clear hq'
     simp only [S0,S1] at hl
     subst hl
     refine sV (Ar (evb rfl e0a) rfl) ?_
     obtain rfl:=sj f1e
     exact HJ85 _ _ ⟨(.pointer (some ⟨b5,2,none⟩)),(.int .i64 x0.Exp),(.bool z3a),(.bool z3a),t7a,t8a,t9a,(.bool m5a),(.bool m5a),t1b,t2b,t3b,(.bool m0d),((UpdS.refl _ _).updS U9e al0),(by simp only [S0,S1]<;>rfl)⟩
  ·have p0f:=zN hz4a e0a
   have f1f:=ifN p0f h5b
   refine sP ?_ (hw:=wgF rfl e0a)
   refine sP ?_ (hw:=wgF rfl e0a)
   refine sP ?_ (hw:=wgF rfl e0a)
   refine sP ?_ (hw:=wgF rfl e0a)
   refine sP ?_
   refine sP ?_
   refine sP ?_
   refine sP ?_ (hw:=wgF rfl e0a)
   refine sP ?_ (hw:=wgF rfl e0a)
   refine sP ?_
   refine sP ?_
   refine sP ?_
   refine sP ?_ (hw:=wgF rfl e0a)
   refine sV (Az (evb rfl e0a) rfl) ?_
   obtain rfl:=sj f1f
   exact HJ85 _ _ ⟨uu,uu,uu,uu,uu,uu,uu,uu,uu,uu,uu,uu,uu,(UpdS.refl _ _),(by simp only [S0,S1]<;>rfl)⟩
 ·rintro l' w2 ⟨t6b,t7b,t8b,t9b,t0c,t1c,t2c,t3c,t4c,t5c,t6c,t7c,t8c,U2f,hq'⟩ l'' hl
  rw [hq'] at hl
  clear hq'
  simp only [S0,S1] at hl
  subst hl
  have X3f:=GA E6 U2f (E6).size al0
  refine sV (Ac rfl) ?_
  refine Ad<|h9 _ _<|wp_ret ?_
  obtain rfl:=sj f3d
  exact fin rfl (Res.tmp rfl Res.nil) (Ap X3f rfl)
theorem c_sorobanlaw04_valid__3 (x0_0:Al) (x0_1:Al) (x0_2:Al) (bp0:Nat) (A1:Option Addr) (c2:Nat) (A4:Option Addr) (c5:Nat) (A7:Option Addr) (c8:Nat) (w:World) (hT:TB w) (n3:RLu w A1 c2 x0_0.Man.Abs) (n6:RLu w A4 c5 x0_1.Man.Abs) (n9:RLu w A7 c8 x0_2.Man.Abs) (q4a:Bx w bp0 27 [.bool x0_0.Man.Neg,.slice A1 x0_0.Man.Abs.length c2,.int .i64 x0_0.Exp,.bool x0_1.Man.Neg,.slice A4 x0_1.Man.Abs.length c5,.int .i64 x0_1.Exp,.bool x0_2.Man.Neg,.slice A7 x0_2.Man.Abs.length c8,.int .i64 x0_2.Exp]) (r:Bool) (hr:CI x0_0 x0_1 x0_2=some r) :
  Calls Tryd.prog 6 #[.slice (some ⟨bp0,0,none⟩) 3 3] w (Ret EO w r):=by
 unfold CI at hr
 go_enter Tryd.func6,Tryd.ntmps6
 refine wp_seq_k fun K3c h3c=>Ah<|sV (Ac rfl) ?_
 refine Ad<|h3c _ _<|wp_seq_k fun K4c h4c=>wp_seq_k fun K5c h5c=>Ah<|sV (Ac rfl) ?_
 refine Ad<|h5c _ _ ?_
 apply wp_block
 refine Gj<|BV<|wp_seq_k fun K6c h6c=>wp_seq_k fun K7c h7c=>Ah<|sV (Aa rfl) ?_
 refine sV (Aa rfl) ?_
 refine sV (AO EW rfl) ?_
 refine sV (GU (v:=.bool true) (CR rfl rfl) (by rfl)) ?_
 refine Ad<|h7c _ _<|wp_cond_true (Ao (evb rfl rfl))<|wp_skip<|h6c _ _<|wp_seq_k fun K8c h8c=>?_
 apply wp_block
 refine wp_seq_k fun K9c h9c=>Ah<|sV (Aa rfl) ?_
 refine sV (Aa rfl) ?_
 refine sV (EL (o':=0) EW AL rfl rfl (by decide) (by decide) (by decide)) ?_
 refine sV (AE As rfl q4a (by simp only [List.drop_zero,List.take_succ_cons,List.take_zero];rfl) rfl) ?_
 obtain ⟨r4h,h5h,f6h⟩:=Ab hr
 refine sc (Ae KH (by rfl)) (EK x0_0 A1 c2 w hT n3 r4h h5h) ?_
 rintro _ w1 E3a rfl
 refine nrm ?_
 refine sb (Eg rfl) fun z8a hz8a=>?_
 refine nrm ?_
 refine sV (Aa rfl) ?_
 obtain ⟨m0d,h1d,f2d⟩:=Ab f6h
 refine Bh 14 (fun l l' w'=>∃(t3d:Value) (t4d:Value) (t5d:Value) (t6d:Value) (t7d:Value) (t8d:Value),UpdS [] w1 w'∧l'=(((((((l.set 17 t3d).set 18 t4d).set 19 t5d).set 20 t6d).set 21 t7d).set 22 t8d).set 23 (.bool m0d))) ?_ ?_
 ·intro HJ44
  rcases bft z8a with e0a | e0a
  ·have p7h:=zP hz8a e0a
   have f8h:=ifP p7h h1d
   refine sP ?_ (hw:=wgF rfl e0a)
   refine sP ?_ (hw:=wgF rfl e0a)
   refine sP ?_ (hw:=wgF rfl e0a)
   refine sP ?_ (hw:=wgF rfl e0a)
   refine sP ?_ (hw:=wgF rfl e0a)
   refine sP ?_ (hw:=wgF rfl e0a)
   refine sV (Ar (evb rfl e0a) rfl) ?_
   obtain rfl:=sj f8h
   exact HJ44 _ _ ⟨uu,uu,uu,uu,uu,uu,(UpdS.refl _ _),(by simp only [S0,S1]<;>rfl)⟩
  ·have p9h:=zN hz8a e0a
   have f0i:=ifN p9h h1d
   refine sV (Aa rfl) ?_ (hw:=wgT rfl e0a)
   refine sV (Aa rfl) ?_ (hw:=wgT rfl e0a)
   refine sV (EL (o':=0) EW AL rfl rfl (by decide) (by decide) (by decide)) ?_ (hw:=wgT rfl e0a)
   refine sV (AE As rfl (q4a.ext E3a) (by simp only [List.drop_zero,List.take_succ_cons,List.take_zero];rfl) rfl) ?_ (hw:=wgT rfl e0a)
   obtain ⟨r9a,h1i,f2i⟩:=Ab f0i
   refine sc (Ae Im (by rfl)) (DV x0_0 A1 c2 w1 (tbx E3a hT) (n3.ext E3a) r9a h1i) ?_ (hw:=wgT rfl e0a)
   rintro _ w2 E3i rfl
   refine nrm ?_
   refine sb (Eg rfl) ?_ (hw:=wgT rfl e0a)
   intro z9b hz9b
   refine nrm ?_
   refine sV (Az (evb rfl e0a) rfl) ?_
   obtain rfl:z9b=decide (¬(r9a=true)):=bz hz9b
   obtain rfl:=sj f2i
   exact HJ44 _ _ ⟨(.slice (some ⟨bp0,0,none⟩) 3 3),(.int .i64 0),(.pointer (some ⟨bp0,0,none⟩)),(.agg #[.bool x0_0.Man.Neg,.slice A1 x0_0.Man.Abs.length c2,.int .i64 x0_0.Exp]),(.bool r9a),(.bool (decide (¬(r9a=true)))),((UpdS.refl _ _).ext E3i),(by simp only [S0,S1]<;>rfl)⟩
 ·rintro l' w2 ⟨t3d,t4d,t5d,t6d,t7d,t8d,U0b,hq'⟩ l'' hl
  rw [hq'] at hl
  clear hq'
  simp only [S0,S1] at hl
  subst hl
  have X1b:=GA E3a U0b (E3a).size al0
  refine Ad<|h9c _ _ ?_
  rcases bft m0d with e5a | e5a
  ·have p4i:=e5a
   have f5i:=ifP p4i f2d
   refine wp_cond_true (Ao (evb rfl e5a))<|wp_seq_k fun K9d h9d=>Ah<|sV (Ac rfl) ?_
   refine Ad<|h9d _ _<|wp_ret ?_
   obtain rfl:=sj f5i
   exact fin rfl (Res.tmp rfl Res.nil) (Ap X1b rfl)
  ·have p6i:=bF e5a
   have f7i:=ifN p6i f2d
   refine wp_cond_false (Ao (evb rfl e5a))<|wp_skip<|h8c _ _<|Ah<|sV (Aa rfl) ?_
   refine sV (BH (c:=1) rfl rfl (by decide)) ?_
   refine sV (Ac rfl) ?_
   refine Ad<|BV<|wp_seq_k fun K0e h0e=>wp_seq_k fun K1e h1e=>Ah<|sV (Aa rfl) ?_
   refine sV (Aa rfl) ?_
   refine sV (AO EW rfl) ?_
   refine sV (GU (v:=.bool true) (CR rfl rfl) (by rfl)) ?_
   refine Ad<|h1e _ _<|wp_cond_true (Ao (evb rfl rfl))<|wp_skip<|h0e _ _<|wp_seq_k fun K2e h2e=>?_
   apply wp_block
   refine wp_seq_k fun K3e h3e=>Ah<|sV (Aa rfl) ?_
   refine sV (Aa rfl) ?_
   refine sV (EL (o':=3) EW AL rfl rfl (by decide) (by decide) (by decide)) ?_
   refine sV (AE As rfl ((q4a.ext E3a).updS U0b nm0) (by simp only [List.drop_succ_cons,List.drop_zero,List.take_succ_cons,List.take_zero];rfl) rfl) ?_
   obtain ⟨r8i,h9i,f0j⟩:=Ab f7i
   refine sc (Ae KH (by rfl)) (EK x0_1 A4 c5 w2 (tbx X1b hT) (n6.ext X1b) r8i h9i) ?_
   rintro _ w3 E0c rfl
   refine nrm ?_
   have X2b:=xtr X1b E0c
   refine sb (Eg rfl) fun z3b hz3b=>?_
   refine nrm ?_
   refine sV (Aa rfl) ?_
   obtain ⟨m4e,h5e,f6e⟩:=Ab f0j
   refine Bh 14 (fun l l' w'=>∃(t7e:Value) (t8e:Value) (t9e:Value) (t0f:Value) (t1f:Value) (t2f:Value),UpdS [] w3 w'∧l'=(((((((l.set 17 t7e).set 18 t8e).set 19 t9e).set 20 t0f).set 21 t1f).set 22 t2f).set 23 (.bool m4e))) ?_ ?_
   ·intro HJ100
    rcases bft z3b with e1a | e1a
    ·have p1j:=zP hz3b e1a
     have f2j:=ifP p1j h5e
     refine sP ?_ (hw:=wgF rfl e1a)
     refine sP ?_ (hw:=wgF rfl e1a)
     refine sP ?_ (hw:=wgF rfl e1a)
     refine sP ?_ (hw:=wgF rfl e1a)
     refine sP ?_ (hw:=wgF rfl e1a)
     refine sP ?_ (hw:=wgF rfl e1a)
     refine sV (Ar (evb rfl e1a) rfl) ?_
     obtain rfl:=sj f2j
     exact HJ100 _ _ ⟨uu,uu,uu,uu,uu,uu,(UpdS.refl _ _),(by simp only [S0,S1]<;>rfl)⟩
    ·have p3j:=zN hz3b e1a
     have f4j:=ifN p3j h5e
     refine sV (Aa rfl) ?_ (hw:=wgT rfl e1a)
     refine sV (Aa rfl) ?_ (hw:=wgT rfl e1a)
     refine sV (EL (o':=3) EW AL rfl rfl (by decide) (by decide) (by decide)) ?_ (hw:=wgT rfl e1a)
     have q5j:=((q4a.ext E3a).updS U0b nm0).ext E0c
     refine sV (AE As rfl q5j (by simp only [List.drop_succ_cons,List.drop_zero,List.take_succ_cons,List.take_zero];rfl) rfl) ?_ (hw:=wgT rfl e1a)
     obtain ⟨r4b,h6j,f7j⟩:=Ab f4j
     refine sc (Ae Im (by rfl)) (DV x0_1 A4 c5 w3 (tbx X2b hT) (n6.ext X2b) r4b h6j) ?_ (hw:=wgT rfl e1a)
     rintro _ w4 E8j rfl
     refine nrm ?_
     refine sb (Eg rfl) ?_ (hw:=wgT rfl e1a)
     intro z1c hz1c
     refine nrm ?_
     refine sV (Az (evb rfl e1a) rfl) ?_
     obtain rfl:z1c=decide (¬(r4b=true)):=bz hz1c
     obtain rfl:=sj f7j
     exact HJ100 _ _ ⟨(.slice (some ⟨bp0,0,none⟩) 3 3),(.int .i64 1),(.pointer (some ⟨bp0,3,none⟩)),(.agg #[.bool x0_1.Man.Neg,.slice A4 x0_1.Man.Abs.length c5,.int .i64 x0_1.Exp]),(.bool r4b),(.bool (decide (¬(r4b=true)))),((UpdS.refl _ _).ext E8j),(by simp only [S0,S1]<;>rfl)⟩
   ·rintro l' w4 ⟨t7e,t8e,t9e,t0f,t1f,t2f,U3f,hq'⟩ l'' hl
    rw [hq'] at hl
    clear hq'
    simp only [S0,S1] at hl
    subst hl
    have X5b:=GA X2b U3f (X2b).size al0
    refine Ad<|h3e _ _ ?_
    rcases bft m4e with e6a | e6a
    ·have p9j:=e6a
     have f0k:=ifP p9j f6e
     refine wp_cond_true (Ao (evb rfl e6a))<|wp_seq_k fun K4f h4f=>Ah<|sV (Ac rfl) ?_
     refine Ad<|h4f _ _<|wp_ret ?_
     obtain rfl:=sj f0k
     exact fin rfl (Res.tmp rfl Res.nil) (Ap X5b rfl)
    ·have p1k:=bF e6a
     have f2k:=ifN p1k f6e
     refine wp_cond_false (Ao (evb rfl e6a))<|wp_skip<|h2e _ _<|Ah<|sV (Aa rfl) ?_
     refine sV (BH (c:=2) rfl rfl (by decide)) ?_
     refine sV (Ac rfl) ?_
     refine Ad<|BV<|wp_seq_k fun K5f h5f=>wp_seq_k fun K6f h6f=>Ah<|sV (Aa rfl) ?_
     refine sV (Aa rfl) ?_
     refine sV (AO EW rfl) ?_
     refine sV (GU (v:=.bool true) (CR rfl rfl) (by rfl)) ?_
     refine Ad<|h6f _ _<|wp_cond_true (Ao (evb rfl rfl))<|wp_skip<|h5f _ _<|wp_seq_k fun K7f h7f=>?_
     apply wp_block
     refine wp_seq_k fun K8f h8f=>Ah<|sV (Aa rfl) ?_
     refine sV (Aa rfl) ?_
     refine sV (EL (o':=6) EW AL rfl rfl (by decide) (by decide) (by decide)) ?_
     have q9f:=(((q4a.ext E3a).updS U0b nm0).ext E0c).updS U3f nm0
     refine sV (AE As rfl q9f (by simp only [List.drop_succ_cons,List.drop_zero,List.take_succ_cons,List.take_zero];rfl) rfl) ?_
     obtain ⟨r3k,h4k,f5k⟩:=Ab f2k
     refine sc (Ae KH (by rfl)) (EK x0_2 A7 c8 w4 (tbx X5b hT) (n9.ext X5b) r3k h4k) ?_
     rintro _ w5 E0g rfl
     refine nrm ?_
     have X6b:=xtr X5b E0g
     refine sb (Eg rfl) fun z7b hz7b=>?_
     refine nrm ?_
     refine sV (Aa rfl) ?_
     obtain ⟨m1g,h2g,f3g⟩:=Ab f5k
     refine Bh 14 (fun l l' w'=>∃(t4g:Value) (t5g:Value) (t6g:Value) (t7g:Value) (t8g:Value) (t9g:Value),UpdS [] w5 w'∧l'=(((((((l.set 17 t4g).set 18 t5g).set 19 t6g).set 20 t7g).set 21 t8g).set 22 t9g).set 23 (.bool m1g))) ?_ ?_
     ·intro HJ157
      rcases bft z7b with e2a | e2a
      ·have p6k:=zP hz7b e2a
       have f7k:=ifP p6k h2g
       refine sP ?_ (hw:=wgF rfl e2a)
       refine sP ?_ (hw:=wgF rfl e2a)
       refine sP ?_ (hw:=wgF rfl e2a)
       refine sP ?_ (hw:=wgF rfl e2a)
       refine sP ?_ (hw:=wgF rfl e2a)
       refine sP ?_ (hw:=wgF rfl e2a)
       refine sV (Ar (evb rfl e2a) rfl) ?_
       obtain rfl:=sj f7k
       exact HJ157 _ _ ⟨uu,uu,uu,uu,uu,uu,(UpdS.refl _ _),(by simp only [S0,S1]<;>rfl)⟩
      ·have p8k:=zN hz7b e2a
       have f9k:=ifN p8k h2g
       refine sV (Aa rfl) ?_ (hw:=wgT rfl e2a)
       refine sV (Aa rfl) ?_ (hw:=wgT rfl e2a)
       refine sV (EL (o':=6) EW AL rfl rfl (by decide) (by decide) (by decide)) ?_ (hw:=wgT rfl e2a)
       refine sV (AE As rfl (q9f.ext E0g) (by simp only [List.drop_succ_cons,List.drop_zero,List.take_succ_cons,List.take_zero];rfl) rfl) ?_ (hw:=wgT rfl e2a)
       obtain ⟨r8b,h0l,f1l⟩:=Ab f9k
       refine sc (Ae Im (by rfl)) (DV x0_2 A7 c8 w5 (tbx X6b hT) (n9.ext X6b) r8b h0l) ?_ (hw:=wgT rfl e2a)
       rintro _ w6 E2l rfl
       refine nrm ?_
       refine sb (Eg rfl) ?_ (hw:=wgT rfl e2a)
       intro z2c hz2c
       refine nrm ?_
       refine sV (Az (evb rfl e2a) rfl) ?_
       obtain rfl:z2c=decide (¬(r8b=true)):=bz hz2c
       obtain rfl:=sj f1l
       exact HJ157 _ _ ⟨(.slice (some ⟨bp0,0,none⟩) 3 3),(.int .i64 2),(.pointer (some ⟨bp0,6,none⟩)),(.agg #[.bool x0_2.Man.Neg,.slice A7 x0_2.Man.Abs.length c8,.int .i64 x0_2.Exp]),(.bool r8b),(.bool (decide (¬(r8b=true)))),((UpdS.refl _ _).ext E2l),(by simp only [S0,S1]<;>rfl)⟩
     ·rintro l' w6 ⟨t4g,t5g,t6g,t7g,t8g,t9g,U3l,hq'⟩ l'' hl
      rw [hq'] at hl
      clear hq'
      simp only [S0,S1] at hl
      subst hl
      have X0h:=GA X6b U3l (X6b).size al0
      refine Ad<|h8f _ _ ?_
      rcases bft m1g with e7a | e7a
      ·have p4l:=e7a
       have f5l:=ifP p4l f3g
       refine wp_cond_true (Ao (evb rfl e7a))<|wp_seq_k fun K1h h1h=>Ah<|sV (Ac rfl) ?_
       refine Ad<|h1h _ _<|wp_ret ?_
       obtain rfl:=sj f5l
       exact fin rfl (Res.tmp rfl Res.nil) (Ap X0h rfl)
      ·have p6l:=bF e7a
       have f7l:=ifN p6l f3g
       refine wp_cond_false (Ao (evb rfl e7a))<|wp_skip<|h7f _ _<|Ah<|sV (Aa rfl) ?_
       refine sV (BH (c:=3) rfl rfl (by decide)) ?_
       refine sV (Ac rfl) ?_
       refine Ad<|BV<|wp_seq_k fun K8l h8l=>wp_seq_k fun K2h h2h=>Ah<|sV (Aa rfl) ?_
       refine sV (Aa rfl) ?_
       refine sV (AO EW rfl) ?_
       refine sV (GU (v:=.bool false) (CR rfl rfl) (by rfl)) ?_
       refine Ad<|h2h _ _<|wp_cond_false (Ao (evb rfl rfl))<|wp_exit ?_
       simp only [Exit.then,Exit.inBlock,↓reduceIte,Nat.reduceEqDiff]
       refine h4c _ _<|wp_seq_k fun K3h h3h=>Ah<|sV (Ac rfl) ?_
       refine Ad<|h3h _ _<|wp_ret ?_
       obtain rfl:=sj f7l
       exact fin rfl (Res.tmp rfl Res.nil) (Ap X0h rfl)
theorem c_dyad_Neg (x0:Al) (A1:Option Addr) (c2:Nat) (w:World) (hT:TB w) (n3:RLu w A1 c2 x0.Man.Abs) (r:Af × Int) (hr:FH x0=some r) :
  Calls Tryd.prog 12 #[.agg #[.bool x0.Man.Neg,.slice A1 x0.Man.Abs.length c2,.int .i64 x0.Exp]] w (Ret Ey w r):=by
 unfold FH at hr
 obtain ⟨q0,hq0,hr0⟩:=Ab hr
 unfold Ha at hq0
 go_enter_defers Tryd.func12,Tryd.ntmps12
 refine wp_seq_k fun K4 h4=>Ah<|Br rfl rfl fun b5 w1 E6 g7 q8=>?_
 refine nrm ?_
 refine Ax Bn fun b9 w2 E7a g9d q2b=>?_
 refine nrm ?_
 have g3b:=nlt E6.size g9d
 have X3c:=xtr E6 E7a
 refine Ax Hz fun b4b w3 E3a g0e q8a=>?_
 refine nrm ?_
 have g5b:=nlt X3c.size g0e
 have X4c:=xtr X3c E3a
 refine Ad<|h4 _ _<|wp_seq_k fun K5c h5c=>Ah<|Gz (vs:=[.pointer (some ⟨b9,0,none⟩),.pointer (some ⟨b4b,0,none⟩)]) (by rfl) (by rfl)<|Ad<|h5c _ _<|wp_seq_k fun K6c h6c=>Ah<|sV (Ak As rfl ((q8.ext E7a).ext E3a) rfl) ?_
 refine Dw (vals:=[(0,.agg #[.bool x0.Man.Neg,.slice A1 x0.Man.Abs.length c2,.int .i64 x0.Exp])]) (cs:=[.bool x0.Man.Neg,.slice A1 x0.Man.Abs.length c2,.int .i64 x0.Exp]) EW AL Bn (by rfl) (by decide) (by kernel_rfl) fun b7c w4 E1a g1e q8c=>?_
 refine nrm ?_
 have g9g:=nlt X4c.size g1e
 have X4a:=xtr X4c E1a
 rcases Bb hq0 with ⟨r9a,h6b,f2e⟩ | ⟨r9a,h6b,rfl⟩
 ·refine scO (Ae GS (by rfl)) (DR x0 b7c A1 c2 w4 (tbx X4a hT) (n3.ext X4a) q8c (.ok r9a) h6b) ?_
  rintro _ w5 E0a rfl
  refine nrm ?_
  have X7b:=xtr X4a E0a
  refine Ad<|h6c _ _<|wp_seq_k fun K9c h9c=>Ah<|have q3e:=(((q8.ext E7a).ext E3a).ext E1a).ext E0a;sV (Ak As rfl q3e rfl) ?_
  obtain ⟨m0d,h4e,f5e⟩:=Ab f2e
  have hx1d:=BO h4e
  have n6e:RU w5 A1 c2 m0d:=by unfold RU;rw [hx1d];exact (n3.ext X7b)
  obtain ⟨r2d,h7e,f8e⟩:=Ab f5e
  refine sc (Ae BT (by simp only [sz,hx1d];rfl)) (AC (⟨(⟨x0.Man.Neg,m0d⟩:Ag),x0.Exp⟩:Af) A1 c2 w5 (tbx X7b hT) n6e r2d h7e) ?_
  rintro _ w6 E5a ⟨A9e,c0f,rfl,n1f⟩
  refine nrm ?_
  have X3d:=xtr X7b E5a
  obtain ⟨r8b,h2f,f3f⟩:=Ab f8e
  refine sc (Ae KR (by rfl)) (FK r2d A9e c0f w6 (tbx X3d hT) n1f r8b h2f) ?_
  rintro _ w7 E6a ⟨A4d,c5d,rfl,n6d⟩
  refine nrm ?_
  have X0b:=xtr X3d E6a
  rcases Bb f3f with ⟨r1b,h9b,f4f⟩ | ⟨r1b,h9b,rfl⟩
  ·refine scO (Ae FD (by rfl)) (Ba r8b A4d c5d w7 (tbx X0b hT) n6d (.ok r1b) h9b) ?_
   rintro _ w8 E2a ⟨A5f,c6f,rfl,n7f⟩
   refine nrm ?_
   have X8f:=xtr X0b E2a
   have q0c:=(((((q2b.ext E3a).ext E1a).ext E0a).ext E5a).ext E6a).ext E2a
   refine AA AL rfl rfl q0c rfl rfl rfl rfl (by simp only [SP0,SP1,S0,S1,Nat.reduceAdd];rfl) fun w9 U1c q9f=>?_
   have X0g:=belU X8f U1c g3b
   have ne7d:=(Bx.neT (((((q8a.ext E1a).ext E0a).ext E5a).ext E6a).ext E2a) q0c (by decide))
   have q8d:=(((((q8a.ext E1a).ext E0a).ext E5a).ext E6a).ext E2a).upd U1c ne7d
   refine AA Gt rfl rfl q8d rfl rfl rfl rfl (by simp only [SP0,SP1,S0,S1,Nat.reduceAdd];rfl) fun w7a U2c q1g=>?_
   have X2g:=belU X0g U2c g5b
   refine Ad<|h9c _ _<|wp_ret ?_
   have n3g:=(n7f.upd U1c q0c (by decide)).upd U2c q8d (by decide)
   obtain rfl:=sj f4f
   obtain rfl:=sj hr0
   exact Ir Bz DU rfl (Res.cellN rfl As (q9f.upd U2c (Ne.symm ne7d)) rfl rfl (Res.cell1 rfl Cx (Bx.cell q1g rfl) Res.nil)) (Ap X2g ⟨A5f,c6f,rfl,n3g⟩)
  ·refine scP (Ae FD (by rfl)) (Ba r8b A4d c5d w7 (tbx X0b hT) n6d (.error r1b) h9b) fun w8 E2a=>?_
   have X4g:=xtr X0b E2a
   have q5g:=(((((q2b.ext E3a).ext E1a).ext E0a).ext E5a).ext E6a).ext E2a
   have q6g:=((((q8a.ext E1a).ext E0a).ext E5a).ext E6a).ext E2a
   refine Fs DU (AH b9 b4b (.bool false:Value) (.slice none 0 0:Value) (.int .i64 0:Value) (.int .i64 0:Value) r1b q5g q6g) rfl ?_
   rintro w9 ⟨u9,q9,q9'⟩
   obtain rfl:=sj hr0
   exact ⟨_,(Res.cellN rfl As q9 rfl rfl (Res.cell1 rfl Cx (Bx.cell q9' rfl) Res.nil)),Ap (u9.toExt X4g g3b g5b) ⟨none,0,rfl,RU.nil _⟩⟩
 ·refine scP (Ae GS (by rfl)) (DR x0 b7c A1 c2 w4 (tbx X4a hT) (n3.ext X4a) q8c (.error r9a) h6b) fun w5 E0a=>?_
  have X7g:=xtr X4a E0a
  have q8g:=((q2b.ext E3a).ext E1a).ext E0a
  refine Fs DU (AH b9 b4b (.bool false:Value) (.slice none 0 0:Value) (.int .i64 0:Value) (.int .i64 0:Value) r9a q8g ((q8a.ext E1a).ext E0a)) rfl ?_
  rintro w9 ⟨u9,q9,q9'⟩
  obtain rfl:=sj hr0
  exact ⟨_,(Res.cellN rfl As q9 rfl rfl (Res.cell1 rfl Cx (Bx.cell q9' rfl) Res.nil)),Ap (u9.toExt X7g g3b g5b) ⟨none,0,rfl,RU.nil _⟩⟩
theorem c_dyad_Sub_1 (x0:An) (x1:An) (A1:Option Addr) (c2:Nat) (A4:Option Addr) (c5:Nat) (w:World) (hT:TB w) (n3:RU w A1 c2 x0.m.Abs) (n6:RU w A4 c5 x1.m.Abs) (r:An) (hr:Ge x0 x1=some r) :
  Calls Tryd.prog 43 #[.agg #[.bool x0.m.Neg,.slice A1 (sz x0.m.Abs) c2,.int .i64 x0.e],.agg #[.bool x1.m.Neg,.slice A4 (sz x1.m.Abs) c5,.int .i64 x1.e]] w (Ret Gn w r):=by
 unfold Ge at hr
 go_enter Tryd.func43,Tryd.ntmps43
 refine wp_seq_k fun K7 h7=>Ah<|Br rfl rfl fun b8 w1 E9 g5d q3b=>?_
 refine nrm ?_
 refine Br rfl rfl fun b6d w2 E7a g4b q5b=>?_
 refine nrm ?_
 have g7d:=nlt E9.size g4b
 have X8a:=xtr E9 E7a
 refine Ax AG fun b8d w3 E1a g6b q7b=>?_
 refine nrm ?_
 have g8b:=nlt X8a.size g6b
 have X9b:=xtr X8a E1a
 refine Ad<|h7 _ _<|wp_seq_k fun K9a h9a=>DD [4] 5 mo rfl fun w4 E0a S2a=>have X3a:=xtr X9b E0a;dV 0 rfl (fun _ hw=>Ak AJ rfl ((((q3b.ext E7a).ext E1a).ext E0a).ext hw) rfl) S2a ?_
 refine dV 1 rfl (fun _ hw=>Ak AJ rfl (((q5b.ext E1a).ext E0a).ext hw) rfl) S2a ?_
 obtain ⟨r0b,h0c,f1c⟩:=Ab hr
 refine dc 2 rfl (by kernel_rfl) (by rfl) (Ae KR (by rfl)) (FK x1 A4 c5 w4 (tbx X3a hT) (n6.ext X3a) r0b h0c) ?_
 rintro _ w5 E4a ⟨A2c,c3c,rfl,n4c⟩
 refine dnrm ?_
 have X5a:=xtr X3a E4a
 have S5c:=S2a.trans E4a
 obtain ⟨r6c,h7c,f8c⟩:=Ab f1c
 refine dc 3 rfl (by kernel_rfl) (by rfl) (Ae KT (by rfl)) (FT x0 r0b A1 c2 A2c c3c w5 (tbx X5a hT) (n3.ext X5a) n4c r6c h7c) ?_
 rintro _ w6 E6a ⟨A9c,c0d,rfl,n1d⟩
 refine dnrm ?_
 have X2d:=xtr X5a E6a
 have S9d:=S5c.trans E6a
 have q1b:=((q7b.ext E0a).ext E4a).ext E6a
 refine dk 4 rfl (by kernel_rfl) (by decide) (by rfl) CA rfl rfl q1b rfl rfl rfl rfl (by simp only [SP0,SP1,S0,S1,Nat.reduceAdd];rfl) fun w7 U2b q3d=>?_
 have X4d:=belU X2d U2b g8b
 refine CC (by kernel_rfl) ?_
 refine h9a _ _<|wp_ret ?_
 obtain rfl:=sj f8c
 exact fin rfl (Res.cellN rfl AJ q3d rfl rfl Res.nil) (Ap X4d ⟨A9c,c0d,rfl,(n1d.upd U2b q1b (by decide))⟩)
theorem c_dyad_exact__dyad_Sub_1__dyad_near (x0:Al) (x1:Al) (A1:Option Addr) (c2:Nat) (A4:Option Addr) (c5:Nat) (w:World) (hT:TB w) (n3:RLu w A1 c2 x0.Man.Abs) (n6:RLu w A4 c5 x1.Man.Abs) (r:Af × Int) (hr:BU x0 x1=some r) :
  Calls Tryd.prog 32 #[.agg #[.bool x0.Man.Neg,.slice A1 x0.Man.Abs.length c2,.int .i64 x0.Exp],.agg #[.bool x1.Man.Neg,.slice A4 x1.Man.Abs.length c5,.int .i64 x1.Exp],.agg #[.func (.func 43) #[] #[],.func (.func 34) #[] #[]]] w (Ret Ey w r):=by
 unfold BU at hr
 obtain ⟨q0,hq0,hr0⟩:=Ab hr
 unfold Cy at hq0
 go_enter_defers Tryd.func32,Tryd.ntmps32
 refine wp_seq_k fun K7 h7=>Ah<|Br rfl rfl fun b8 w1 E9 g5q q8i=>?_
 refine nrm ?_
 refine Br rfl rfl fun b3g w2 E6e g4g q9i=>?_
 refine nrm ?_
 have g6q:=nlt E9.size g4g
 have X0j:=xtr E9 E6e
 refine Br rfl rfl fun b7q w3 E1j g8q q2j=>?_
 refine nrm ?_
 have g1a2:=nlt X0j.size g8q
 have X8k:=xtr X0j E1j
 refine Ax Bn fun b7e w4 E5d g9q q3c=>?_
 refine nrm ?_
 have g5g:=nlt X8k.size g9q
 have X9k:=xtr X8k E5d
 refine Ax Hz fun b8e w5 E9a g0r q0c=>?_
 refine nrm ?_
 have g6g:=nlt X9k.size g0r
 have X0l:=xtr X9k E9a
 refine Ad<|h7 _ _<|wp_seq_k fun K1l h1l=>Ah<|Gz (vs:=[.pointer (some ⟨b7e,0,none⟩),.pointer (some ⟨b8e,0,none⟩)]) (by rfl) (by rfl)<|Ad<|h1l _ _<|wp_seq_k fun K2l h2l=>Ah<|have q3l:=(((q8i.ext E6e).ext E1j).ext E5d).ext E9a;sV (Ak As rfl q3l rfl) ?_
 have q4l:=((q9i.ext E1j).ext E5d).ext E9a
 refine sV (Ak As rfl q4l rfl) ?_
 refine Dw (vals:=[(0,.agg #[.bool x0.Man.Neg,.slice A1 x0.Man.Abs.length c2,.int .i64 x0.Exp]),(1,.agg #[.bool x1.Man.Neg,.slice A4 x1.Man.Abs.length c5,.int .i64 x1.Exp])]) (cs:=[.bool x0.Man.Neg,.slice A1 x0.Man.Abs.length c2,.int .i64 x0.Exp,.bool x1.Man.Neg,.slice A4 x1.Man.Abs.length c5,.int .i64 x1.Exp]) EW AL Bn (by rfl) (by decide) (by kernel_rfl) fun b3j w6 E3a g1r q5l=>?_
 refine nrm ?_
 have g2a2:=nlt X0l.size g1r
 have X8c:=xtr X0l E3a
 rcases Bb hq0 with ⟨r7g,h4j,f2r⟩ | ⟨r7g,h4j,rfl⟩
 ·refine scO (Ae GS (by rfl)) (DP x0 x1 b3j A1 c2 A4 c5 w6 (tbx X8c hT) (n3.ext X8c) (n6.ext X8c) q5l (.ok r7g) h4j) ?_
  rintro _ w7 E0a rfl
  refine nrm ?_
  have X3r:=xtr X8c E0a
  refine Ad<|h2l _ _<|wp_seq_k fun K6l h6l=>DD [6,7] 8 mo rfl fun w8 E4a S5j=>?_
  have X7a:=xtr X3r E4a
  refine dV 0 rfl (fun _ hw=>Ak As rfl ((((q3l.ext E3a).ext E0a).ext E4a).ext hw) rfl) S5j ?_ (hQ:=fun _ _ _ h=>dq (rs:=[.cell 6 27,.cell 7 31]) rfl (by decide) h)
  refine dV 2 rfl (fun _ hw=>Ak As rfl ((((q4l.ext E3a).ext E0a).ext E4a).ext hw) rfl) S5j ?_ (hQ:=fun _ _ _ h=>dq (rs:=[.cell 6 27,.cell 7 31]) rfl (by decide) h)
  obtain ⟨m6d,h4r,f5r⟩:=Ab f2r
  have hx7d:=BO h4r
  have n9e:RU w8 A1 c2 m6d:=by unfold RU;rw [hx7d];exact (n3.ext X7a)
  obtain ⟨r8a,h0f,f64⟩:=Ab f5r
  obtain ⟨m5b,h6r,f7r⟩:=Ab f64
  have hx6b:=BO h6r
  have n1c:RU w8 A4 c5 m5b:=by unfold RU;rw [hx6b];exact (n6.ext X7a)
  obtain ⟨r6a,h2c,f8r⟩:=Ab f7r
  refine IF #[true,true,true,true,true,true,false,false] 2 (fun l' w'=>∃(A1d:Option Addr) (c2d:Nat) (A3d:Option Addr) (c4d:Nat) (b1f:Nat) (b2f:Nat),Ext w8 w'∧RU w' A1d c2d r8a.m.Abs∧RU w' A3d c4d r6a.m.Abs∧w8.heap.size≤b1f∧Bx w' b1f 63 [.bool false,.slice none 0 0,.int .i64 0]∧w8.heap.size≤b2f∧Bx w' b2f 63 [.bool false,.slice none 0 0,.int .i64 0]∧b1f≠b2f∧l'=[.agg #[.bool x0.Man.Neg,.slice A1 x0.Man.Abs.length c2,.int .i64 x0.Exp],.agg #[.bool x1.Man.Neg,.slice A4 x1.Man.Abs.length c5,.int .i64 x1.Exp],.agg #[.func (.func 43) #[] #[],.func (.func 34) #[] #[]],.pointer (some ⟨b8,0,none⟩),.pointer (some ⟨b3g,0,none⟩),.pointer (some ⟨b7q,0,none⟩),.pointer (some ⟨b7e,0,none⟩),.pointer (some ⟨b8e,0,none⟩),.pointer (some ⟨b1f,0,none⟩),.pointer (some ⟨b2f,0,none⟩),.agg #[.bool x0.Man.Neg,.slice A1 x0.Man.Abs.length c2,.int .i64 x0.Exp],.agg #[.bool x1.Man.Neg,.slice A4 x1.Man.Abs.length c5,.int .i64 x1.Exp],.slice (some ⟨b3j,0,none⟩) 2 2,.tuple #[],.agg #[.bool x0.Man.Neg,.slice A1 x0.Man.Abs.length c2,.int .i64 x0.Exp],.agg #[.bool r8a.m.Neg,.slice A1d (sz r8a.m.Abs) c2d,.int .i64 r8a.e],.agg #[.bool x1.Man.Neg,.slice A4 x1.Man.Abs.length c5,.int .i64 x1.Exp],.agg #[.bool r6a.m.Neg,.slice A3d (sz r6a.m.Abs) c4d,.int .i64 r6a.e],uu,uu,uu,uu,uu,uu,uu,uu,uu,uu,uu,uu]) ?_ ?_
  ·rintro _ w9 ⟨A1d,c2d,A3d,c4d,b1f,b2f,E5a,n9r,n0s,g1s,q4c,g2s,q5c,ne7b,rfl⟩
   have g3s:=nlt X7a.size g1s
   have g4s:=nlt X7a.size g2s
   have X5s:=xtr X7a E5a
   have S3a2:=S5j.trans E5a
   refine dk 6 rfl (by kernel_rfl) (by decide) (by rfl) CA rfl rfl q4c rfl rfl rfl rfl (by simp only [SP0,SP1,S0,S1,Nat.reduceAdd];rfl) fun w5q U1a q7l=>?_
   have X6s:=belU X5s U1a g3s
   refine dk 7 rfl (by kernel_rfl) (by decide) (by rfl) CA rfl rfl (q5c.upd U1a (Ne.symm ne7b)) rfl rfl rfl rfl (by simp only [SP0,SP1,S0,S1,Nat.reduceAdd];rfl) fun w8i U3b q8l=>?_
   have X9l:=belU X6s U3b g4s
   refine CC (by kernel_rfl) ?_
   refine h6l _ _<|wp_seq_k fun K0m h0m=>Ah<|sV (Ai (o':=1) Jt rfl rfl) ?_
   have ne1m:=(Bx.neT ((((((q2j.ext E5d).ext E9a).ext E3a).ext E0a).ext E4a).ext E5a) q4c (by decide))
   have ne7s:=(Bx.neT (((((((q2j.ext E5d).ext E9a).ext E3a).ext E0a).ext E4a).ext E5a).upd U1a ne1m) (q5c.upd U1a (Ne.symm ne7b)) (by decide))
   have q2m:=(((((((q2j.ext E5d).ext E9a).ext E3a).ext E0a).ext E4a).ext E5a).upd U1a ne1m).upd U3b ne7s
   refine sV (Aj Kt rfl (Bx.cell q2m rfl)) ?_
   refine sV (Ak AJ rfl (q7l.upd U3b ne7b) rfl) ?_
   refine sV (Ak AJ rfl q8l rfl) ?_
   have n3m:=(n9r.upd U1a q4c (by decide)).upd U3b (q5c.upd U1a (Ne.symm ne7b)) (by decide)
   have n4m:=(n0s.upd U1a q4c (by decide)).upd U3b (q5c.upd U1a (Ne.symm ne7b)) (by decide)
   obtain ⟨r6j,h8s,f9s⟩:=Ab f8r
   refine sc (ET (first:=[]) (cap:=[]) (args:=[.agg #[.bool r8a.m.Neg,.slice A1d (sz r8a.m.Abs) c2d,.int .i64 r8a.e],.agg #[.bool r6a.m.Neg,.slice A3d (sz r6a.m.Abs) c4d,.int .i64 r6a.e]]) Lg (by rfl) (by rfl)) (Iq r8a r6a A1d c2d A3d c4d w8i (tbx X9l hT) n3m n4m r6j h8s) ?_
   rintro _ w3g E4b rfl
   refine nrm ?_
   have X8g:=xtr X9l E4b
   rcases Bb f9s with ⟨r9g,h7j,f0t⟩ | ⟨r9g,h7j,rfl⟩
   ·refine scO (Ae DO (by rfl)) (AN r6j 2 w3g (tbx X8g hT)  (.ok r9g) h7j) ?_
    rintro _ w6e E2b rfl
    refine nrm ?_
    have X5m:=xtr X8g E2b
    refine Ad<|h0m _ _<|wp_seq_k fun K6m h6m=>Ah<|sV (Ai (o':=0) Jl rfl rfl) ?_
    refine sV (Aj KI rfl (Bx.cell ((q2m.ext E4b).ext E2b) rfl)) ?_
    have q1t:=((q7l.upd U3b ne7b).ext E4b).ext E2b
    refine sV (Ak AJ rfl q1t rfl) ?_
    refine sV (Ak AJ rfl ((q8l.ext E4b).ext E2b) rfl) ?_
    obtain ⟨r8j,h2t,f3t⟩:=Ab f0t
    refine sc (ET (first:=[]) (cap:=[]) (args:=[.agg #[.bool r8a.m.Neg,.slice A1d (sz r8a.m.Abs) c2d,.int .i64 r8a.e],.agg #[.bool r6a.m.Neg,.slice A3d (sz r6a.m.Abs) c4d,.int .i64 r6a.e]]) en_43 (by rfl) (by rfl)) (c_dyad_Sub_1 r8a r6a A1d c2d A3d c4d w6e (tbx X5m hT) ((n3m.ext E4b).ext E2b) ((n4m.ext E4b).ext E2b) r8j h2t) ?_
    rintro _ w4g E8d ⟨A7m,c8m,rfl,n9m⟩
    refine nrm ?_
    have X0h:=xtr X5m E8d
    rcases Bb f3t with ⟨r1h,h9j,f4t⟩ | ⟨r1h,h9j,rfl⟩
    ·refine scO (Ae FD (by rfl)) (Ba r8j A7m c8m w4g (tbx X0h hT) n9m (.ok r1h) h9j) ?_
     rintro _ w9i E9c ⟨A5t,c6t,rfl,n7t⟩
     refine nrm ?_
     have X8t:=xtr X0h E9c
     have ne0n:=(Bx.neT (((((q3c.ext E9a).ext E3a).ext E0a).ext E4a).ext E5a) q4c (by decide))
     have ne9t:=(Bx.neT ((((((q3c.ext E9a).ext E3a).ext E0a).ext E4a).ext E5a).upd U1a ne0n) (q5c.upd U1a (Ne.symm ne7b)) (by decide))
     have q0k:=((((((((((q3c.ext E9a).ext E3a).ext E0a).ext E4a).ext E5a).upd U1a ne0n).upd U3b ne9t).ext E4b).ext E2b).ext E8d).ext E9c
     refine AA AL rfl rfl q0k rfl rfl rfl rfl (by simp only [SP0,SP1,S0,S1,Nat.reduceAdd];rfl) fun w6q U1k q0u=>?_
     have X1u:=belU X8t U1k g5g
     have ne2k:=(Bx.neT ((((q0c.ext E3a).ext E0a).ext E4a).ext E5a) q4c (by decide))
     have ne1n:=(Bx.neT (((((q0c.ext E3a).ext E0a).ext E4a).ext E5a).upd U1a ne2k) (q5c.upd U1a (Ne.symm ne7b)) (by decide))
     have ne2n:=(Bx.neT ((((((((((q0c.ext E3a).ext E0a).ext E4a).ext E5a).upd U1a ne2k).upd U3b ne1n).ext E4b).ext E2b).ext E8d).ext E9c) q0k (by decide))
     have q3n:=((((((((((q0c.ext E3a).ext E0a).ext E4a).ext E5a).upd U1a ne2k).upd U3b ne1n).ext E4b).ext E2b).ext E8d).ext E9c).upd U1k ne2n
     refine AA Gt rfl rfl q3n rfl rfl rfl rfl (by simp only [SP0,SP1,S0,S1,Nat.reduceAdd];rfl) fun w0j U3k q2u=>?_
     have X3u:=belU X1u U3k g6g
     refine Ad<|h6m _ _<|wp_ret ?_
     have n4u:=(n7t.upd U1k q0k (by decide)).upd U3k q3n (by decide)
     obtain rfl:=sj f4t
     obtain rfl:=sj hr0
     exact Ir Bz DU rfl (Res.cellN rfl As (q0u.upd U3k (Ne.symm ne2n)) rfl rfl (Res.cell1 rfl Cx (Bx.cell q2u rfl) Res.nil)) (Ap X3u ⟨A5t,c6t,rfl,n4u⟩)
    ·refine scP (Ae FD (by rfl)) (Ba r8j A7m c8m w4g (tbx X0h hT) n9m (.error r1h) h9j) fun w9i E9c=>?_
     have X5u:=xtr X0h E9c
     have ne4n:=(Bx.neT (((((q3c.ext E9a).ext E3a).ext E0a).ext E4a).ext E5a) q4c (by decide))
     have ne6u:=(Bx.neT ((((((q3c.ext E9a).ext E3a).ext E0a).ext E4a).ext E5a).upd U1a ne4n) (q5c.upd U1a (Ne.symm ne7b)) (by decide))
     have q7u:=((((((((((q3c.ext E9a).ext E3a).ext E0a).ext E4a).ext E5a).upd U1a ne4n).upd U3b ne6u).ext E4b).ext E2b).ext E8d).ext E9c
     have ne5n:=(Bx.neT ((((q0c.ext E3a).ext E0a).ext E4a).ext E5a) q4c (by decide))
     have ne8u:=(Bx.neT (((((q0c.ext E3a).ext E0a).ext E4a).ext E5a).upd U1a ne5n) (q5c.upd U1a (Ne.symm ne7b)) (by decide))
     have q9u:=(((((((((q0c.ext E3a).ext E0a).ext E4a).ext E5a).upd U1a ne5n).upd U3b ne8u).ext E4b).ext E2b).ext E8d).ext E9c
     refine Fs DU (AH b7e b8e (.bool false:Value) (.slice none 0 0:Value) (.int .i64 0:Value) (.int .i64 0:Value) r1h q7u q9u) rfl ?_
     rintro w9 ⟨u9,q9,q9'⟩
     obtain rfl:=sj hr0
     exact ⟨_,(Res.cellN rfl As q9 rfl rfl (Res.cell1 rfl Cx (Bx.cell q9' rfl) Res.nil)),Ap (u9.toExt X5u g5g g6g) ⟨none,0,rfl,RU.nil _⟩⟩
   ·refine scP (Ae DO (by rfl)) (AN r6j 2 w3g (tbx X8g hT)  (.error r9g) h7j) fun w6e E2b=>?_
    have X0v:=xtr X8g E2b
    have ne6n:=(Bx.neT (((((q3c.ext E9a).ext E3a).ext E0a).ext E4a).ext E5a) q4c (by decide))
    have ne1v:=(Bx.neT ((((((q3c.ext E9a).ext E3a).ext E0a).ext E4a).ext E5a).upd U1a ne6n) (q5c.upd U1a (Ne.symm ne7b)) (by decide))
    have q2v:=((((((((q3c.ext E9a).ext E3a).ext E0a).ext E4a).ext E5a).upd U1a ne6n).upd U3b ne1v).ext E4b).ext E2b
    have ne7n:=(Bx.neT ((((q0c.ext E3a).ext E0a).ext E4a).ext E5a) q4c (by decide))
    have ne3v:=(Bx.neT (((((q0c.ext E3a).ext E0a).ext E4a).ext E5a).upd U1a ne7n) (q5c.upd U1a (Ne.symm ne7b)) (by decide))
    have q4v:=(((((((q0c.ext E3a).ext E0a).ext E4a).ext E5a).upd U1a ne7n).upd U3b ne3v).ext E4b).ext E2b
    refine Fs DU (AH b7e b8e (.bool false:Value) (.slice none 0 0:Value) (.int .i64 0:Value) (.int .i64 0:Value) r9g q2v q4v) rfl ?_
    rintro w9 ⟨u9,q9,q9'⟩
    obtain rfl:=sj hr0
    exact ⟨_,(Res.cellN rfl As q9 rfl rfl (Res.cell1 rfl Cx (Bx.cell q9' rfl) Res.nil)),Ap (u9.toExt X0v g5g g6g) ⟨none,0,rfl,RU.nil _⟩⟩
  ·intro HJ87
   refine GE 1 4 5 (by kernel_rfl) ?_ ?_ ?_
   ·refine opC 1 rfl (by rfl) (Ae BT (by simp only [sz,hx7d];rfl)) (AC (⟨(⟨x0.Man.Neg,m6d⟩:Ag),x0.Exp⟩:Af) A1 c2 _ (tbx (Ext.refl _) (tbx X7a hT)) (n9e.ext (Ext.refl _)) r8a h0f) ?_
    rintro _ _ E2a ⟨A9d,c0e,rfl,n1e⟩
    refine dnrm ?_
    refine GE 3 4 5 (by kernel_rfl) ?_ ?_ ?_
    ·refine opC 3 rfl (by rfl) (Ae BT (by simp only [sz,hx6b];rfl)) (AC (⟨(⟨x1.Man.Neg,m5b⟩:Ag),x1.Exp⟩:Af) A4 c5 _ (tbx E2a (tbx X7a hT)) (n1c.ext E2a) r6a h2c) ?_
     rintro _ _ E0d ⟨A8n,c9n,rfl,n0o⟩
     refine dnrm ?_
     refine Bi 4 5 (by kernel_rfl) ?_ ?_
     ·refine opA 4 rfl (by rfl) (Aq AG) fun b5v _ E2h g6v q1o=>dnrm ?_
      refine Au 5 (by kernel_rfl) ?_
      ·refine opA 5 rfl (by rfl) (Aq AG) fun b7v _ E3h g2o q8v=>dnrm ?_
       exact AW (by kernel_rfl) (HJ87 _ _ ⟨A9d,c0e,A8n,c9n,b5v,b7v,(((E2a.trans E0d).trans E2h).trans E3h),(((n1e.ext E0d).ext E2h).ext E3h),((n0o.ext E2h).ext E3h),(nlt (E2a.trans E0d).size g6v),(q1o.ext E3h),(nlt ((E2a.trans E0d).trans E2h).size g2o),q8v,(Bx.ne q1o g2o),rfl⟩)
     ·refine opA 5 rfl (by rfl) (Aq AG) fun b9v _ E4h g0w q3o=>dnrm ?_
      refine Au 4 (by kernel_rfl) ?_
      ·refine opA 4 rfl (by rfl) (Aq AG) fun b1w _ E5h g4o q2w=>dnrm ?_
       exact AW (by kernel_rfl) (HJ87 _ _ ⟨A9d,c0e,A8n,c9n,b1w,b9v,(((E2a.trans E0d).trans E4h).trans E5h),(((n1e.ext E0d).ext E4h).ext E5h),((n0o.ext E4h).ext E5h),(nlt ((E2a.trans E0d).trans E4h).size g4o),q2w,(nlt (E2a.trans E0d).size g0w),(q3o.ext E5h),(Ne.symm (Bx.ne q3o g4o)),rfl⟩)
    ·refine opA 4 rfl (by rfl) (Aq AG) fun b5o _ E6c g6o q6h=>dnrm ?_
     refine Bi 3 5 (by kernel_rfl) ?_ ?_
     ·refine opC 3 rfl (by rfl) (Ae BT (by simp only [sz,hx6b];rfl)) (AC (⟨(⟨x1.Man.Neg,m5b⟩:Ag),x1.Exp⟩:Af) A4 c5 _ (tbx (E2a.trans E6c) (tbx X7a hT)) (n1c.ext (E2a.trans E6c)) r6a h2c) ?_
      rintro _ _ E3f ⟨A3w,c4w,rfl,n5w⟩
      refine dnrm ?_
      refine Au 5 (by kernel_rfl) ?_
      ·refine opA 5 rfl (by rfl) (Aq AG) fun b6w _ E7h g7o q7w=>dnrm ?_
       exact AW (by kernel_rfl) (HJ87 _ _ ⟨A9d,c0e,A3w,c4w,b5o,b6w,(((E2a.trans E6c).trans E3f).trans E7h),(((n1e.ext E6c).ext E3f).ext E7h),(n5w.ext E7h),(nlt E2a.size g6o),((q6h.ext E3f).ext E7h),(nlt ((E2a.trans E6c).trans E3f).size g7o),q7w,(Bx.ne (q6h.ext E3f) g7o),rfl⟩)
     ·refine opA 5 rfl (by rfl) (Aq AG) fun b8w _ E4f g8o q9w=>dnrm ?_
      refine Au 3 (by kernel_rfl) ?_
      ·refine opC 3 rfl (by rfl) (Ae BT (by simp only [sz,hx6b];rfl)) (AC (⟨(⟨x1.Man.Neg,m5b⟩:Ag),x1.Exp⟩:Af) A4 c5 _ (tbx ((E2a.trans E6c).trans E4f) (tbx X7a hT)) (n1c.ext ((E2a.trans E6c).trans E4f)) r6a h2c) ?_
       rintro _ _ E8h ⟨A0x,c1x,rfl,n2x⟩
       refine dnrm ?_
       exact AW (by kernel_rfl) (HJ87 _ _ ⟨A9d,c0e,A0x,c1x,b5o,b8w,(((E2a.trans E6c).trans E4f).trans E8h),(((n1e.ext E6c).ext E4f).ext E8h),n2x,(nlt E2a.size g6o),((q6h.ext E4f).ext E8h),(nlt (E2a.trans E6c).size g8o),(q9w.ext E8h),(Bx.ne q6h g8o),rfl⟩)
    ·refine opA 5 rfl (by rfl) (Aq AG) fun b9o _ E7c g0p q9h=>dnrm ?_
     refine Bi 3 4 (by kernel_rfl) ?_ ?_
     ·refine opC 3 rfl (by rfl) (Ae BT (by simp only [sz,hx6b];rfl)) (AC (⟨(⟨x1.Man.Neg,m5b⟩:Ag),x1.Exp⟩:Af) A4 c5 _ (tbx (E2a.trans E7c) (tbx X7a hT)) (n1c.ext (E2a.trans E7c)) r6a h2c) ?_
      rintro _ _ E5f ⟨A3x,c4x,rfl,n5x⟩
      refine dnrm ?_
      refine Au 4 (by kernel_rfl) ?_
      ·refine opA 4 rfl (by rfl) (Aq AG) fun b6x _ E0i g1p q7x=>dnrm ?_
       exact AW (by kernel_rfl) (HJ87 _ _ ⟨A9d,c0e,A3x,c4x,b6x,b9o,(((E2a.trans E7c).trans E5f).trans E0i),(((n1e.ext E7c).ext E5f).ext E0i),(n5x.ext E0i),(nlt ((E2a.trans E7c).trans E5f).size g1p),q7x,(nlt E2a.size g0p),((q9h.ext E5f).ext E0i),(Ne.symm (Bx.ne (q9h.ext E5f) g1p)),rfl⟩)
     ·refine opA 4 rfl (by rfl) (Aq AG) fun b8x _ E6f g2p q9x=>dnrm ?_
      refine Au 3 (by kernel_rfl) ?_
      ·refine opC 3 rfl (by rfl) (Ae BT (by simp only [sz,hx6b];rfl)) (AC (⟨(⟨x1.Man.Neg,m5b⟩:Ag),x1.Exp⟩:Af) A4 c5 _ (tbx ((E2a.trans E7c).trans E6f) (tbx X7a hT)) (n1c.ext ((E2a.trans E7c).trans E6f)) r6a h2c) ?_
       rintro _ _ E1i ⟨A0y,c1y,rfl,n2y⟩
       refine dnrm ?_
       exact AW (by kernel_rfl) (HJ87 _ _ ⟨A9d,c0e,A0y,c1y,b8x,b9o,(((E2a.trans E7c).trans E6f).trans E1i),(((n1e.ext E7c).ext E6f).ext E1i),n2y,(nlt (E2a.trans E7c).size g2p),(q9x.ext E1i),(nlt E2a.size g0p),((q9h.ext E6f).ext E1i),(Ne.symm (Bx.ne q9h g2p)),rfl⟩)
   ·refine opA 4 rfl (by rfl) (Aq AG) fun b4k _ E0b g5k q2e=>dnrm ?_
    refine Bi 1 5 (by kernel_rfl) ?_ ?_
    ·refine opC 1 rfl (by rfl) (Ae BT (by simp only [sz,hx7d];rfl)) (AC (⟨(⟨x0.Man.Neg,m6d⟩:Ag),x0.Exp⟩:Af) A1 c2 _ (tbx E0b (tbx X7a hT)) (n9e.ext E0b) r8a h0f) ?_
     rintro _ _ E8b ⟨A3p,c4p,rfl,n5p⟩
     refine dnrm ?_
     refine Bi 3 5 (by kernel_rfl) ?_ ?_
     ·refine opC 3 rfl (by rfl) (Ae BT (by simp only [sz,hx6b];rfl)) (AC (⟨(⟨x1.Man.Neg,m5b⟩:Ag),x1.Exp⟩:Af) A4 c5 _ (tbx (E0b.trans E8b) (tbx X7a hT)) (n1c.ext (E0b.trans E8b)) r6a h2c) ?_
      rintro _ _ E7f ⟨A3y,c4y,rfl,n5y⟩
      refine dnrm ?_
      refine Au 5 (by kernel_rfl) ?_
      ·refine opA 5 rfl (by rfl) (Aq AG) fun b6y _ E2i g6p q7y=>dnrm ?_
       exact AW (by kernel_rfl) (HJ87 _ _ ⟨A3p,c4p,A3y,c4y,b4k,b6y,(((E0b.trans E8b).trans E7f).trans E2i),((n5p.ext E7f).ext E2i),(n5y.ext E2i),g5k,(((q2e.ext E8b).ext E7f).ext E2i),(nlt ((E0b.trans E8b).trans E7f).size g6p),q7y,(Bx.ne ((q2e.ext E8b).ext E7f) g6p),rfl⟩)
     ·refine opA 5 rfl (by rfl) (Aq AG) fun b8y _ E8f g7p q9y=>dnrm ?_
      refine Au 3 (by kernel_rfl) ?_
      ·refine opC 3 rfl (by rfl) (Ae BT (by simp only [sz,hx6b];rfl)) (AC (⟨(⟨x1.Man.Neg,m5b⟩:Ag),x1.Exp⟩:Af) A4 c5 _ (tbx ((E0b.trans E8b).trans E8f) (tbx X7a hT)) (n1c.ext ((E0b.trans E8b).trans E8f)) r6a h2c) ?_
       rintro _ _ E3i ⟨A0z,c1z,rfl,n2z⟩
       refine dnrm ?_
       exact AW (by kernel_rfl) (HJ87 _ _ ⟨A3p,c4p,A0z,c1z,b4k,b8y,(((E0b.trans E8b).trans E8f).trans E3i),((n5p.ext E8f).ext E3i),n2z,g5k,(((q2e.ext E8b).ext E8f).ext E3i),(nlt (E0b.trans E8b).size g7p),(q9y.ext E3i),(Bx.ne (q2e.ext E8b) g7p),rfl⟩)
    ·refine opA 5 rfl (by rfl) (Aq AG) fun b3z _ E3e g8p q4z=>dnrm ?_
     refine Au 1 (by kernel_rfl) ?_
     ·refine opC 1 rfl (by rfl) (Ae BT (by simp only [sz,hx7d];rfl)) (AC (⟨(⟨x0.Man.Neg,m6d⟩:Ag),x0.Exp⟩:Af) A1 c2 _ (tbx (E0b.trans E3e) (tbx X7a hT)) (n9e.ext (E0b.trans E3e)) r8a h0f) ?_
      rintro _ _ E9f ⟨A5z,c6z,rfl,n7z⟩
      refine dnrm ?_
      refine Au 3 (by kernel_rfl) ?_
      ·refine opC 3 rfl (by rfl) (Ae BT (by simp only [sz,hx6b];rfl)) (AC (⟨(⟨x1.Man.Neg,m5b⟩:Ag),x1.Exp⟩:Af) A4 c5 _ (tbx ((E0b.trans E3e).trans E9f) (tbx X7a hT)) (n1c.ext ((E0b.trans E3e).trans E9f)) r6a h2c) ?_
       rintro _ _ E4i ⟨A8z,c9z,rfl,n0a0⟩
       refine dnrm ?_
       exact AW (by kernel_rfl) (HJ87 _ _ ⟨A5z,c6z,A8z,c9z,b4k,b3z,(((E0b.trans E3e).trans E9f).trans E4i),(n7z.ext E4i),n0a0,g5k,(((q2e.ext E3e).ext E9f).ext E4i),(nlt E0b.size g8p),((q4z.ext E9f).ext E4i),(Bx.ne q2e g8p),rfl⟩)
   ·refine opA 5 rfl (by rfl) (Aq AG) fun b6k _ E1b g7k q4e=>dnrm ?_
    refine Bi 1 4 (by kernel_rfl) ?_ ?_
    ·refine opC 1 rfl (by rfl) (Ae BT (by simp only [sz,hx7d];rfl)) (AC (⟨(⟨x0.Man.Neg,m6d⟩:Ag),x0.Exp⟩:Af) A1 c2 _ (tbx E1b (tbx X7a hT)) (n9e.ext E1b) r8a h0f) ?_
     rintro _ _ E9b ⟨A9p,c0q,rfl,n1q⟩
     refine dnrm ?_
     refine Bi 3 4 (by kernel_rfl) ?_ ?_
     ·refine opC 3 rfl (by rfl) (Ae BT (by simp only [sz,hx6b];rfl)) (AC (⟨(⟨x1.Man.Neg,m5b⟩:Ag),x1.Exp⟩:Af) A4 c5 _ (tbx (E1b.trans E9b) (tbx X7a hT)) (n1c.ext (E1b.trans E9b)) r6a h2c) ?_
      rintro _ _ E0g ⟨A1a0,c2a0,rfl,n3a0⟩
      refine dnrm ?_
      refine Au 4 (by kernel_rfl) ?_
      ·refine opA 4 rfl (by rfl) (Aq AG) fun b4a0 _ E5i g2q q5a0=>dnrm ?_
       exact AW (by kernel_rfl) (HJ87 _ _ ⟨A9p,c0q,A1a0,c2a0,b4a0,b6k,(((E1b.trans E9b).trans E0g).trans E5i),((n1q.ext E0g).ext E5i),(n3a0.ext E5i),(nlt ((E1b.trans E9b).trans E0g).size g2q),q5a0,g7k,(((q4e.ext E9b).ext E0g).ext E5i),(Ne.symm (Bx.ne ((q4e.ext E9b).ext E0g) g2q)),rfl⟩)
     ·refine opA 4 rfl (by rfl) (Aq AG) fun b6a0 _ E1g g3q q7a0=>dnrm ?_
      refine Au 3 (by kernel_rfl) ?_
      ·refine opC 3 rfl (by rfl) (Ae BT (by simp only [sz,hx6b];rfl)) (AC (⟨(⟨x1.Man.Neg,m5b⟩:Ag),x1.Exp⟩:Af) A4 c5 _ (tbx ((E1b.trans E9b).trans E1g) (tbx X7a hT)) (n1c.ext ((E1b.trans E9b).trans E1g)) r6a h2c) ?_
       rintro _ _ E6i ⟨A8a0,c9a0,rfl,n0a1⟩
       refine dnrm ?_
       exact AW (by kernel_rfl) (HJ87 _ _ ⟨A9p,c0q,A8a0,c9a0,b6a0,b6k,(((E1b.trans E9b).trans E1g).trans E6i),((n1q.ext E1g).ext E6i),n0a1,(nlt (E1b.trans E9b).size g3q),(q7a0.ext E6i),g7k,(((q4e.ext E9b).ext E1g).ext E6i),(Ne.symm (Bx.ne (q4e.ext E9b) g3q)),rfl⟩)
    ·refine opA 4 rfl (by rfl) (Aq AG) fun b1a1 _ E5e g4q q2a1=>dnrm ?_
     refine Au 1 (by kernel_rfl) ?_
     ·refine opC 1 rfl (by rfl) (Ae BT (by simp only [sz,hx7d];rfl)) (AC (⟨(⟨x0.Man.Neg,m6d⟩:Ag),x0.Exp⟩:Af) A1 c2 _ (tbx (E1b.trans E5e) (tbx X7a hT)) (n9e.ext (E1b.trans E5e)) r8a h0f) ?_
      rintro _ _ E2g ⟨A3a1,c4a1,rfl,n5a1⟩
      refine dnrm ?_
      refine Au 3 (by kernel_rfl) ?_
      ·refine opC 3 rfl (by rfl) (Ae BT (by simp only [sz,hx6b];rfl)) (AC (⟨(⟨x1.Man.Neg,m5b⟩:Ag),x1.Exp⟩:Af) A4 c5 _ (tbx ((E1b.trans E5e).trans E2g) (tbx X7a hT)) (n1c.ext ((E1b.trans E5e).trans E2g)) r6a h2c) ?_
       rintro _ _ E7i ⟨A6a1,c7a1,rfl,n8a1⟩
       refine dnrm ?_
       exact AW (by kernel_rfl) (HJ87 _ _ ⟨A3a1,c4a1,A6a1,c7a1,b1a1,b6k,(((E1b.trans E5e).trans E2g).trans E7i),(n5a1.ext E7i),n8a1,(nlt E1b.size g4q),((q2a1.ext E2g).ext E7i),g7k,(((q4e.ext E5e).ext E2g).ext E7i),(Ne.symm (Bx.ne q4e g4q)),rfl⟩)
 ·refine scP (Ae GS (by rfl)) (DP x0 x1 b3j A1 c2 A4 c5 w6 (tbx X8c hT) (n3.ext X8c) (n6.ext X8c) q5l (.error r7g) h4j) fun w7 E0a=>?_
  have X9a1:=xtr X8c E0a
  have q0a2:=((q3c.ext E9a).ext E3a).ext E0a
  refine Fs DU (AH b7e b8e (.bool false:Value) (.slice none 0 0:Value) (.int .i64 0:Value) (.int .i64 0:Value) r7g q0a2 ((q0c.ext E3a).ext E0a)) rfl ?_
  rintro w9 ⟨u9,q9,q9'⟩
  obtain rfl:=sj hr0
  exact ⟨_,(Res.cellN rfl As q9 rfl rfl (Res.cell1 rfl Cx (Bx.cell q9' rfl) Res.nil)),Ap (u9.toExt X9a1 g5g g6g) ⟨none,0,rfl,RU.nil _⟩⟩
theorem c_dyad_Sub (x0:Al) (x1:Al) (A1:Option Addr) (c2:Nat) (A4:Option Addr) (c5:Nat) (w:World) (hT:TB w) (n3:RLu w A1 c2 x0.Man.Abs) (n6:RLu w A4 c5 x1.Man.Abs) (r:Af × Int) (hr:FJ x0 x1=some r) :
  Calls Tryd.prog 13 #[.agg #[.bool x0.Man.Neg,.slice A1 x0.Man.Abs.length c2,.int .i64 x0.Exp],.agg #[.bool x1.Man.Neg,.slice A4 x1.Man.Abs.length c5,.int .i64 x1.Exp]] w (Ret Ey w r):=by
 unfold FJ at hr
 go_enter Tryd.func13,Tryd.ntmps13
 refine wp_seq_k fun K7 h7=>Ah<|Br rfl rfl fun b8 w1 E9 g3c q8a=>?_
 refine nrm ?_
 refine Br rfl rfl fun b4c w2 E3a g9a q0b=>?_
 refine nrm ?_
 have g5c:=nlt E9.size g9a
 have X4a:=xtr E9 E3a
 refine Ax Bn fun b6c w3 E1a g1b q5a=>?_
 refine nrm ?_
 have g2b:=nlt X4a.size g1b
 have X0a:=xtr X4a E1a
 refine sV (Ac rfl) ?_
 refine Ad<|h7 _ _<|wp_seq_k fun K6a h6a=>Ah<|sV (Ak As rfl ((q8a.ext E3a).ext E1a) rfl) ?_
 refine sV (Ak As rfl (q0b.ext E1a) rfl) ?_
 refine sV (Bj (vals:=[(0,.func (.func 43) #[] #[]),(1,.func (.func 34) #[] #[])]) (cells:=[.func (.func 43) #[] #[],.func (.func 34) #[] #[]]) (by rfl) (by kernel_rfl)) ?_
 obtain ⟨r3b,h4b,f5b⟩:=Ab hr
 refine sc (Ae KG (by rfl)) (c_dyad_exact__dyad_Sub_1__dyad_near x0 x1 A1 c2 A4 c5 w3 (tbx X0a hT) (n3.ext X0a) (n6.ext X0a) r3b h4b) ?_
 rintro _ w4 E2a ⟨A6b,c7b,rfl,n8b⟩
 refine nrm ?_
 have X9b:=xtr X0a E2a
 refine sV (Am rfl rfl) ?_
 refine sV (Am rfl rfl) ?_
 refine AA AL rfl rfl (q5a.ext E2a) rfl rfl rfl rfl (by simp only [SP0,SP1,S0,S1,Nat.reduceAdd];rfl) fun w5 U7a q0c=>?_
 have X1c:=belU X9b U7a g2b
 refine sV (Ac rfl) ?_
 refine Ad<|h6a _ _<|wp_ret ?_
 have n2c:=n8b.upd U7a (q5a.ext E2a) (by decide)
 obtain rfl:=sj f5b
 exact fin rfl (Res.cellN rfl As q0c rfl rfl (Res.tmp rfl Res.nil)) (Ap X1c ⟨A6b,c7b,rfl,n2c⟩)
theorem c_dyad_Shift (x0:Al) (x1:Int) (A1:Option Addr) (c2:Nat) (w:World) (hT:TB w) (n3:RLu w A1 c2 x0.Man.Abs) (r:Af × Int) (hr:DE x0 x1=some r) :
  Calls Tryd.prog 14 #[.agg #[.bool x0.Man.Neg,.slice A1 x0.Man.Abs.length c2,.int .i64 x0.Exp],.int .i64 x1] w (Ret Ey w r):=by
 unfold DE at hr
 obtain ⟨q0,hq0,hr0⟩:=Ab hr
 unfold FP at hq0
 go_enter_defers Tryd.func14,Tryd.ntmps14
 refine wp_seq_k fun K4 h4=>Ah<|Br rfl rfl fun b5 w1 E6 g7 q8=>?_
 refine nrm ?_
 refine Ax Bn fun b9 w2 E6b g7d q1b=>?_
 refine nrm ?_
 have g2b:=nlt E6.size g7d
 have X8d:=xtr E6 E6b
 refine Ax Hz fun b7b w3 E5a g4g q7a=>?_
 refine nrm ?_
 have g3b:=nlt X8d.size g4g
 have X9d:=xtr X8d E5a
 refine Ad<|h4 _ _<|wp_seq_k fun K0e h0e=>Ah<|Gz (vs:=[.pointer (some ⟨b9,0,none⟩),.pointer (some ⟨b7b,0,none⟩)]) (by rfl) (by rfl)<|Ad<|h0e _ _<|wp_seq_k fun K1e h1e=>Ah<|sV (Ak As rfl ((q8.ext E6b).ext E5a) rfl) ?_
 refine Dw (vals:=[(0,.agg #[.bool x0.Man.Neg,.slice A1 x0.Man.Abs.length c2,.int .i64 x0.Exp])]) (cs:=[.bool x0.Man.Neg,.slice A1 x0.Man.Abs.length c2,.int .i64 x0.Exp]) EW AL Bn (by rfl) (by decide) (by kernel_rfl) fun b2e w4 E1a g5g q3e=>?_
 refine nrm ?_
 have g9k:=nlt X9d.size g5g
 have X0b:=xtr X9d E1a
 rcases Bb hq0 with ⟨r8b,h7c,f4e⟩ | ⟨r8b,h7c,rfl⟩
 ·refine scO (Ae GS (by rfl)) (DR x0 b2e A1 c2 w4 (tbx X0b hT) (n3.ext X0b) q3e (.ok r8b) h7c) ?_
  rintro _ w5 E0a rfl
  refine nrm ?_
  have X4b:=xtr X0b E0a
  refine Ad<|h1e _ _<|wp_seq_k fun K5e h5e=>wp_seq_k fun K6e h6e=>Ah<|sV (Ai (o':=0) Er rfl rfl) ?_
  refine sV (Ai (o':=1) Du rfl rfl) ?_
  have q9b:=(((q8.ext E6b).ext E5a).ext E1a).ext E0a
  refine sV (Aj Fl rfl (Bx.cell q9b rfl)) ?_
  refine sV (AO CQ rfl) ?_
  refine sb (CE rfl rfl) fun z0c hz0c=>?_
  refine nrm ?_
  refine Ad<|h6e _ _ ?_
  rcases bft z0c with e5b | e5b
  ·have p6g:=zP hz0c e5b
   have f7g:=ifP p6g f4e
   refine wp_cond_true (Ao (evb rfl e5b))<|wp_seq_k fun K7e h7e=>Ah<|sV (Ak As rfl q9b rfl) ?_
   have q8e:=((q1b.ext E5a).ext E1a).ext E0a
   refine AA AL rfl rfl q8e rfl rfl rfl rfl (by simp only [SP0,SP1,S0,S1,Nat.reduceAdd];rfl) fun w6 U9e q8g=>?_
   have X9g:=belU X4b U9e g2b
   have ne0f:=(Bx.neT ((q7a.ext E1a).ext E0a) q8e (by decide))
   have q0h:=((q7a.ext E1a).ext E0a).upd U9e ne0f
   refine AA Gt rfl rfl q0h rfl rfl rfl rfl (by simp only [SP0,SP1,S0,S1,Nat.reduceAdd];rfl) fun w7 U1f q1h=>?_
   have X2f:=belU X9g U1f g3b
   refine Ad<|h7e _ _<|wp_ret ?_
   obtain ⟨m2h,h3h,f4h⟩:=Ab f7g
   have hx3f:=BO h3h
   have n5h:RU w7 A1 c2 m2h:=by unfold RU;rw [hx3f];exact (n3.ext X2f)
   obtain rfl:=sj f4h
   obtain rfl:=sj hr0
   exact Ir Bz DU rfl (Res.cellN rfl As (q8g.upd U1f (Ne.symm ne0f)) rfl rfl (Res.cell1 rfl Cx (Bx.cell q1h rfl) Res.nil)) (Ap X2f ⟨A1,c2,(by simp only [sz,hx3f]<;>rfl),n5h⟩)
  ·have p6h:=zN hz0c e5b
   have f7h:=ifN p6h f4e
   refine wp_cond_false (Ao (evb rfl e5b))<|wp_skip<|h5e _ _<|wp_seq_k fun K4f h4f=>Ah<|sV (Aa rfl) ?_
   refine sb (Gr rfl rfl) fun z1c hz1c=>?_
   refine nrm ?_
   refine sV (Aa rfl) ?_
   obtain ⟨m8c,h5f,f8h⟩:=Ab f7h
   refine Bh 6 (fun l l' w'=>∃(t6f:Value) (t7f:Value),w5=w'∧l'=(((l.set 18 t6f).set 19 t7f).set 20 (.bool m8c))) ?_ ?_
   ·intro HJ74
    rcases bft z1c with e3a | e3a
    ·have p9h:=zP hz1c e3a
     have f0i:=ifP p9h h5f
     refine sV (Aa rfl) ?_ (hw:=wgT rfl e3a)
     refine sb (Fz rfl rfl) ?_ (hw:=wgT rfl e3a)
     intro z9c hz9c
     refine nrm ?_
     refine sV (Ar (evb rfl e3a) rfl) ?_
     obtain rfl:z9c=decide ((-4194304)≤x1):=bz hz9c
     obtain rfl:=sj f0i
     exact HJ74 _ _ ⟨(.int .i64 x1),(.bool (decide ((-4194304)≤x1))),rfl,(by simp only [S0,S1]<;>rfl)⟩
    ·have p1i:=zN hz1c e3a
     have f2i:=ifN p1i h5f
     refine sP ?_ (hw:=wgF rfl e3a)
     refine sP ?_ (hw:=wgF rfl e3a)
     refine sV (Az (evb rfl e3a) rfl) ?_
     obtain rfl:=sj f2i
     exact HJ74 _ _ ⟨uu,uu,rfl,(by simp only [S0,S1]<;>rfl)⟩
   ·rintro l' _ ⟨t6f,t7f,rfl,hq'⟩ l'' hl
    rw [hq'] at hl
    clear hq'
    simp only [S0,S1] at hl
    subst hl
    rcases Bb f8h with ⟨r2c,h0d,f3i⟩ | ⟨r2c,h0d,rfl⟩
    ·refine scO (Ae DO (by rfl)) (AN m8c 2 w5 (tbx X4b hT)  (.ok r2c) h0d) ?_
     rintro _ w6 E2a rfl
     refine nrm ?_
     have X4i:=xtr X4b E2a
     refine Ad<|h4f _ _<|wp_seq_k fun K8f h8f=>DD [9,10] 11 mo rfl fun w7 E6a S1d=>?_
     have X2d:=xtr X4i E6a
     refine dA 0 rfl (fun _=>Ai (o':=0) Er rfl rfl) ?_ (hQ:=fun _ _ _ h=>dq (rs:=[.cell 4 27,.cell 5 31]) rfl (by decide) h)
     refine dV 1 rfl (fun _ hw=>AE GR rfl (((q9b.ext E2a).ext E6a).ext hw) (by simp only [List.drop_zero,List.take_succ_cons,List.take_zero];rfl) rfl) S1d ?_ (hQ:=fun _ _ _ h=>dq (rs:=[.cell 4 27,.cell 5 31]) rfl (by decide) h)
     refine dA 3 rfl (fun _=>Ai (o':=2) Ff rfl rfl) ?_ (hQ:=fun _ _ _ h=>dq (rs:=[.cell 4 27,.cell 5 31]) rfl (by decide) h)
     refine dV 4 rfl (fun _ hw=>Aj Ex rfl (Bx.cell (((q9b.ext E2a).ext E6a).ext hw) rfl)) S1d ?_ (hQ:=fun _ _ _ h=>dq (rs:=[.cell 4 27,.cell 5 31]) rfl (by decide) h)
     refine dA 5 rfl (fun _=>Aa rfl) ?_ (hQ:=fun _ _ _ h=>dq (rs:=[.cell 4 27,.cell 5 31]) rfl (by decide) h)
     refine dA 6 rfl (fun _=>BH (c:=wi64 (x0.Exp+x1)) rfl rfl rfl) ?_ (hQ:=fun _ _ _ h=>dq (rs:=[.cell 4 27,.cell 5 31]) rfl (by decide) h)
     obtain ⟨m9f,h5i,f6i⟩:=Ab f3i
     have hx0g:=BO h5i
     have n7i:RU w7 A1 c2 m9f:=by unfold RU;rw [hx0g];exact (n3.ext X2d)
     obtain ⟨r8a,h8i,f9i⟩:=Ab f6i
     refine dc 2 rfl (by kernel_rfl) (by rfl) (Ae Kp (by simp only [sz,hx0g];rfl)) (Hf (⟨x0.Man.Neg,m9f⟩:Ag) A1 c2 w7 (tbx X2d hT) n7i r8a h8i) ?_
     rintro _ w8 E9a ⟨A3c,c4c,rfl,n1g⟩
     refine dnrm ?_
     have X5c:=xtr X2d E9a
     have S0j:=S1d.trans E9a
     refine dA 7 rfl (fun _=>Bj (vals:=[(0,.agg #[.bool r8a.Neg,.slice A3c (sz r8a.Abs) c4c]),(1,.int .i64 (wi64 (x0.Exp+x1)))]) (cells:=[.bool r8a.Neg,.slice A3c (sz r8a.Abs) c4c,.int .i64 (wi64 (x0.Exp+x1))]) (by rfl) (by kernel_rfl)) ?_ (hQ:=fun _ _ _ h=>dq (rs:=[.cell 4 27,.cell 5 31]) rfl (by decide) h)
     rcases Bb f9i with ⟨r6c,h3d,f1j⟩ | ⟨r6c,h3d,rfl⟩
     ·refine dcO 8 rfl (by kernel_rfl) (by rfl) (Ae FD (by rfl)) (Ba (⟨r8a,(wi64 (x0.Exp+x1))⟩:An) A3c c4c w8 (tbx X5c hT) n1g (.ok r6c) h3d) ?_
      rintro _ w9 E4a ⟨A2j,c3j,rfl,n4j⟩
      refine dnrm ?_
      have X5j:=xtr X5c E4a
      have S0l:=S0j.trans E4a
      have q4d:=((((((q1b.ext E5a).ext E1a).ext E0a).ext E2a).ext E6a).ext E9a).ext E4a
      refine dk 9 rfl (by kernel_rfl) (by decide) (by rfl) AL rfl rfl q4d rfl rfl rfl rfl (by simp only [SP0,SP1,S0,S1,Nat.reduceAdd];rfl) fun w6b U5d q6j=>?_
      have X7j:=belU X5j U5d g2b
      have ne2g:=(Bx.neT ((((((q7a.ext E1a).ext E0a).ext E2a).ext E6a).ext E9a).ext E4a) q4d (by decide))
      have q3g:=((((((q7a.ext E1a).ext E0a).ext E2a).ext E6a).ext E9a).ext E4a).upd U5d ne2g
      refine dk 10 rfl (by kernel_rfl) (by decide) (by rfl) Gt rfl rfl q3g rfl rfl rfl rfl (by simp only [SP0,SP1,S0,S1,Nat.reduceAdd];rfl) fun w7d U6d q8j=>?_
      have X9j:=belU X7j U6d g3b
      refine CC (by kernel_rfl) ?_
      refine h8f _ _<|wp_ret ?_
      have n0k:=(n4j.upd U5d q4d (by decide)).upd U6d q3g (by decide)
      obtain rfl:=sj f1j
      obtain rfl:=sj hr0
      exact Ir Bz DU rfl (Res.cellN rfl As (q6j.upd U6d (Ne.symm ne2g)) rfl rfl (Res.cell1 rfl Cx (Bx.cell q8j rfl) Res.nil)) (Ap X9j ⟨A2j,c3j,rfl,n0k⟩)
     ·refine dcP 8 rfl (by kernel_rfl) (by rfl) (Ae FD (by rfl)) (Ba (⟨r8a,(wi64 (x0.Exp+x1))⟩:An) A3c c4c w8 (tbx X5c hT) n1g (.error r6c) h3d) fun w9 E4a=>?_
      have X1k:=xtr X5c E4a
      have q2k:=((((((q1b.ext E5a).ext E1a).ext E0a).ext E2a).ext E6a).ext E9a).ext E4a
      have q3k:=(((((q7a.ext E1a).ext E0a).ext E2a).ext E6a).ext E9a).ext E4a
      refine Fs DU (AH b9 b7b (.bool false:Value) (.slice none 0 0:Value) (.int .i64 0:Value) (.int .i64 0:Value) r6c q2k q3k) rfl ?_
      rintro w9 ⟨u9,q9,q9'⟩
      obtain rfl:=sj hr0
      exact ⟨_,(Res.cellN rfl As q9 rfl rfl (Res.cell1 rfl Cx (Bx.cell q9' rfl) Res.nil)),Ap (u9.toExt X1k g2b g3b) ⟨none,0,rfl,RU.nil _⟩⟩
    ·refine scP (Ae DO (by rfl)) (AN m8c 2 w5 (tbx X4b hT)  (.error r2c) h0d) fun w6 E2a=>?_
     have X4k:=xtr X4b E2a
     have q5k:=(((q1b.ext E5a).ext E1a).ext E0a).ext E2a
     have q6k:=((q7a.ext E1a).ext E0a).ext E2a
     refine Fs DU (AH b9 b7b (.bool false:Value) (.slice none 0 0:Value) (.int .i64 0:Value) (.int .i64 0:Value) r2c q5k q6k) rfl ?_
     rintro w9 ⟨u9,q9,q9'⟩
     obtain rfl:=sj hr0
     exact ⟨_,(Res.cellN rfl As q9 rfl rfl (Res.cell1 rfl Cx (Bx.cell q9' rfl) Res.nil)),Ap (u9.toExt X4k g2b g3b) ⟨none,0,rfl,RU.nil _⟩⟩
 ·refine scP (Ae GS (by rfl)) (DR x0 b2e A1 c2 w4 (tbx X0b hT) (n3.ext X0b) q3e (.error r8b) h7c) fun w5 E0a=>?_
  have X7k:=xtr X0b E0a
  have q8k:=((q1b.ext E5a).ext E1a).ext E0a
  refine Fs DU (AH b9 b7b (.bool false:Value) (.slice none 0 0:Value) (.int .i64 0:Value) (.int .i64 0:Value) r8b q8k ((q7a.ext E1a).ext E0a)) rfl ?_
  rintro w9 ⟨u9,q9,q9'⟩
  obtain rfl:=sj hr0
  exact ⟨_,(Res.cellN rfl As q9 rfl rfl (Res.cell1 rfl Cx (Bx.cell q9' rfl) Res.nil)),Ap (u9.toExt X7k g2b g3b) ⟨none,0,rfl,RU.nil _⟩⟩
end Go.Proofs

