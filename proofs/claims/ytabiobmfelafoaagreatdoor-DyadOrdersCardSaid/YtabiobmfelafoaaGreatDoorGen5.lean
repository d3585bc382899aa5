import Derived.Test.YtabiobmfelafoaaGreatDoorGen4
namespace Go.Proofs
set_option linter.unusedVariables false
set_option linter.unusedSimpArgs false
set_option maxHeartbeats 4000000
open Go.RowKit Go.Sb Go.Proofs.Sbn
theorem c_ratio_Valid (x0:FV) (A1:Option Addr) (c2:Nat) (A4:Option Addr) (c5:Nat) (w:World) (hT:TB w) (n3:RLu w A1 c2 x0.Num.Abs) (n6:RLu w A4 c5 x0.Den) (r:Bool) (hr:Gy x0=some r) :
  Calls Tryz.prog 141 #[.agg #[.bool x0.Num.Neg,.slice A1 x0.Num.Abs.length c2,.slice A4 x0.Den.length c5]] w (Ret Gq w r):=by
 unfold Gy at hr
 go_enter Tryz.func141,Tryz.ntmps141
 refine wp_seq_k fun _ h7=>Ae<|Bu rfl rfl fun b8 w1 E9 g9i q5a=>?_
 refine nrm ?_
 refine sV (Ac rfl) ?_
 refine wh h7<|wp_seq_k fun _ h0e=>wp_seq_k fun _ h1e=>Ae<|sV2 (Ag (o':=0) IE rfl rfl) (AL Dq rfl q5a (by simp only [List.drop_zero,List.take_succ_cons,List.take_zero];rfl) rfl) ?_
 obtain ⟨r2e,h3e,f4e⟩:=Ab hr
 refine sc (Ad NV (by rfl)) (IX x0.Num A1 c2 w1 (tbx E9 hT) (n3.ext E9) r2e h3e) ?_
 rintro _ w2 E6a rfl
 refine nrm ?_
 have X8a:=xtr E9 E6a
 refine sb (Fv rfl) fun z7b hz7b=>?_
 refine nrm ?_
 refine sV (Aa rfl) ?_
 obtain ⟨m5e,h6e,f7e⟩:=Ab f4e
 refine Bm 10 (fun l l' w'=>∃(t8b:Value) (t9b:Value) (t0c:Value) (t1c:Value),UpdS [] w2 w'∧l'=(((((l.set 10 t8b).set 11 t9b).set 12 t0c).set 13 t1c).set 14 (.bool m5e))) ?_ ?_
 ·intro HJ39
  rcases zi hz7b h6e with ⟨e0a,_,f8e⟩ | ⟨e0a,_,f9e⟩
  ·refine sP ?_ (hw:=wgF rfl e0a)
   refine sP ?_ (hw:=wgF rfl e0a)
   refine sP ?_ (hw:=wgF rfl e0a)
   refine sP ?_ (hw:=wgF rfl e0a)
   refine sV (Ar (evb rfl e0a) rfl) ?_
   obtain rfl:=sj f8e
   exact HJ39 _ _ ⟨uu,uu,uu,uu,(UpdS.refl _ _),(by simp only [S0,S1]<;>rfl)⟩
  ·refine sV (Ag (o':=2) HV rfl rfl) ?_ (hw:=wgT rfl e0a)
   refine sV (Af BJ rfl (Bx.cell (q5a.ext E6a) rfl)) ?_ (hw:=wgT rfl e0a)
   obtain ⟨r9a,h0f,f1f⟩:=Ab f9e
   refine sc (Ad OQ (by rfl)) (Ja x0.Den A4 c5 w2 (tbx X8a hT) (n6.ext X8a) r9a h0f) ?_ (hw:=wgT rfl e0a)
   rintro _ w3 E2f rfl
   refine nrm ?_
   refine sb (Fv rfl) ?_ (hw:=wgT rfl e0a)
   intro z1b hz1b
   refine nrm ?_
   refine sV (Aw (evb rfl e0a) rfl) ?_
   obtain rfl:z1b=decide (¬(r9a=true)):=bz hz1b
   obtain rfl:=sj f1f
   exact HJ39 _ _ ⟨(.pointer (some ⟨b8,2,none⟩)),(.slice A4 x0.Den.length c5),(.bool r9a),(.bool (decide (¬(r9a=true)))),((UpdS.refl _ _).ext E2f),(by simp only [S0,S1]<;>rfl)⟩
 ·rintro l' w3 ⟨t8b,t9b,t0c,t1c,U0b,hq'⟩ l'' hl
  rw [hq'] at hl
  clear hq'
  simp only [S0,S1] at hl
  subst hl
  have X7a:=KR X8a U0b (X8a).size al0
  refine sV (Aa rfl) ?_
  obtain ⟨m3f,h4f,f5f⟩:=Ab f7e
  refine Bm 16 (fun l l' w'=>∃(t2c:Value) (t3c:Value) (t4c:Value) (t5c:Value),w3=w'∧l'=(((((l.set 16 t2c).set 17 t3c).set 18 t4c).set 19 t5c).set 20 (.bool m3f))) ?_ ?_
  ·intro HJ66
   rcases zb h4f with ⟨e1a,f6f⟩ | ⟨e1a,f7f⟩
   ·refine sP ?_ (hw:=wgF rfl e1a)
    refine sP ?_ (hw:=wgF rfl e1a)
    refine sP ?_ (hw:=wgF rfl e1a)
    refine sP ?_ (hw:=wgF rfl e1a)
    refine sV (Ar (evb rfl e1a) rfl) ?_
    obtain rfl:=sj f6f
    exact HJ66 _ _ ⟨uu,uu,uu,uu,rfl,(by simp only [S0,S1]<;>rfl)⟩
   ·refine sV (Ag (o':=2) HV rfl rfl) ?_ (hw:=wgT rfl e1a)
    refine sV (Af BJ rfl (Bx.cell ((q5a.ext E6a).updS U0b nm0) rfl)) ?_ (hw:=wgT rfl e1a)
    refine sV (Ax AH rfl) ?_ (hw:=wgT rfl e1a)
    refine sb (Bl rfl rfl) ?_ (hw:=wgT rfl e1a)
    intro z2b hz2b
    refine nrm ?_
    refine sV (Aw (evb rfl e1a) rfl) ?_
    obtain rfl:z2b=decide ((x0.Den.length:Int)=0):=bz hz2b
    obtain rfl:=sj f7f
    exact HJ66 _ _ ⟨(.pointer (some ⟨b8,2,none⟩)),(.slice A4 x0.Den.length c5),(.int .i64 (x0.Den.length:Int)),(.bool (decide ((x0.Den.length:Int)=0))),rfl,(by simp only [S0,S1]<;>rfl)⟩
  ·rintro l' _ ⟨t2c,t3c,t4c,t5c,rfl,hq'⟩ l'' hl
   rw [hq'] at hl
   clear hq'
   simp only [S0,S1] at hl
   subst hl
   refine wh h1e ?_
   rcases zb f5f with ⟨e3b,f8f⟩ | ⟨e3b,f9f⟩
   ·refine wp_cond_true (Ai (evb rfl e3b))<|wp_seq_k fun _ h0g=>Ae<|sV (Ac rfl) ?_
    refine wh h0g<|wp_ret ?_
    obtain rfl:=sj f8f
    exact fin rfl (Res.tmp rfl Res.nil) (Aj X7a rfl)
   ·refine wp_cond_false (Ai (evb rfl e3b))<|wp_skip<|h0e _ _<|wp_seq_k fun _ h1g=>Ae<|sV3 (Ag (o':=0) IE rfl rfl) (Ag (o':=1) Bf rfl rfl) (Af BJ rfl (Bx.cell ((q5a.ext E6a).updS U0b nm0) rfl)) ?_
    refine sV2 (Ag (o':=2) HV rfl rfl) (Af BJ rfl (Bx.cell ((q5a.ext E6a).updS U0b nm0) rfl)) ?_
    obtain ⟨m6c,h2g,f3g⟩:=Ab f9f
    have hx7c:=BO h2g
    have n4g:RU w3 A1 c2 m6c:=by unfold RU;rw [hx7c];exact (n3.ext X7a)
    obtain ⟨m8c,h5g,f6g⟩:=Ab f3g
    have hx9c:=BO h5g
    have n7g:RU w3 A4 c5 m8c:=by unfold RU;rw [hx9c];exact (n6.ext X7a)
    obtain ⟨r4a,h8g,f9g⟩:=Ab f6g
    refine sc (Ad en_209 (by simp only [sz,hx7c,hx9c];rfl)) (c_nat_Gcd m6c m8c A1 c2 A4 c5 w3 (tbx X7a hT) n4g n7g r4a h8g) ?_
    rintro _ w4 E0h ⟨A0d,c1d,rfl,n1h⟩
    refine nrm ?_
    have X2h:=xtr X7a E0h
    refine sV3 (Aa rfl) (Av rfl rfl) (Av rfl rfl) ?_
    refine sV2 (Ac rfl) (Ac rfl) ?_
    refine wh h1g<|wp_seq_k fun _ h3h=>Ae<|sV (Aa rfl) ?_
    refine sb (Bl rfl rfl) fun z2d hz2d=>?_
    refine nrm ?_
    refine sV (Aa rfl) ?_
    obtain ⟨m4h,h5h,f6h⟩:=Ab f9g
    refine Bm 7 (fun l l' w'=>∃(t3d:Value) (t4d:Value) (t5d:Value),w4=w'∧l'=((((l.set 33 t3d).set 34 t4d).set 35 t5d).set 36 (.bool m4h))) ?_ ?_
    ·intro HJ118
     rcases zi hz2d h5h with ⟨e3a,_,f7h⟩ | ⟨e3a,_,f8h⟩
     ·refine sV (Aa rfl) ?_ (hw:=wgT rfl e3a)
      refine sV (Ax AH rfl) ?_ (hw:=wgT rfl e3a)
      refine sb (Bl rfl rfl) ?_ (hw:=wgT rfl e3a)
      intro z4b hz4b
      refine nrm ?_
      refine sV (Ar (evb rfl e3a) rfl) ?_
      obtain rfl:z4b=decide ((sz r4a.1:Int)=1):=bz hz4b
      obtain rfl:=sj f7h
      exact HJ118 _ _ ⟨(.slice A0d (sz r4a.1) c1d),(.int .i64 (sz r4a.1:Int)),(.bool (decide ((sz r4a.1:Int)=1))),rfl,(by simp only [S0,S1]<;>rfl)⟩
     ·refine sP ?_ (hw:=wgF rfl e3a)
      refine sP ?_ (hw:=wgF rfl e3a)
      refine sP ?_ (hw:=wgF rfl e3a)
      refine sV (Aw (evb rfl e3a) rfl) ?_
      obtain rfl:=sj f8h
      exact HJ118 _ _ ⟨uu,uu,uu,rfl,(by simp only [S0,S1]<;>rfl)⟩
    ·rintro l' _ ⟨t3d,t4d,t5d,rfl,hq'⟩ l'' hl
     rw [hq'] at hl
     clear hq'
     simp only [S0,S1] at hl
     subst hl
     refine sV (Aa rfl) ?_
     obtain ⟨m9h,h0i,f1i⟩:=Ab f6h
     refine Bm 13 (fun l l' w'=>∃(t6d:Value) (t7d:Value) (t8d:Value) (t9d:Value),w4=w'∧l'=(((((l.set 38 t6d).set 39 t7d).set 40 t8d).set 41 t9d).set 42 (.bool m9h))) ?_ ?_
     ·intro HJ149
      rcases zb h0i with ⟨e2a,f2i⟩ | ⟨e2a,f3i⟩
      ·refine sV (Aa rfl) ?_ (hw:=wgT rfl e2a)
       obtain ⟨u5b,h4i,f5i⟩:=Ab f2i
       obtain ⟨bb158,oo159,hA6i,ia7i,ib8i,hc161⟩:=RL.nth n1h h4i
       refine sV (As AH An rfl rfl hA6i ia7i ib8i) ?_ (hw:=wgT rfl e2a)
       refine sV (Af AQ rfl hc161) ?_ (hw:=wgT rfl e2a)
       refine sb (Bl rfl rfl) ?_ (hw:=wgT rfl e2a)
       intro z6b hz6b
       refine nrm ?_
       refine sV (Ar (evb rfl e2a) rfl) ?_
       obtain rfl:z6b=decide (u5b=1):=bz hz6b
       obtain rfl:=sj f5i
       exact HJ149 _ _ ⟨(.slice A0d (sz r4a.1) c1d),(.pointer (some ⟨bb158,oo159+(0:Int).toNat,none⟩)),(.int .u32 u5b),(.bool (decide (u5b=1))),rfl,(by simp only [S0,S1]<;>rfl)⟩
      ·refine sP ?_ (hw:=wgF rfl e2a)
       refine sP ?_ (hw:=wgF rfl e2a)
       refine sP ?_ (hw:=wgF rfl e2a)
       refine sP ?_ (hw:=wgF rfl e2a)
       refine sV (Aw (evb rfl e2a) rfl) ?_
       obtain rfl:=sj f3i
       exact HJ149 _ _ ⟨uu,uu,uu,uu,rfl,(by simp only [S0,S1]<;>rfl)⟩
     ·rintro l' _ ⟨t6d,t7d,t8d,t9d,rfl,hq'⟩ l'' hl
      rw [hq'] at hl
      clear hq'
      simp only [S0,S1] at hl
      subst hl
      refine sV (Ac rfl) ?_
      refine wh h3h<|wp_ret ?_
      obtain rfl:=sj f1i
      exact fin rfl (Res.tmp rfl Res.nil) (Aj X2h rfl)
theorem c_dyad_ratOf (x0:Cz) (A1:Option Addr) (c2:Nat) (A4:Option Addr) (c5:Nat) (w:World) (hT:TB w) (n3:RU w A1 c2 x0.Num.Abs) (n6:RU w A4 c5 x0.Den) (r:Am × Am) (hr:Ir x0=some r) :
  Calls Tryz.prog 142 #[.agg #[.bool x0.Num.Neg,.slice A1 (sz x0.Num.Abs) c2,.slice A4 (sz x0.Den) c5]] w (Ret rep_119_119 w r):=by
 unfold Ir at hr
 go_enter Tryz.func142,Tryz.ntmps142
 refine wp_seq_k fun _ h7=>Ae<|Bu rfl rfl fun b8 w1 E9 g2f q3b=>?_
 refine nrm ?_
 refine AA Bn fun b3f w2 E7a g0c q4b=>?_
 refine nrm ?_
 have g1c:=nlt E9.size g0c
 have X5b:=xtr E9 E7a
 refine AA Bn fun b4f w3 E2a g6b q2c=>?_
 refine nrm ?_
 have g3c:=nlt X5b.size g6b
 have X4c:=xtr X5b E2a
 refine wh h7<|wp_seq_k fun _ h5c=>Dn [8,9] 10 mo rfl fun w4 E0a S8a=>have X9a:=xtr X4c E0a;dA 0 rfl (fun _=>Ag (o':=0) IE rfl rfl) ?_
 refine dV 1 rfl (fun _ hw=>AL Dq rfl ((((q3b.ext E7a).ext E2a).ext E0a).ext hw) (by simp only [List.drop_zero,List.take_succ_cons,List.take_zero];rfl) rfl) S8a ?_
 refine dA 4 rfl (fun _=>Ag (o':=2) HV rfl rfl) ?_
 refine dV 5 rfl (fun _ hw=>Af BJ rfl (Bx.cell ((((q3b.ext E7a).ext E2a).ext E0a).ext hw) rfl)) S8a ?_
 refine dA 6 rfl (fun _=>Bb (vals:=[(1,.slice A4 (sz x0.Den) c5)]) (cells:=[.bool false,.slice A4 (sz x0.Den) c5]) (by rfl) (by kernel_rfl)) ?_
 obtain ⟨r7b,h6c,f7c⟩:=Ab hr
 refine dc 2 rfl (by kernel_rfl) (by rfl) (Ad OH (by rfl)) (Lq x0.Num A1 c2 w4 (tbx X9a hT) (n3.ext X9a) r7b h6c) ?_
 rintro _ w5 E3a ⟨A8c,c9c,rfl,n0d⟩
 refine dnrm ?_
 have X8b:=xtr X9a E3a
 have S1d:=S8a.trans E3a
 obtain ⟨r2d,h3d,f4d⟩:=Ab f7c
 refine dc 3 rfl (by kernel_rfl) (by rfl) (Ad LN (by rfl)) (Gz r7b 0 A8c c9c w5 (tbx X8b hT) n0d r2d h3d) ?_
 rintro _ w6 E4a ⟨A5d,c6d,rfl,n7d⟩
 refine dnrm ?_
 have X0b:=xtr X8b E4a
 have S8d:=S1d.trans E4a
 obtain ⟨r9d,h0e,f1e⟩:=Ab f4d
 refine dc 7 rfl (by kernel_rfl) (by rfl) (Ad LN (by rfl)) (Gz (⟨false,x0.Den⟩:Ah) 0 A4 c5 w6 (tbx X0b hT) (n6.ext X0b) r9d h0e) ?_
 rintro _ w7 E1a ⟨A2e,c3e,rfl,n4e⟩
 refine dnrm ?_
 have X5e:=xtr X0b E1a
 have S5f:=S8d.trans E1a
 have q1b:=((((q4b.ext E2a).ext E0a).ext E3a).ext E4a).ext E1a
 refine dkk 8 CL q1b fun w8 U5a q6e=>?_
 have X7e:=belU X5e U5a g1c
 have ne9b:=(Bx.ne q4b g6b).symm
 have q2b:=((((q2c.ext E0a).ext E3a).ext E4a).ext E1a).upd U5a ne9b
 refine dkk 9 CL q2b fun w9 U6a q8e=>?_
 have X9e:=belU X7e U6a g3c
 refine Cn (by kernel_rfl) ?_
 refine h5c _ _<|wp_ret ?_
 have n0f:=((n7d.ext E1a).upd U5a q1b (by decide)).upd U6a q2b (by decide)
 have n1f:=(n4e.upd U5a q1b (by decide)).upd U6a q2b (by decide)
 obtain rfl:=sj f1e
 exact fin rfl (Res.cellN rfl AN (q6e.upd U6a (Ne.symm ne9b)) rfl rfl (Res.cellN rfl AN q8e rfl rfl Res.nil)) (Aj X9e ⟨A5d,c6d,A2e,c3e,rfl,n0f,n1f⟩)
theorem Jg (x0:FV) (A1:Option Addr) (c2:Nat) (A4:Option Addr) (c5:Nat) (w:World) (hT:TB w) (n3:RLu w A1 c2 x0.Num.Abs) (n6:RLu w A4 c5 x0.Den) (r:Bool) (hr:Ek x0=some r) :
  Calls Tryz.prog 57 #[.agg #[.bool x0.Num.Neg,.slice A1 x0.Num.Abs.length c2,.slice A4 x0.Den.length c5]] w (Ret Gq w r):=by
 unfold Ek at hr
 go_enter Tryz.func57,Tryz.ntmps57
 refine wp_seq_k fun _ h7=>Ae<|Bu rfl rfl fun b8 w1 E9 g3h q2a=>?_
 refine nrm ?_
 refine sV (Ac rfl) ?_
 refine wh h7<|wp_seq_k fun _ h9c=>wp_seq_k fun _ h0d=>Ae<|sV2 (Ag (o':=0) IE rfl rfl) (AL Dq rfl q2a (by simp only [List.drop_zero,List.take_succ_cons,List.take_zero];rfl) rfl) ?_
 obtain ⟨r1d,h2d,f3d⟩:=Ab hr
 refine sc (Ad Ra (by rfl)) (Ig x0.Num A1 c2 w1 (tbx E9 hT) (n3.ext E9) r1d h2d) ?_
 rintro _ w2 E3a rfl
 refine nrm ?_
 have X5a:=xtr E9 E3a
 refine sb (Fv rfl) fun z1b hz1b=>?_
 refine nrm ?_
 refine sV (Aa rfl) ?_
 obtain ⟨m4d,h5d,f6d⟩:=Ab f3d
 refine Bm 10 (fun l l' w'=>∃(t2b:Value) (t3b:Value) (t4b:Value) (t5b:Value),UpdS [] w2 w'∧l'=(((((l.set 8 t2b).set 9 t3b).set 10 t4b).set 11 t5b).set 12 (.bool m4d))) ?_ ?_
 ·intro HJ39
  rcases zi hz1b h5d with ⟨e0a,_,f7d⟩ | ⟨e0a,_,f8d⟩
  ·refine sP ?_ (hw:=wgF rfl e0a)
   refine sP ?_ (hw:=wgF rfl e0a)
   refine sP ?_ (hw:=wgF rfl e0a)
   refine sP ?_ (hw:=wgF rfl e0a)
   refine sV (Ar (evb rfl e0a) rfl) ?_
   obtain rfl:=sj f7d
   exact HJ39 _ _ ⟨uu,uu,uu,uu,(UpdS.refl _ _),(by simp only [S0,S1]<;>rfl)⟩
  ·refine sV (Ag (o':=2) HV rfl rfl) ?_ (hw:=wgT rfl e0a)
   refine sV (Af BJ rfl (Bx.cell (q2a.ext E3a) rfl)) ?_ (hw:=wgT rfl e0a)
   obtain ⟨r6a,h9d,f0e⟩:=Ab f8d
   refine sc (Ad Qh (by rfl)) (Gu x0.Den A4 c5 w2 (tbx X5a hT) (n6.ext X5a) r6a h9d) ?_ (hw:=wgT rfl e0a)
   rintro _ w3 E1e rfl
   refine nrm ?_
   refine sb (Fv rfl) ?_ (hw:=wgT rfl e0a)
   intro z8a hz8a
   refine nrm ?_
   refine sV (Aw (evb rfl e0a) rfl) ?_
   obtain rfl:z8a=decide (¬(r6a=true)):=bz hz8a
   obtain rfl:=sj f0e
   exact HJ39 _ _ ⟨(.pointer (some ⟨b8,2,none⟩)),(.slice A4 x0.Den.length c5),(.bool r6a),(.bool (decide (¬(r6a=true)))),((UpdS.refl _ _).ext E1e),(by simp only [S0,S1]<;>rfl)⟩
 ·rintro l' w3 ⟨t2b,t3b,t4b,t5b,U7a,hq'⟩ l'' hl
  rw [hq'] at hl
  clear hq'
  simp only [S0,S1] at hl
  subst hl
  have X4a:=KR X5a U7a (X5a).size al0
  refine sV (Aa rfl) ?_
  obtain ⟨m2e,h3e,f4e⟩:=Ab f6d
  refine Bm 16 (fun l l' w'=>∃(t6b:Value) (t7b:Value) (t8b:Value) (t9b:Value),w3=w'∧l'=(((((l.set 14 t6b).set 15 t7b).set 16 t8b).set 17 t9b).set 18 (.bool m2e))) ?_ ?_
  ·intro HJ66
   rcases zb h3e with ⟨e1a,f5e⟩ | ⟨e1a,f6e⟩
   ·refine sP ?_ (hw:=wgF rfl e1a)
    refine sP ?_ (hw:=wgF rfl e1a)
    refine sP ?_ (hw:=wgF rfl e1a)
    refine sP ?_ (hw:=wgF rfl e1a)
    refine sV (Ar (evb rfl e1a) rfl) ?_
    obtain rfl:=sj f5e
    exact HJ66 _ _ ⟨uu,uu,uu,uu,rfl,(by simp only [S0,S1]<;>rfl)⟩
   ·refine sV (Ag (o':=2) HV rfl rfl) ?_ (hw:=wgT rfl e1a)
    refine sV (Af BJ rfl (Bx.cell ((q2a.ext E3a).updS U7a nm0) rfl)) ?_ (hw:=wgT rfl e1a)
    refine sV (Ax AH rfl) ?_ (hw:=wgT rfl e1a)
    refine sb (Bl rfl rfl) ?_ (hw:=wgT rfl e1a)
    intro z9a hz9a
    refine nrm ?_
    refine sV (Aw (evb rfl e1a) rfl) ?_
    obtain rfl:z9a=decide ((x0.Den.length:Int)=0):=bz hz9a
    obtain rfl:=sj f6e
    exact HJ66 _ _ ⟨(.pointer (some ⟨b8,2,none⟩)),(.slice A4 x0.Den.length c5),(.int .i64 (x0.Den.length:Int)),(.bool (decide ((x0.Den.length:Int)=0))),rfl,(by simp only [S0,S1]<;>rfl)⟩
  ·rintro l' _ ⟨t6b,t7b,t8b,t9b,rfl,hq'⟩ l'' hl
   rw [hq'] at hl
   clear hq'
   simp only [S0,S1] at hl
   subst hl
   refine wh h0d ?_
   rcases zb f4e with ⟨e0b,f7e⟩ | ⟨e0b,f8e⟩
   ·refine wp_cond_true (Ai (evb rfl e0b))<|wp_seq_k fun _ h9e=>Ae<|sV (Ac rfl) ?_
    refine wh h9e<|wp_ret ?_
    obtain rfl:=sj f7e
    exact fin rfl (Res.tmp rfl Res.nil) (Aj X4a rfl)
   ·refine wp_cond_false (Ai (evb rfl e0b))<|wp_skip<|h9c _ _<|wp_seq_k fun _ h0f=>Ae<|sV3 (Ag (o':=0) IE rfl rfl) (Ag (o':=1) Bf rfl rfl) (Af BJ rfl (Bx.cell ((q2a.ext E3a).updS U7a nm0) rfl)) ?_
    refine sV2 (Ag (o':=2) HV rfl rfl) (Af BJ rfl (Bx.cell ((q2a.ext E3a).updS U7a nm0) rfl)) ?_
    obtain ⟨m0c,h1f,f2f⟩:=Ab f8e
    have hx1c:=BO h1f
    have n3f:RU w3 A1 c2 m0c:=by unfold RU;rw [hx1c];exact (n3.ext X4a)
    obtain ⟨m2c,h4f,f5f⟩:=Ab f2f
    have hx3c:=BO h4f
    have n6f:RU w3 A4 c5 m2c:=by unfold RU;rw [hx3c];exact (n6.ext X4a)
    obtain ⟨r4c,h7f,f8f⟩:=Ab f5f
    refine sc (Ad QA (by simp only [sz,hx1c,hx3c];rfl)) (JJ m0c m2c A1 c2 A4 c5 w3 (tbx X4a hT) n3f n6f r4c h7f) ?_
    rintro _ w4 E9f ⟨A0g,c1g,rfl,n2g⟩
    refine nrm ?_
    have X5c:=xtr X4a E9f
    obtain ⟨r6c,h3g,f4g⟩:=Ab f8f
    refine sc (Ad Nl (by rfl)) (FS w4 (tbx X5c hT)  r6c h3g) ?_
    rintro _ w5 E7c ⟨A5g,c6g,rfl,n7g⟩
    refine nrm ?_
    have X8c:=xtr X5c E7c
    obtain ⟨r8g,h9g,f0h⟩:=Ab f4g
    refine sc (Ad OI (by rfl)) (Fx (limbs r4c) (limbs r6c) A0g c1g A5g c6g w5 (tbx X8c hT) (n2g.ext E7c) n7g r8g h9g) ?_
    rintro _ w6 E1h rfl
    refine nrm ?_
    have X2h:=xtr X8c E1h
    refine sV (Ac rfl) ?_
    refine wh h0f<|wp_ret ?_
    obtain rfl:=sj f0h
    exact fin rfl (Res.tmp rfl Res.nil) (Aj X2h rfl)
theorem Gw (b b':Nat) (v0:Value) (u:Value) (n:Int) {w:World} (qa:Bx w b 3 [v0]) (qb:Bx w b' 33 [u]) :
  CallsD Tryz.prog 119 #[.pointer (some ⟨b,0,none⟩),.pointer (some ⟨b',0,none⟩)] (.panicking [entry 201 n]) w fun e u' w'=>e = .returned (.tuple #[])∧u' = .panicking [{ entry 201 n with recovered:=true }]∧(Upd2 b b' w w'∧Bx w' b 3 [.int .i64 0]∧Bx w' b' 33 [.int .i64 n]):=by
 refine Kh Tryz.func119 rfl [.pointer (some ⟨b,0,none⟩),.pointer (some ⟨b',0,none⟩),uu,uu,uu,uu,uu,uu,uu,uu,uu,uu,uu,uu,uu,uu,uu,uu,uu,uu,uu,uu,uu,uu,uu,uu] (by simp [Tryz.ntmps119]) fun c₀ cs hu=>?_
 apply wpS_seq
 refine QW hu rfl ?_
 simp only [S0,S1]
 refine wpS_of_wp<|wp_seq_k fun _ h1=>Ae<|sV2 (Aa rfl) (LY LG rfl) ?_
 refine wh h1<|wp_cond_true (Ai (evb rfl rfl))<|wp_seq_k fun _ h2=>Ae<|sV3 (Aa rfl) (Lv Nn rfl) (Aa rfl) ?_
 refine sV2 (Av rfl rfl) (Av rfl rfl) ?_
 refine AA NM fun b3 w1 E4 g5 q6=>?_
 refine nrm ?_
 have X7:=(Upd2.refl b b' w).ext E4
 refine ss NP q6 fun w2 U8 q9=>?_
 have X7a:=X7.upd U8 (.inl g5)
 refine sV (Ac rfl) ?_
 refine wh h2<|wp_seq_k fun _ h8a=>wp_seq_k fun _ h9a=>Ae<|sV2 (Aa rfl) (Mu rfl rfl rfl) ?_
 refine wh h9a<|wp_cond_false (Ai (evb rfl rfl))<|wp_skip<|h8a _ _<|wp_seq_k fun _ h0b=>Ae<|sV (Ac rfl) ?_
 refine wh h0b<|Dn [6,8] 9 mo rfl fun w3 E0a S2c=>have X1b:=X7a.ext E0a;dA 0 rfl (fun _=>Aa rfl) ?_
 refine dA 1 rfl (fun _=>Aa rfl) ?_
 refine dA 2 rfl (fun _=>Aa rfl) ?_
 refine dA 3 rfl (fun _=>Ag (o':=0) Mj rfl rfl) ?_
 refine dA 5 rfl (fun _=>BE rfl) ?_
 refine IN #[true,true,true,true,true,true,true,false,false] 2 (fun l l' w'=>UpdS [b] w3 w'∧Bx w' b 3 [.int .i64 0]∧l'=(l.set 23 (.int .i64 n))) ?_ ?_
 ·intro HJ31
  refine Hz 4 6 (by kernel_rfl) ?_ ?_
  ·refine opV 4 rfl (by rfl) (Af Dy rfl (Bx.cell (q9.ext E0a) rfl)) (dnrm ?_)
   refine Dl 6 (by kernel_rfl) ?_
   ·have F2b:=belU E4 U8 g5
    refine opK 6 rfl (by decide) (by rfl) Qt rfl rfl ((qa.ext F2b).ext E0a) rfl rfl rfl rfl (by simp only [SP0,SP1,S0,S1,Nat.reduceAdd];rfl) fun w4 U3b q4b=>?_
    exact EL (by kernel_rfl) (HJ31 _ _ ⟨((UpdS.refl _ _).upd U3b (.inl im0)),q4b,(by simp only [S0,S1]<;>rfl)⟩)
  ·have F2a:=belU E4 U8 g5
   refine opK 6 rfl (by decide) (by rfl) Qt rfl rfl ((qa.ext F2a).ext E0a) rfl rfl rfl rfl (by simp only [SP0,SP1,S0,S1,Nat.reduceAdd];rfl) fun w4 U3a q5b=>?_
   refine Dl 4 (by kernel_rfl) ?_
   ·have ne6b:=(Bx.neT (q9.ext E0a) ((qa.ext F2a).ext E0a) (by decide))
    refine opV 4 rfl (by rfl) (Af Dy rfl (Bx.cell ((q9.ext E0a).upd U3a ne6b) rfl)) (dnrm ?_)
    exact EL (by kernel_rfl) (HJ31 _ _ ⟨((UpdS.refl _ _).upd U3a (.inl im0)),q5b,(by simp only [S0,S1]<;>rfl)⟩)
 ·rintro l' w4 ⟨U4a,q7b,hq'⟩ l'' hl
  rw [hq'] at hl
  clear hq'
  simp only [S0,S1] at hl
  subst hl
  have X8b:=X1b.updS U4a (alc (.inr (.inl rfl)) al0)
  refine dA 7 rfl (fun _=>BE rfl) ?_
  have F1a:=belU E4 U8 g5
  have ne5a:=(Bx.neT ((qb.ext F1a).ext E0a) ((qa.ext F1a).ext E0a) (by decide))
  have q9b:=((qb.ext F1a).ext E0a).updS U4a (nmc ne5a nm0)
  refine dkk 8 HU q9b fun w5 U6a q0c=>?_
  have X1c:=X8b.upd U6a (.inr (.inr rfl))
  refine Cn (by kernel_rfl) ?_
  exact QV (by kernel_rfl) ⟨rfl,rfl,X1c,(q7b.upd U6a (Ne.symm ne5a)),q0c⟩
theorem Hx:Qj Tryz.prog 119:=by
 intro ar b b' w ha
 subst ha
 refine Kh Tryz.func119 rfl [.pointer (some ⟨b,0,none⟩),.pointer (some ⟨b',0,none⟩),uu,uu,uu,uu,uu,uu,uu,uu,uu,uu,uu,uu,uu,uu,uu,uu,uu,uu,uu,uu,uu,uu,uu,uu] (by simp [Tryz.ntmps119]) fun c₀ cs hu=>?_
 apply wpS_seq
 refine Qy hu rfl ?_
 simp only [S0,S1]
 refine wpS_of_wp<|wp_seq_k fun _ h1=>Ae<|sV2 (Aa rfl) (Km LG rfl) ?_
 refine wh h1<|wp_cond_false (Ai (evb rfl rfl))<|wp_skip ?_
 exact PN hu (by kernel_rfl) ⟨rfl,rfl,rfl⟩
theorem c_dyad_Cmp (x0:Ap) (x1:Ap) (A1:Option Addr) (c2:Nat) (A4:Option Addr) (c5:Nat) (w:World) (hT:TB w) (n3:RLu w A1 c2 x0.Man.Abs) (n6:RLu w A4 c5 x1.Man.Abs) (r:Int × Int) (hr:HA x0 x1=some r) :
  Calls Tryz.prog 41 #[.agg #[.bool x0.Man.Neg,.slice A1 x0.Man.Abs.length c2,.int .i64 x0.Exp],.agg #[.bool x1.Man.Neg,.slice A4 x1.Man.Abs.length c5,.int .i64 x1.Exp]] w (Ret MX w r):=by
 unfold HA at hr
 obtain ⟨q0,hq0,hr0⟩:=Ab hr
 unfold JW at hq0
 go_enter_defers Tryz.func41,Tryz.ntmps41
 refine wp_seq_k fun _ h7=>Ae<|Bu rfl rfl fun b8 w1 E9 g0e q5b=>?_
 refine nrm ?_
 refine Bu rfl rfl fun b1e w2 E6b g2e q7b=>?_
 refine nrm ?_
 have g0i:=nlt E9.size g2e
 have X8b:=xtr E9 E6b
 refine AA Rp fun b9b w3 E8a g3e q0c=>?_
 refine nrm ?_
 have g1c:=nlt X8b.size g3e
 have X2c:=xtr X8b E8a
 refine AA JM fun b3c w4 E3a g4e q0b=>?_
 refine nrm ?_
 have g4c:=nlt X2c.size g4e
 have X5c:=xtr X2c E3a
 refine wh h7<|wp_seq_k fun _ h5e=>Ae<|Ic (vs:=[.pointer (some ⟨b9b,0,none⟩),.pointer (some ⟨b3c,0,none⟩)]) (by rfl) (by rfl)<|wh h5e<|wp_seq_k fun _ h6e=>Ae<|have q6c:=((q5b.ext E6b).ext E8a).ext E3a;sV2 (Al Bt rfl q6c rfl) (Al Bt rfl ((q7b.ext E8a).ext E3a) rfl) ?_
 refine Cv (vals:=[(0,.agg #[.bool x0.Man.Neg,.slice A1 x0.Man.Abs.length c2,.int .i64 x0.Exp]),(1,.agg #[.bool x1.Man.Neg,.slice A4 x1.Man.Abs.length c5,.int .i64 x1.Exp])]) (cs:=[.bool x0.Man.Neg,.slice A1 x0.Man.Abs.length c2,.int .i64 x0.Exp,.bool x1.Man.Neg,.slice A4 x1.Man.Abs.length c5,.int .i64 x1.Exp]) LK FA Hm (by rfl) (by decide) (by kernel_rfl) fun b7c w5 E1a g7e q8c=>?_
 refine nrm ?_
 have g1i:=nlt X5c.size g7e
 have X2a:=xtr X5c E1a
 rcases AR hq0 with ⟨r9a,h1b,f8e⟩ | ⟨r9a,h1b,rfl⟩
 ·refine scO (Ad Ki (by rfl)) (KO x0 x1 b7c A1 c2 A4 c5 w5 (tbx X2a hT) (n3.ext X2a) (n6.ext X2a) q8c (.ok r9a) h1b) ?_
  rintro _ w6 E0a rfl
  refine nrm ?_
  have X9e:=xtr X2a E0a
  refine wh h6e<|wp_seq_k fun _ h0f=>Dn [5,6] 7 mo rfl fun w7 E4a S2b=>?_
  have X3b:=xtr X9e E4a
  refine dV 0 rfl (fun _ hw=>Al Bt rfl ((((q6c.ext E1a).ext E0a).ext E4a).ext hw) rfl) S2b ?_ (hQ:=fun _ _ _ h=>dq (rs:=[.cell 4 3,.cell 5 33]) rfl (by decide) h)
  refine dV 2 rfl (fun _ hw=>Al Bt rfl ((((((q7b.ext E8a).ext E3a).ext E1a).ext E0a).ext E4a).ext hw) rfl) S2b ?_ (hQ:=fun _ _ _ h=>dq (rs:=[.cell 4 3,.cell 5 33]) rfl (by decide) h)
  obtain ⟨m9c,h1f,f2f⟩:=Ab f8e
  have hx0d:=BO h1f
  have n3f:RU w7 A1 c2 m9c:=by unfold RU;rw [hx0d];exact (n3.ext X3b)
  obtain ⟨r1d,h4f,f5f⟩:=Ab f2f
  refine dc 1 rfl (by kernel_rfl) (by rfl) (Ad Kw (by simp only [sz,hx0d];rfl)) (HM (⟨(⟨x0.Man.Neg,m9c⟩:Ah),x0.Exp⟩:Ak) A1 c2 w7 (tbx X3b hT) n3f r1d h4f) ?_
  rintro _ w8 E6a ⟨A6f,c7f,rfl,n8f⟩
  refine dnrm ?_
  have X4b:=xtr X3b E6a
  have S9f:=S2b.trans E6a
  obtain ⟨m2d,h0g,f1g⟩:=Ab f5f
  have hx3d:=BO h0g
  have n2g:RU w8 A4 c5 m2d:=by unfold RU;rw [hx3d];exact (n6.ext X4b)
  obtain ⟨r4d,h3g,f4g⟩:=Ab f1g
  refine dc 3 rfl (by kernel_rfl) (by rfl) (Ad Kw (by simp only [sz,hx3d];rfl)) (HM (⟨(⟨x1.Man.Neg,m2d⟩:Ah),x1.Exp⟩:Ak) A4 c5 w8 (tbx X4b hT) n2g r4d h3g) ?_
  rintro _ w9 E5a ⟨A5g,c6g,rfl,n7g⟩
  refine dnrm ?_
  have X5d:=xtr X4b E5a
  have S8g:=S9f.trans E5a
  obtain ⟨r9g,h0h,f1h⟩:=Ab f4g
  refine dc 4 rfl (by kernel_rfl) (by rfl) (Ad JE (by rfl)) (Ds r1d r4d A6f c7f A5g c6g w9 (tbx X5d hT) (n8f.ext E5a) n7g r9g h0h) ?_
  rintro _ w0e E7a rfl
  refine dnrm ?_
  have X2h:=xtr X5d E7a
  have S2i:=S8g.trans E7a
  have q6d:=((((((q0c.ext E3a).ext E1a).ext E0a).ext E4a).ext E6a).ext E5a).ext E7a
  refine dkk 5 Qt q6d fun w5b U7d q3h=>?_
  have X4h:=belU X2h U7d g1c
  have ne8d:=(Bx.neT ((((((q0b.ext E1a).ext E0a).ext E4a).ext E6a).ext E5a).ext E7a) q6d (by decide))
  have q5h:=((((((q0b.ext E1a).ext E0a).ext E4a).ext E6a).ext E5a).ext E7a).upd U7d ne8d
  refine dkk 6 HU q5h fun w1e U9d q6h=>?_
  have X7h:=belU X4h U9d g4c
  refine Cn (by kernel_rfl) ?_
  refine h0f _ _<|wp_ret ?_
  obtain rfl:=sj f1h
  obtain rfl:=sj hr0
  exact Nu Hx KZ rfl (Res.cell1 rfl EN (Bx.cell (q3h.upd U9d (Ne.symm ne8d)) rfl) (Res.cell1 rfl Dy (Bx.cell q6h rfl) Res.nil)) (Aj X7h rfl)
 ·refine scP (Ad Ki (by rfl)) (KO x0 x1 b7c A1 c2 A4 c5 w5 (tbx X2a hT) (n3.ext X2a) (n6.ext X2a) q8c (.error r9a) h1b) fun w6 E0a=>?_
  have X8h:=xtr X2a E0a
  have q9h:=((q0c.ext E3a).ext E1a).ext E0a
  refine JP KZ (Gw b9b b3c (.int .i64 0:Value) (.int .i64 0:Value) r9a q9h ((q0b.ext E1a).ext E0a)) rfl ?_
  rintro w9 ⟨u9,q9,q9'⟩
  obtain rfl:=sj hr0
  exact ⟨_,(Res.cell1 rfl EN (Bx.cell q9 rfl) (Res.cell1 rfl Dy (Bx.cell q9' rfl) Res.nil)),Aj (u9.toExt X8h g1c g4c) rfl⟩
theorem c_dyad_Top (x0:Ap) (A1:Option Addr) (c2:Nat) (w:World) (hT:TB w) (n3:RLu w A1 c2 x0.Man.Abs) (r:Int × Int) (hr:GW x0=some r) :
  Calls Tryz.prog 36 #[.agg #[.bool x0.Man.Neg,.slice A1 x0.Man.Abs.length c2,.int .i64 x0.Exp]] w (Ret MX w r):=by
 unfold GW at hr
 obtain ⟨q0,hq0,hr0⟩:=Ab hr
 unfold JS at hq0
 go_enter_defers Tryz.func36,Tryz.ntmps36
 refine wp_seq_k fun _ h4=>Ae<|Bu rfl rfl fun b5 w1 E6 g7 q8=>?_
 refine nrm ?_
 refine AA Rp fun b9 w2 E5a g3d q2b=>?_
 refine nrm ?_
 have g3b:=nlt E6.size g3d
 have X0c:=xtr E6 E5a
 refine AA JM fun b4b w3 E3a g4d q6a=>?_
 refine nrm ?_
 have g5b:=nlt X0c.size g4d
 have X1c:=xtr X0c E3a
 refine wh h4<|wp_seq_k fun _ h5d=>Ae<|Ic (vs:=[.pointer (some ⟨b9,0,none⟩),.pointer (some ⟨b4b,0,none⟩)]) (by rfl) (by rfl)<|wh h5d<|wp_seq_k fun _ h6d=>Ae<|sV (Al Bt rfl ((q8.ext E5a).ext E3a) rfl) ?_
 refine Cv (vals:=[(0,.agg #[.bool x0.Man.Neg,.slice A1 x0.Man.Abs.length c2,.int .i64 x0.Exp])]) (cs:=[.bool x0.Man.Neg,.slice A1 x0.Man.Abs.length c2,.int .i64 x0.Exp]) LK FA Hm (by rfl) (by decide) (by kernel_rfl) fun b2c w4 E1a g7d q3c=>?_
 refine nrm ?_
 have g4g:=nlt X1c.size g7d
 have X4a:=xtr X1c E1a
 rcases AR hq0 with ⟨r7a,h6b,f8d⟩ | ⟨r7a,h6b,rfl⟩
 ·refine scO (Ad Ki (by rfl)) (EG x0 b2c A1 c2 w4 (tbx X4a hT) (n3.ext X4a) q3c (.ok r7a) h6b) ?_
  rintro _ w5 E0a rfl
  refine nrm ?_
  have X8a:=xtr X4a E0a
  refine wh h6d<|wp_seq_k fun _ h9d=>Ae<|sV2 (Ag (o':=0) Ey rfl rfl) (Ag (o':=1) Bf rfl rfl) ?_
  have q4c:=(((q8.ext E5a).ext E3a).ext E1a).ext E0a
  refine sV2 (Af BJ rfl (Bx.cell q4c rfl)) (Ax AH rfl) ?_
  refine sb (EX rfl rfl) fun z7b hz7b=>?_
  refine nrm ?_
  obtain rfl:z7b=decide (0<(x0.Man.Abs.length:Int)):=bz hz7b
  rcases AR f8d with ⟨r9a,h8b,f0e⟩ | ⟨r9a,h8b,rfl⟩
  ·refine scO (Ad EI (by rfl)) (Bh (decide (0<(x0.Man.Abs.length:Int))) 5 w5 (tbx X8a hT)  (.ok r9a) h8b) ?_
   rintro _ w6 E2a rfl
   refine nrm ?_
   have X9b:=xtr X8a E2a
   refine wh h9d<|wp_seq_k fun _ h1e=>Ae<|sV (Al Bt rfl (q4c.ext E2a) rfl) ?_
   obtain ⟨m5c,h2e,f3e⟩:=Ab f0e
   have hx6c:=BO h2e
   have n4e:RU w6 A1 c2 m5c:=by unfold RU;rw [hx6c];exact (n3.ext X9b)
   obtain ⟨r7c,h5e,f6e⟩:=Ab f3e
   refine sc (Ad Kw (by simp only [sz,hx6c];rfl)) (HM (⟨(⟨x0.Man.Neg,m5c⟩:Ah),x0.Exp⟩:Ak) A1 c2 w6 (tbx X9b hT) n4e r7c h5e) ?_
   rintro _ w7 E0b ⟨A7e,c8e,rfl,n9e⟩
   refine nrm ?_
   have X8c:=xtr X9b E0b
   obtain ⟨r0f,h1f,f2f⟩:=Ab f6e
   refine sc (Ad Pi (by rfl)) (JB r7c A7e c8e w7 (tbx X8c hT) n9e r0f h1f) ?_
   rintro _ w8 E1b rfl
   refine nrm ?_
   have X3f:=xtr X8c E1b
   have q9c:=(((((q2b.ext E3a).ext E1a).ext E0a).ext E2a).ext E0b).ext E1b
   refine ss Qt q9c fun w9 U0d q4f=>?_
   have X5f:=belU X3f U0d g3b
   have ne1d:=(Bx.neT (((((q6a.ext E1a).ext E0a).ext E2a).ext E0b).ext E1b) q9c (by decide))
   have q6f:=(((((q6a.ext E1a).ext E0a).ext E2a).ext E0b).ext E1b).upd U0d ne1d
   refine ss HU q6f fun w5a U2d q7f=>?_
   have X8f:=belU X5f U2d g5b
   refine wh h1e<|wp_ret ?_
   obtain rfl:=sj f2f
   obtain rfl:=sj hr0
   exact Nu Hx KZ rfl (Res.cell1 rfl EN (Bx.cell (q4f.upd U2d (Ne.symm ne1d)) rfl) (Res.cell1 rfl Dy (Bx.cell q7f rfl) Res.nil)) (Aj X8f rfl)
  ·refine scP (Ad EI (by rfl)) (Bh (decide (0<(x0.Man.Abs.length:Int))) 5 w5 (tbx X8a hT)  (.error r9a) h8b) fun w6 E2a=>?_
   have X9f:=xtr X8a E2a
   have q0g:=(((q2b.ext E3a).ext E1a).ext E0a).ext E2a
   have q1g:=((q6a.ext E1a).ext E0a).ext E2a
   refine JP KZ (Gw b9 b4b (.int .i64 0:Value) (.int .i64 0:Value) r9a q0g q1g) rfl ?_
   rintro w9 ⟨u9,q9,q9'⟩
   obtain rfl:=sj hr0
   exact ⟨_,(Res.cell1 rfl EN (Bx.cell q9 rfl) (Res.cell1 rfl Dy (Bx.cell q9' rfl) Res.nil)),Aj (u9.toExt X9f g3b g5b) rfl⟩
 ·refine scP (Ad Ki (by rfl)) (EG x0 b2c A1 c2 w4 (tbx X4a hT) (n3.ext X4a) q3c (.error r7a) h6b) fun w5 E0a=>?_
  have X2g:=xtr X4a E0a
  have q3g:=((q2b.ext E3a).ext E1a).ext E0a
  refine JP KZ (Gw b9 b4b (.int .i64 0:Value) (.int .i64 0:Value) r7a q3g ((q6a.ext E1a).ext E0a)) rfl ?_
  rintro w9 ⟨u9,q9,q9'⟩
  obtain rfl:=sj hr0
  exact ⟨_,(Res.cell1 rfl EN (Bx.cell q9 rfl) (Res.cell1 rfl Dy (Bx.cell q9' rfl) Res.nil)),Aj (u9.toExt X2g g3b g5b) rfl⟩
theorem c_dyad_CmpRat (x0:Ap) (x1:FV) (A1:Option Addr) (c2:Nat) (A4:Option Addr) (c5:Nat) (A7:Option Addr) (c8:Nat) (w:World) (hT:TB w) (n3:RLu w A1 c2 x0.Man.Abs) (n6:RLu w A4 c5 x1.Num.Abs) (n9:RLu w A7 c8 x1.Den) (r:Int × Int) (hr:FI x0 x1=some r) :
  Calls Tryz.prog 81 #[.agg #[.bool x0.Man.Neg,.slice A1 x0.Man.Abs.length c2,.int .i64 x0.Exp],.agg #[.bool x1.Num.Neg,.slice A4 x1.Num.Abs.length c5,.slice A7 x1.Den.length c8]] w (Ret MX w r):=by
 unfold FI at hr
 obtain ⟨q0,hq0,hr0⟩:=Ab hr
 unfold It at hq0
 go_enter_defers Tryz.func81,Tryz.ntmps81
 refine wp_seq_k fun _ h1e=>Ae<|Bu rfl rfl fun b1h w1 E9c g2h q0c=>?_
 refine nrm ?_
 refine Bu rfl rfl fun b2e w2 E1c g3e q4e=>?_
 refine nrm ?_
 have g3h:=nlt E9c.size g3e
 have X5e:=xtr E9c E1c
 refine AA Rp fun b0d w3 E1d g4h q8b=>?_
 refine nrm ?_
 have g2d:=nlt X5e.size g4h
 have X6e:=xtr X5e E1d
 refine AA JM fun b3d w4 E9a g5h q4b=>?_
 refine nrm ?_
 have g4d:=nlt X6e.size g5h
 have X7e:=xtr X6e E9a
 refine wh h1e<|wp_seq_k fun _ h6h=>Ae<|Ic (vs:=[.pointer (some ⟨b0d,0,none⟩),.pointer (some ⟨b3d,0,none⟩)]) (by rfl) (by rfl)<|wh h6h<|wp_seq_k fun _ h7h=>Ae<|have q2c:=((q0c.ext E1c).ext E1d).ext E9a;sV (Al Bt rfl q2c rfl) ?_
 refine Cv (vals:=[(0,.agg #[.bool x0.Man.Neg,.slice A1 x0.Man.Abs.length c2,.int .i64 x0.Exp])]) (cs:=[.bool x0.Man.Neg,.slice A1 x0.Man.Abs.length c2,.int .i64 x0.Exp]) LK FA Hm (by rfl) (by decide) (by kernel_rfl) fun b8e w5 E2a g8h q9e=>?_
 refine nrm ?_
 have g1o:=nlt X7e.size g8h
 have X5b:=xtr X7e E2a
 rcases AR hq0 with ⟨r3c,h5d,f9h⟩ | ⟨r3c,h5d,rfl⟩
 ·refine scO (Ad Ki (by rfl)) (EG x0 b8e A1 c2 w5 (tbx X5b hT) (n3.ext X5b) q9e (.ok r3c) h5d) ?_
  rintro _ w6 E1a rfl
  refine nrm ?_
  have X4c:=xtr X5b E1a
  refine wh h7h<|wp_seq_k fun _ h0i=>Ae<|have q0f:=(((q4e.ext E1d).ext E9a).ext E2a).ext E1a;sV (Al Kl rfl q0f rfl) ?_
  obtain ⟨r6d,h1i,f2i⟩:=Ab f9h
  refine sc (Ad en_141 (by rfl)) (c_ratio_Valid x1 A4 c5 A7 c8 w6 (tbx X4c hT) (n6.ext X4c) (n9.ext X4c) r6d h1i) ?_
  rintro _ w7 E5a rfl
  refine nrm ?_
  have X5c:=xtr X4c E5a
  rcases AR f2i with ⟨r6c,h7d,f3i⟩ | ⟨r6c,h7d,rfl⟩
  ·refine scO (Ad EI (by rfl)) (Bh r6d 1 w7 (tbx X5c hT)  (.ok r6c) h7d) ?_
   rintro _ w8 E3a rfl
   refine nrm ?_
   have X7c:=xtr X5c E3a
   refine wh h0i<|wp_seq_k fun _ h4i=>Ae<|sV (Al Kl rfl ((q0f.ext E5a).ext E3a) rfl) ?_
   obtain ⟨m1f,h5i,f6i⟩:=Ab f3i
   have hx2f:=BO h5i
   have n7i:RU w8 A4 c5 m1f:=by unfold RU;rw [hx2f];exact (n6.ext X7c)
   obtain ⟨m3f,h8i,f9i⟩:=Ab f6i
   have hx4f:=BO h8i
   have n0j:RU w8 A7 c8 m3f:=by unfold RU;rw [hx4f];exact (n9.ext X7c)
   obtain ⟨r8d,h1j,f2j⟩:=Ab f9i
   refine sc (Ad en_142 (by simp only [sz,hx2f,hx4f];rfl)) (c_dyad_ratOf (⟨(⟨x1.Num.Neg,m1f⟩:Ah),m3f⟩:Cz) A4 c5 A7 c8 w8 (tbx X7c hT) n7i n0j r8d h1j) ?_
   rintro _ w9 E7a ⟨A3j,c4j,A5j,c6j,rfl,n7j,n8j⟩
   refine nrm ?_
   have X5f:=xtr X7c E7a
   refine sV3 (Aa rfl) (Av rfl rfl) (Av rfl rfl) ?_
   refine AA Bn fun b2o w1e E6a g9j q1b=>?_
   refine nrm ?_
   have g0k:=nlt X5f.size g9j
   have X6f:=xtr X5f E6a
   refine AA Bn fun b3o w1h E0a g7f q6b=>?_
   refine nrm ?_
   have g1k:=nlt X6f.size g7f
   have X2k:=xtr X6f E0a
   refine ss CL (q1b.ext E0a) fun w9c U4a q3k=>?_
   have X4k:=belU X2k U4a g0k
   have ne2b:=(Bx.ne q1b g7f).symm
   refine ss CL (q6b.upd U4a ne2b) fun w2h U0b q5k=>?_
   have X6k:=belU X4k U0b g1k
   refine wh h4i<|wp_seq_k fun _ h7k=>Dn [6,7] 8 mo rfl fun w0c E8a S8c=>?_
   have X9d:=xtr X6k E8a
   have ne8f:=(Bx.neT (((((((q2c.ext E2a).ext E1a).ext E5a).ext E3a).ext E7a).ext E6a).ext E0a) (q1b.ext E0a) (by decide))
   have ne8k:=(Bx.neT ((((((((q2c.ext E2a).ext E1a).ext E5a).ext E3a).ext E7a).ext E6a).ext E0a).upd U4a ne8f) (q6b.upd U4a ne2b) (by decide))
   refine dV 0 rfl (fun _ hw=>Al Bt rfl (((((((((((q2c.ext E2a).ext E1a).ext E5a).ext E3a).ext E7a).ext E6a).ext E0a).upd U4a ne8f).upd U0b ne8k).ext E8a).ext hw) rfl) S8c ?_ (hQ:=fun _ _ _ h=>dq (rs:=[.cell 4 3,.cell 5 33]) rfl (by decide) h)
   refine dV 2 rfl (fun _ hw=>Al AN rfl ((q5k.ext E8a).ext hw) rfl) S8c ?_ (hQ:=fun _ _ _ h=>dq (rs:=[.cell 4 3,.cell 5 33]) rfl (by decide) h)
   refine dV 4 rfl (fun _ hw=>Al AN rfl (((q3k.upd U0b (Ne.symm ne2b)).ext E8a).ext hw) rfl) S8c ?_ (hQ:=fun _ _ _ h=>dq (rs:=[.cell 4 3,.cell 5 33]) rfl (by decide) h)
   obtain ⟨m9f,h9k,f0l⟩:=Ab f2j
   have hx0g:=BO h9k
   have n1l:RU w0c A1 c2 m9f:=by unfold RU;rw [hx0g];exact (n3.ext X9d)
   obtain ⟨r1g,h2l,f3l⟩:=Ab f0l
   refine dc 1 rfl (by kernel_rfl) (by rfl) (Ad Kw (by simp only [sz,hx0g];rfl)) (HM (⟨(⟨x0.Man.Neg,m9f⟩:Ah),x0.Exp⟩:Ak) A1 c2 w0c (tbx X9d hT) n1l r1g h2l) ?_
   rintro _ w2e E3b ⟨A4l,c5l,rfl,n6l⟩
   refine dnrm ?_
   have X2g:=xtr X9d E3b
   have S7l:=S8c.trans E3b
   have n8l:=(((((n8j.ext E6a).ext E0a).upd U4a (q1b.ext E0a) (by decide)).upd U0b (q6b.upd U4a ne2b) (by decide)).ext E8a).ext E3b
   obtain ⟨r3g,h9l,f0m⟩:=Ab f3l
   refine dc 3 rfl (by kernel_rfl) (by rfl) (Ad OK (by rfl)) (IP r1g r8d.2 A4l c5l A5j c6j w2e (tbx X2g hT) n6l n8l r3g h9l) ?_
   rintro _ w1c E7b ⟨A1m,c2m,rfl,n3m⟩
   refine dnrm ?_
   have X4g:=xtr X2g E7b
   have S4m:=S7l.trans E7b
   have n5m:=((((((n7j.ext E6a).ext E0a).upd U4a (q1b.ext E0a) (by decide)).upd U0b (q6b.upd U4a ne2b) (by decide)).ext E8a).ext E3b).ext E7b
   obtain ⟨r6m,h7m,f8m⟩:=Ab f0m
   refine dc 5 rfl (by kernel_rfl) (by rfl) (Ad JE (by rfl)) (Ds r3g r8d.1 A1m c2m A3j c4j w1c (tbx X4g hT) n3m n5m r6m h7m) ?_
   rintro _ w3e E9b rfl
   refine dnrm ?_
   have X9m:=xtr X4g E9b
   have S4o:=S4m.trans E9b
   have ne5g:=(Bx.neT ((((((((q8b.ext E9a).ext E2a).ext E1a).ext E5a).ext E3a).ext E7a).ext E6a).ext E0a) (q1b.ext E0a) (by decide))
   have ne0n:=(Bx.neT (((((((((q8b.ext E9a).ext E2a).ext E1a).ext E5a).ext E3a).ext E7a).ext E6a).ext E0a).upd U4a ne5g) (q6b.upd U4a ne2b) (by decide))
   have q6g:=(((((((((((((q8b.ext E9a).ext E2a).ext E1a).ext E5a).ext E3a).ext E7a).ext E6a).ext E0a).upd U4a ne5g).upd U0b ne0n).ext E8a).ext E3b).ext E7b).ext E9b
   refine dkk 6 Qt q6g fun w4e U7g q1n=>?_
   have X2n:=belU X9m U7g g2d
   have ne0e:=(Bx.neT (((((((q4b.ext E2a).ext E1a).ext E5a).ext E3a).ext E7a).ext E6a).ext E0a) (q1b.ext E0a) (by decide))
   have ne8g:=(Bx.neT ((((((((q4b.ext E2a).ext E1a).ext E5a).ext E3a).ext E7a).ext E6a).ext E0a).upd U4a ne0e) (q6b.upd U4a ne2b) (by decide))
   have ne9g:=(Bx.neT (((((((((((((q4b.ext E2a).ext E1a).ext E5a).ext E3a).ext E7a).ext E6a).ext E0a).upd U4a ne0e).upd U0b ne8g).ext E8a).ext E3b).ext E7b).ext E9b) q6g (by decide))
   have q3n:=(((((((((((((q4b.ext E2a).ext E1a).ext E5a).ext E3a).ext E7a).ext E6a).ext E0a).upd U4a ne0e).upd U0b ne8g).ext E8a).ext E3b).ext E7b).ext E9b).upd U7g ne9g
   refine dkk 7 HU q3n fun w3h U0h q4n=>?_
   have X5n:=belU X2n U0h g4d
   refine Cn (by kernel_rfl) ?_
   refine h7k _ _<|wp_ret ?_
   obtain rfl:=sj f8m
   obtain rfl:=sj hr0
   exact Nu Hx KZ rfl (Res.cell1 rfl EN (Bx.cell (q1n.upd U0h (Ne.symm ne9g)) rfl) (Res.cell1 rfl Dy (Bx.cell q4n rfl) Res.nil)) (Aj X5n rfl)
  ·refine scP (Ad EI (by rfl)) (Bh r6d 1 w7 (tbx X5c hT)  (.error r6c) h7d) fun w8 E3a=>?_
   have X6n:=xtr X5c E3a
   have q7n:=((((q8b.ext E9a).ext E2a).ext E1a).ext E5a).ext E3a
   have q8n:=(((q4b.ext E2a).ext E1a).ext E5a).ext E3a
   refine JP KZ (Gw b0d b3d (.int .i64 0:Value) (.int .i64 0:Value) r6c q7n q8n) rfl ?_
   rintro w9 ⟨u9,q9,q9'⟩
   obtain rfl:=sj hr0
   exact ⟨_,(Res.cell1 rfl EN (Bx.cell q9 rfl) (Res.cell1 rfl Dy (Bx.cell q9' rfl) Res.nil)),Aj (u9.toExt X6n g2d g4d) rfl⟩
 ·refine scP (Ad Ki (by rfl)) (EG x0 b8e A1 c2 w5 (tbx X5b hT) (n3.ext X5b) q9e (.error r3c) h5d) fun w6 E1a=>?_
  have X9n:=xtr X5b E1a
  have q0o:=((q8b.ext E9a).ext E2a).ext E1a
  refine JP KZ (Gw b0d b3d (.int .i64 0:Value) (.int .i64 0:Value) r3c q0o ((q4b.ext E2a).ext E1a)) rfl ?_
  rintro w9 ⟨u9,q9,q9'⟩
  obtain rfl:=sj hr0
  exact ⟨_,(Res.cell1 rfl EN (Bx.cell q9 rfl) (Res.cell1 rfl Dy (Bx.cell q9' rfl) Res.nil)),Aj (u9.toExt X9n g2d g4d) rfl⟩
theorem JQ (b b':Nat) (v0 v1:Value) (u:Value) (n:Int) {w:World} (qa:Bx w b 25 [v0,v1]) (qb:Bx w b' 33 [u]) :
  CallsD Tryz.prog 167 #[.pointer (some ⟨b,0,none⟩),.pointer (some ⟨b',0,none⟩)] (.panicking [entry 201 n]) w fun e u' w'=>e = .returned (.tuple #[])∧u' = .panicking [{ entry 201 n with recovered:=true }]∧(Upd2 b b' w w'∧Bx w' b 25 [.bool false,.slice none 0 0]∧Bx w' b' 33 [.int .i64 n]):=by
 refine Kh Tryz.func167 rfl [.pointer (some ⟨b,0,none⟩),.pointer (some ⟨b',0,none⟩),uu,uu,uu,uu,uu,uu,uu,uu,uu,uu,uu,uu,uu,uu,uu,uu,uu,uu,uu,uu,uu,uu,uu,uu] (by simp [Tryz.ntmps167]) fun c₀ cs hu=>?_
 apply wpS_seq
 refine QW hu rfl ?_
 simp only [S0,S1]
 refine wpS_of_wp<|wp_seq_k fun _ h1=>Ae<|sV2 (Aa rfl) (LY LG rfl) ?_
 refine wh h1<|wp_cond_true (Ai (evb rfl rfl))<|wp_seq_k fun _ h2=>Ae<|sV3 (Aa rfl) (Lv Nn rfl) (Aa rfl) ?_
 refine sV2 (Av rfl rfl) (Av rfl rfl) ?_
 refine AA NM fun b3 w1 E4 g5 q6=>?_
 refine nrm ?_
 have X7:=(Upd2.refl b b' w).ext E4
 refine ss NP q6 fun w2 U8 q9=>?_
 have X3a:=X7.upd U8 (.inl g5)
 refine sV (Ac rfl) ?_
 refine wh h2<|wp_seq_k fun _ h9a=>wp_seq_k fun _ h0b=>Ae<|sV2 (Aa rfl) (Mu rfl rfl rfl) ?_
 refine wh h0b<|wp_cond_false (Ai (evb rfl rfl))<|wp_skip<|h9a _ _<|wp_seq_k fun _ h1b=>Ae<|AA IJ fun b8c w3 E1a g2b q3b=>?_
 refine nrm ?_
 have g9c:=nlt X3a.size g2b
 have X4b:=X3a.ext E1a
 refine wh h1b<|Dn [6,8] 9 mo rfl fun w4 E0a S5b=>have X6b:=X4b.ext E0a;dA 0 rfl (fun _=>Aa rfl) ?_
 refine dA 1 rfl (fun _=>Aa rfl) ?_
 refine dV 2 rfl (fun _ hw=>Al Dq rfl ((q3b.ext E0a).ext hw) rfl) S5b ?_
 refine dA 3 rfl (fun _=>Ag (o':=0) Mj rfl rfl) ?_
 refine dA 5 rfl (fun _=>BE rfl) ?_
 refine IN #[true,true,true,true,true,true,true,false,false] 2 (fun l l' w'=>UpdS [b] w4 w'∧Bx w' b 25 [.bool false,.slice none 0 0]∧l'=(l.set 23 (.int .i64 n))) ?_ ?_
 ·intro HJ38
  refine Hz 4 6 (by kernel_rfl) ?_ ?_
  ·refine opV 4 rfl (by rfl) (Af Dy rfl (Bx.cell ((q9.ext E1a).ext E0a) rfl)) (dnrm ?_)
   refine Dl 6 (by kernel_rfl) ?_
   ·have F7b:=belU E4 U8 g5
    refine opK 6 rfl (by decide) (by rfl) GU rfl rfl (((qa.ext F7b).ext E1a).ext E0a) rfl rfl rfl rfl (by simp only [SP0,SP1,S0,S1,Nat.reduceAdd];rfl) fun w5 U8b q9b=>?_
    exact EL (by kernel_rfl) (HJ38 _ _ ⟨((UpdS.refl _ _).upd U8b (.inl im0)),q9b,(by simp only [S0,S1]<;>rfl)⟩)
  ·have F4a:=belU E4 U8 g5
   refine opK 6 rfl (by decide) (by rfl) GU rfl rfl (((qa.ext F4a).ext E1a).ext E0a) rfl rfl rfl rfl (by simp only [SP0,SP1,S0,S1,Nat.reduceAdd];rfl) fun w5 U5a q0c=>?_
   refine Dl 4 (by kernel_rfl) ?_
   ·have ne1c:=(Bx.neT ((q9.ext E1a).ext E0a) (((qa.ext F4a).ext E1a).ext E0a) (by decide))
    have q2c:=((q9.ext E1a).ext E0a).upd U5a ne1c
    refine opV 4 rfl (by rfl) (Af Dy rfl (Bx.cell q2c rfl)) (dnrm ?_)
    exact EL (by kernel_rfl) (HJ38 _ _ ⟨((UpdS.refl _ _).upd U5a (.inl im0)),q0c,(by simp only [S0,S1]<;>rfl)⟩)
 ·rintro l' w5 ⟨U6a,q3c,hq'⟩ l'' hl
  rw [hq'] at hl
  clear hq'
  simp only [S0,S1] at hl
  subst hl
  have X4c:=X6b.updS U6a (alc (.inr (.inl rfl)) al0)
  refine dA 7 rfl (fun _=>BE rfl) ?_
  have F2a:=belU E4 U8 g5
  have ne7a:=(Bx.neT (((qb.ext F2a).ext E1a).ext E0a) (((qa.ext F2a).ext E1a).ext E0a) (by decide))
  have q5c:=(((qb.ext F2a).ext E1a).ext E0a).updS U6a (nmc ne7a nm0)
  refine dkk 8 HU q5c fun w6 U8a q6c=>?_
  have X7c:=X4c.upd U8a (.inr (.inr rfl))
  refine Cn (by kernel_rfl) ?_
  exact QV (by kernel_rfl) ⟨rfl,rfl,X7c,(q3c.upd U8a (Ne.symm ne7a)),q6c⟩
theorem idle_dyad_caught_Int:Qj Tryz.prog 167:=by
 intro ar b b' w ha
 subst ha
 refine Kh Tryz.func167 rfl [.pointer (some ⟨b,0,none⟩),.pointer (some ⟨b',0,none⟩),uu,uu,uu,uu,uu,uu,uu,uu,uu,uu,uu,uu,uu,uu,uu,uu,uu,uu,uu,uu,uu,uu,uu,uu] (by simp [Tryz.ntmps167]) fun c₀ cs hu=>?_
 apply wpS_seq
 refine Qy hu rfl ?_
 simp only [S0,S1]
 refine wpS_of_wp<|wp_seq_k fun _ h1=>Ae<|sV2 (Aa rfl) (Km LG rfl) ?_
 refine wh h1<|wp_cond_false (Ai (evb rfl rfl))<|wp_skip ?_
 exact PN hu (by kernel_rfl) ⟨rfl,rfl,rfl⟩
theorem c_dyad_Floor (x0:Ap) (A1:Option Addr) (c2:Nat) (w:World) (hT:TB w) (n3:RLu w A1 c2 x0.Man.Abs) (r:Ah × Int) (hr:GX x0=some r) :
  Calls Tryz.prog 82 #[.agg #[.bool x0.Man.Neg,.slice A1 x0.Man.Abs.length c2,.int .i64 x0.Exp]] w (Ret MA w r):=by
 unfold GX at hr
 obtain ⟨q0,hq0,hr0⟩:=Ab hr
 unfold IW at hq0
 go_enter_defers Tryz.func82,Tryz.ntmps82
 refine wp_seq_k fun _ h4=>Ae<|Bu rfl rfl fun b5 w1 E6 g7 q8=>?_
 refine nrm ?_
 refine AA IJ fun b9 w2 E9a g9c q8b=>?_
 refine nrm ?_
 have g6a:=nlt E6.size g9c
 have X0d:=xtr E6 E9a
 refine AA JM fun b9b w3 E7a g1e q8a=>?_
 refine nrm ?_
 have g0c:=nlt X0d.size g1e
 have X1d:=xtr X0d E7a
 refine wh h4<|wp_seq_k fun _ h2e=>Ae<|Ic (vs:=[.pointer (some ⟨b9,0,none⟩),.pointer (some ⟨b9b,0,none⟩)]) (by rfl) (by rfl)<|wh h2e<|wp_seq_k fun _ h3e=>Ae<|sV (Al Bt rfl ((q8.ext E9a).ext E7a) rfl) ?_
 refine Cv (vals:=[(0,.agg #[.bool x0.Man.Neg,.slice A1 x0.Man.Abs.length c2,.int .i64 x0.Exp])]) (cs:=[.bool x0.Man.Neg,.slice A1 x0.Man.Abs.length c2,.int .i64 x0.Exp]) LK FA Hm (by rfl) (by decide) (by kernel_rfl) fun b2d w4 E2a g4e q3d=>?_
 refine nrm ?_
 have g7h:=nlt X1d.size g4e
 have X4a:=xtr X1d E2a
 rcases AR hq0 with ⟨r0b,h1c,f5e⟩ | ⟨r0b,h1c,rfl⟩
 ·refine scO (Ad Ki (by rfl)) (EG x0 b2d A1 c2 w4 (tbx X4a hT) (n3.ext X4a) q3d (.ok r0b) h1c) ?_
  rintro _ w5 E0a rfl
  refine nrm ?_
  have X2c:=xtr X4a E0a
  refine wh h3e<|wp_seq_k fun _ h6e=>Ae<|sV (Ag (o':=0) Ey rfl rfl) ?_
  have q4d:=(((q8.ext E9a).ext E7a).ext E2a).ext E0a
  refine sV (AL Dq rfl q4d (by simp only [List.drop_zero,List.take_succ_cons,List.take_zero];rfl) rfl) ?_
  refine sV2 (Ag (o':=2) EZ rfl rfl) (Af EN rfl (Bx.cell q4d rfl)) ?_
  obtain ⟨m5d,h7e,f8e⟩:=Ab f5e
  have hx6d:=BO h7e
  have n9e:RU w5 A1 c2 m5d:=by unfold RU;rw [hx6d];exact (n3.ext X2c)
  obtain ⟨r3a,h0f,f1f⟩:=Ab f8e
  refine sc (Ad en_156 (by simp only [sz,hx6d];rfl)) (c_whole_Shift (⟨x0.Man.Neg,m5d⟩:Ah) x0.Exp A1 c2 w5 (tbx X2c hT) n9e r3a h0f) ?_
  rintro _ w6 E5a ⟨A7d,c8d,rfl,n2f⟩
  refine nrm ?_
  have X3f:=xtr X2c E5a
  refine sV3 (Aa rfl) (Av rfl rfl) (Av rfl rfl) ?_
  have q1b:=(((q8b.ext E7a).ext E2a).ext E0a).ext E5a
  refine ss GU q1b fun w7 U2b q3b=>?_
  have X4b:=belU X3f U2b g6a
  refine sV (Ac rfl) ?_
  refine wh h6e<|wp_seq_k fun _ h4f=>Ae<|sV (Aa rfl) ?_
  refine sb (Bl rfl rfl) fun z3c hz3c=>?_
  refine nrm ?_
  refine sV (Aa rfl) ?_
  obtain rfl:z3c=decide (r3a.2=0):=bz hz3c
  rcases AR f1f with ⟨r5b,h4c,f5f⟩ | ⟨r5b,h4c,rfl⟩
  ·refine scO (Ad EI (by rfl)) (Bh (decide (r3a.2=0)) r3a.2 w7 (tbx X4b hT)  (.ok r5b) h4c) ?_
   rintro _ w8 E1a rfl
   refine nrm ?_
   have X9d:=xtr X4b E1a
   refine wh h4f<|wp_seq_k fun _ h6f=>Ae<|sV2 (Ag (o':=1) Bf rfl rfl) (Af BJ rfl (Bx.cell (q3b.ext E1a) rfl)) ?_
   have n7f:=(n2f.upd U2b q1b (by decide)).ext E1a
   obtain ⟨r8f,h9f,f0g⟩:=Ab f5f
   refine sc (Ad Ql (by rfl)) (Iq r3a.1.Abs A7d c8d w8 (tbx X9d hT) n7f r8f h9f) ?_
   rintro _ w9 E6b ⟨A1g,c2g,rfl,n3g⟩
   refine nrm ?_
   have X4g:=xtr X9d E6b
   refine sV (Ag (o':=1) Bf rfl rfl) ?_
   refine ss LV ((q3b.ext E1a).ext E6b) fun w9a U5c q6c=>?_
   have X5g:=belU X4g U5c g6a
   refine wh h6f<|wp_seq_k fun _ h6g=>Ae<|sV (Al Dq rfl q6c rfl) ?_
   refine ss GU q6c fun w9c U7c q7g=>?_
   have X8g:=belU X5g U7c g6a
   have ne7b:=(Bx.neT (((q8a.ext E2a).ext E0a).ext E5a) q1b (by decide))
   have q0e:=(((((((q8a.ext E2a).ext E0a).ext E5a).upd U2b ne7b).ext E1a).ext E6b).upd U5c ne7b).upd U7c ne7b
   refine ss HU q0e fun w8b U8c q9g=>?_
   have X0h:=belU X8g U8c g0c
   refine wh h6g<|wp_ret ?_
   have n1h:=((n3g.upd U5c ((q3b.ext E1a).ext E6b) (by decide)).upd U7c q6c (by decide)).upd U8c q0e (by decide)
   obtain rfl:=sj f0g
   obtain rfl:=sj hr0
   exact Nu idle_dyad_caught_Int OR rfl (Res.cellN rfl Dq (q7g.upd U8c (Ne.symm ne7b)) rfl rfl (Res.cell1 rfl Dy (Bx.cell q9g rfl) Res.nil)) (Aj X0h ⟨A1g,c2g,rfl,n1h⟩)
  ·refine scP (Ad EI (by rfl)) (Bh (decide (r3a.2=0)) r3a.2 w7 (tbx X4b hT)  (.error r5b) h4c) fun w8 E1a=>?_
   have X2h:=xtr X4b E1a
   have ne3h:=(Bx.neT (((q8a.ext E2a).ext E0a).ext E5a) q1b (by decide))
   have q4h:=((((q8a.ext E2a).ext E0a).ext E5a).upd U2b ne3h).ext E1a
   refine JP OR (JQ b9 b9b (.bool r3a.1.Neg:Value) (.slice A7d (sz r3a.1.Abs) c8d:Value) (.int .i64 0:Value) r5b (q3b.ext E1a) q4h) rfl ?_
   rintro w9 ⟨u9,q9,q9'⟩
   obtain rfl:=sj hr0
   exact ⟨_,(Res.cellN rfl Dq q9 rfl rfl (Res.cell1 rfl Dy (Bx.cell q9' rfl) Res.nil)),Aj (u9.toExt X2h g6a g0c) ⟨none,0,rfl,RU.nil _⟩⟩
 ·refine scP (Ad Ki (by rfl)) (EG x0 b2d A1 c2 w4 (tbx X4a hT) (n3.ext X4a) q3d (.error r0b) h1c) fun w5 E0a=>?_
  have X5h:=xtr X4a E0a
  have q6h:=((q8b.ext E7a).ext E2a).ext E0a
  refine JP OR (JQ b9 b9b (.bool false:Value) (.slice none 0 0:Value) (.int .i64 0:Value) r0b q6h ((q8a.ext E2a).ext E0a)) rfl ?_
  rintro w9 ⟨u9,q9,q9'⟩
  obtain rfl:=sj hr0
  exact ⟨_,(Res.cellN rfl Dq q9 rfl rfl (Res.cell1 rfl Dy (Bx.cell q9' rfl) Res.nil)),Aj (u9.toExt X5h g6a g0c) ⟨none,0,rfl,RU.nil _⟩⟩
theorem c_sorobanref04_CompareRat (x0:Ak) (x1:Cz) (A1:Option Addr) (c2:Nat) (A4:Option Addr) (c5:Nat) (A7:Option Addr) (c8:Nat) (w:World) (hT:TB w) (n3:RU w A1 c2 x0.Man.Abs) (n6:RU w A4 c5 x1.Num.Abs) (n9:RU w A7 c8 x1.Den) (r:Int) (hr:Ci x0 x1=some r) :
  Calls Tryz.prog 84 #[.agg #[.bool x0.Man.Neg,.slice A1 (sz x0.Man.Abs) c2,.int .i64 x0.Exp],.agg #[.bool x1.Num.Neg,.slice A4 (sz x1.Num.Abs) c5,.slice A7 (sz x1.Den) c8]] w (Ret Fy w r):=by
 unfold Ci at hr
 go_enter Tryz.func84,Tryz.ntmps84
 refine wp_seq_k fun _ h9a=>Ae<|Bu rfl rfl fun b8c w1 E4a g9c q0b=>?_
 refine nrm ?_
 refine Bu rfl rfl fun b0d w2 E5a g1b q2b=>?_
 refine nrm ?_
 have g1d:=nlt E4a.size g1b
 have X3b:=xtr E4a E5a
 refine sV (Ac rfl) ?_
 refine wh h9a<|wp_seq_k fun _ h4b=>Dn [] 5 mo rfl fun w3 E1a S2a=>have X3a:=xtr X3b E1a;dV 0 rfl (fun _ hw=>Al Bt rfl (((q0b.ext E5a).ext E1a).ext hw) rfl) S2a ?_
 refine dV 2 rfl (fun _ hw=>Al Kl rfl ((q2b.ext E1a).ext hw) rfl) S2a ?_
 obtain ⟨r6a,h5b,f6b⟩:=Ab hr
 refine dc 1 rfl (by kernel_rfl) (by rfl) (Ad Ri (by rfl)) (IZ x0 A1 c2 w3 (tbx X3a hT) (n3.ext X3a) r6a h5b) ?_
 rintro _ w4 E7a ⟨A7b,c8b,A9b,c0c,rfl,n1c,n2c⟩
 refine dnrm ?_
 have X0a:=xtr X3a E7a
 have S3c:=S2a.trans E7a
 obtain ⟨r4c,h5c,f6c⟩:=Ab f6b
 refine dc 3 rfl (by kernel_rfl) (by rfl) (Ad en_99 (by rfl)) (c_sorobanref03_Compare r6a x1 A7b c8b A9b c0c A4 c5 A7 c8 w4 (tbx X0a hT) n1c n2c (n6.ext X0a) (n9.ext X0a) r4c h5c) ?_
 rintro _ w5 E8a rfl
 refine dnrm ?_
 have X7c:=xtr X0a E8a
 have S2d:=S3c.trans E8a
 refine dA 4 rfl (fun _=>Ac rfl) ?_
 refine Cn (by kernel_rfl) ?_
 refine h4b _ _<|wp_ret ?_
 obtain rfl:=sj f6c
 exact fin rfl (Res.tmp rfl Res.nil) (Aj X7c rfl)
theorem c_sorobanref04_Top (x0:Ak) (A1:Option Addr) (c2:Nat) (w:World) (hT:TB w) (n3:RU w A1 c2 x0.Man.Abs) (r:Int) (hr:FT x0=some r) :
  Calls Tryz.prog 85 #[.agg #[.bool x0.Man.Neg,.slice A1 (sz x0.Man.Abs) c2,.int .i64 x0.Exp]] w (Ret Fy w r):=by
 unfold FT at hr
 go_enter Tryz.func85,Tryz.ntmps85
 refine wp_seq_k fun _ h4=>Ae<|Bu rfl rfl fun b5 w1 E6 g7 q8=>?_
 refine nrm ?_
 refine sV (Ac rfl) ?_
 refine wh h4<|wp_seq_k fun _ h9=>Dn [] 9 mo rfl fun w2 E0a S1a=>have X2a:=xtr E6 E0a;dA 0 rfl (fun _=>Ag (o':=0) Ey rfl rfl) ?_
 refine dA 1 rfl (fun _=>Ag (o':=1) Bf rfl rfl) ?_
 refine dV 2 rfl (fun _ hw=>Af BJ rfl (Bx.cell ((q8.ext E0a).ext hw) rfl)) S1a ?_
 refine dA 5 rfl (fun _=>Ag (o':=2) EZ rfl rfl) ?_
 refine dV 6 rfl (fun _ hw=>Af EN rfl (Bx.cell ((q8.ext E0a).ext hw) rfl)) S1a ?_
 obtain ⟨r3a,h5a,f6a⟩:=Ab hr
 refine dc 3 rfl (by kernel_rfl) (by rfl) (Ad OX (by rfl)) (GE x0.Man.Abs A1 c2 w2 (tbx X2a hT) (n3.ext X2a) r3a h5a) ?_
 rintro _ w3 E4a rfl
 refine dnrm ?_
 have X7a:=xtr X2a E4a
 have S8a:=S1a.trans E4a
 refine dA 4 rfl (fun _=>Ba (c:=wi64 (r3a - 1)) rfl rfl rfl) ?_
 refine dA 7 rfl (fun _=>AM (c:=wi64 ((wi64 (r3a - 1))+x0.Exp)) rfl rfl rfl) ?_
 refine dA 8 rfl (fun _=>Ac rfl) ?_
 refine Cn (by kernel_rfl) ?_
 refine h9 _ _<|wp_ret ?_
 obtain rfl:=sj f6a
 exact fin rfl (Res.tmp rfl Res.nil) (Aj X7a rfl)
theorem c_sorobanref03_Nearest (x0:Cz) (x1:Int) (A1:Option Addr) (c2:Nat) (A4:Option Addr) (c5:Nat) (w:World) (hT:TB w) (n3:RU w A1 c2 x0.Num.Abs) (n6:RU w A4 c5 x0.Den) (r:Ah) (hr:FF x0 x1=some r) :
  Calls Tryz.prog 168 #[.agg #[.bool x0.Num.Neg,.slice A1 (sz x0.Num.Abs) c2,.slice A4 (sz x0.Den) c5],.int .i64 x1] w (Ret Jm w r):=by
 unfold FF at hr
 go_enter Tryz.func168,Tryz.ntmps168
 refine wp_seq_k fun _ h7=>Ae<|Bu rfl rfl fun b8 w1 E9 g0f q4a=>?_
 refine nrm ?_
 refine AA IJ fun b1f w2 E2a g8b q9b=>?_
 refine nrm ?_
 have g0c:=nlt E9.size g8b
 have X6a:=xtr E9 E2a
 refine wh h7<|wp_seq_k fun _ h1c=>Ae<|sV3 (Ag (o':=0) IE rfl rfl) (Ag (o':=1) Bf rfl rfl) (Af BJ rfl (Bx.cell (q4a.ext E2a) rfl)) ?_
 refine sV2 (Ag (o':=2) HV rfl rfl) (Af BJ rfl (Bx.cell (q4a.ext E2a) rfl)) ?_
 obtain ⟨r7a,h2c,f3c⟩:=Ab hr
 refine sc (Ad Oa (by rfl)) (EU x0.Num.Abs x0.Den A1 c2 A4 c5 w2 (tbx X6a hT) (n3.ext X6a) (n6.ext X6a) r7a h2c) ?_
 rintro _ w3 E5a ⟨A4c,c5c,A6c,c7c,rfl,n8c,n9c⟩
 refine nrm ?_
 have X1b:=xtr X6a E5a
 refine AA Np fun b2f w4 E0d g2b q1d=>?_
 refine nrm ?_
 have g3f:=nlt X1b.size g2b
 refine ss LQ q1d fun w5 U2d q3b=>?_
 have F1a:=belU E0d U2d g2b
 have X3d:=xtr X1b F1a
 refine wh h1c<|wp_seq_k fun _ h4d=>Dn [15] 16 mo rfl fun w6 E0a S3a=>have X8a:=xtr X3d E0a;dA 0 rfl (fun _=>Ag (o':=0) IE rfl rfl) ?_
 refine dA 1 rfl (fun _=>Ag (o':=0) DF rfl rfl) ?_
 refine dV 2 rfl (fun _ hw=>Af GC rfl (Bx.cell (((((q4a.ext E2a).ext E5a).ext F1a).ext E0a).ext hw) rfl)) S3a ?_
 refine dA 3 rfl (fun _=>Ag (o':=0) fa_171_0 rfl rfl) ?_
 refine dV 4 rfl (fun _ hw=>Af BJ rfl (Bx.cell ((q3b.ext E0a).ext hw) rfl)) S3a ?_
 refine dA 5 rfl (fun _=>Ag (o':=1) Ow rfl rfl) ?_
 refine dV 6 rfl (fun _ hw=>Af BJ rfl (Bx.cell ((q3b.ext E0a).ext hw) rfl)) S3a ?_
 refine dA 7 rfl (fun _=>Ag (o':=2) HV rfl rfl) ?_
 refine dV 8 rfl (fun _ hw=>Af BJ rfl (Bx.cell (((((q4a.ext E2a).ext E5a).ext F1a).ext E0a).ext hw) rfl)) S3a ?_
 refine dA 9 rfl (fun _=>Ag (o':=0) IE rfl rfl) ?_
 refine dA 10 rfl (fun _=>Ag (o':=0) DF rfl rfl) ?_
 refine dV 11 rfl (fun _ hw=>Af GC rfl (Bx.cell (((((q4a.ext E2a).ext E5a).ext F1a).ext E0a).ext hw) rfl)) S3a ?_
 refine dA 12 rfl (fun _=>Aa rfl) ?_
 obtain ⟨r4b,h5d,f6d⟩:=Ab f3c
 refine dc 13 rfl (by kernel_rfl) (by rfl) (Ad en_212 (by rfl)) (c_sorobanref03_Rounded r7a.Q r7a.R x0.Den x0.Num.Neg x1 A4c c5c A6c c7c A4 c5 w6 (tbx X8a hT) ((n8c.ext F1a).ext E0a) ((n9c.ext F1a).ext E0a) (n6.ext X8a) r4b h5d) ?_
 rintro _ w7 E9a ⟨A7d,c8d,rfl,n9d⟩
 refine dnrm ?_
 have X5b:=xtr X8a E9a
 have S0e:=S3a.trans E9a
 obtain ⟨r1e,h2e,f3e⟩:=Ab f6d
 refine dc 14 rfl (by kernel_rfl) (by rfl) (Ad JO (by rfl)) (Bv x0.Num.Neg r4b A7d c8d w7 (tbx X5b hT) n9d r1e h2e) ?_
 rintro _ w8 E0b ⟨A4e,c5e,rfl,n6e⟩
 refine dnrm ?_
 have X7e:=xtr X5b E0b
 have S4f:=S0e.trans E0b
 have q6b:=((((q9b.ext E5a).ext F1a).ext E0a).ext E9a).ext E0b
 refine dkk 15 GU q6b fun w9 U7b q8e=>?_
 have X9e:=belU X7e U7b g0c
 refine Cn (by kernel_rfl) ?_
 refine h4d _ _<|wp_ret ?_
 obtain rfl:=sj f3e
 exact fin rfl (Res.cellN rfl Dq q8e rfl rfl Res.nil) (Aj X9e ⟨A4e,c5e,rfl,(n6e.upd U7b q6b (by decide))⟩)
theorem c_sorobanref04_Floor (x0:Ak) (A1:Option Addr) (c2:Nat) (w:World) (hT:TB w) (n3:RU w A1 c2 x0.Man.Abs) (r:Ah) (hr:Fe x0=some r) :
  Calls Tryz.prog 87 #[.agg #[.bool x0.Man.Neg,.slice A1 (sz x0.Man.Abs) c2,.int .i64 x0.Exp]] w (Ret Jm w r):=by
 unfold Fe at hr
 go_enter Tryz.func87,Tryz.ntmps87
 refine wp_seq_k fun _ h4=>Ae<|Bu rfl rfl fun b5 w1 E6 g7 q8=>?_
 refine nrm ?_
 refine AA IJ fun b9 w2 E3a g8a q4a=>?_
 refine nrm ?_
 have g9a:=nlt E6.size g8a
 have X0a:=xtr E6 E3a
 refine wh h4<|wp_seq_k fun _ h0b=>Ae<|sV (Al Bt rfl (q8.ext E3a) rfl) ?_
 obtain ⟨r5a,h1b,f2b⟩:=Ab hr
 refine sc (Ad Ri (by rfl)) (IZ x0 A1 c2 w2 (tbx X0a hT) (n3.ext X0a) r5a h1b) ?_
 rintro _ w3 E1a ⟨A3b,c4b,A5b,c6b,rfl,n7b,n8b⟩
 refine nrm ?_
 have X6a:=xtr X0a E1a
 obtain ⟨r9b,h0c,f1c⟩:=Ab f2b
 refine sc (Ad en_168 (by rfl)) (c_sorobanref03_Nearest r5a 5 A3b c4b A5b c6b w3 (tbx X6a hT) n7b n8b r9b h0c) ?_
 rintro _ w4 E2a ⟨A2c,c3c,rfl,n4c⟩
 refine nrm ?_
 have X5c:=xtr X6a E2a
 refine ss GU ((q4a.ext E1a).ext E2a) fun w5 U7a q6c=>?_
 have X7c:=belU X5c U7a g9a
 refine wh h0b<|wp_ret ?_
 have n8c:=n4c.upd U7a ((q4a.ext E1a).ext E2a) (by decide)
 obtain rfl:=sj f1c
 exact fin rfl (Res.cellN rfl Dq q6c rfl rfl Res.nil) (Aj X7c ⟨A2c,c3c,rfl,n8c⟩)
set_option maxRecDepth 20000 in
theorem c_sorobanlaw04_DyadOrders (x0:Ap) (x1:Ap) (x2:FV) (A1:Option Addr) (c2:Nat) (A4:Option Addr) (c5:Nat) (A7:Option Addr) (c8:Nat) (A5a:Option Addr) (c6a:Nat) (w:World) (hT:TB w) (n3:RLu w A1 c2 x0.Man.Abs) (n6:RLu w A4 c5 x1.Man.Abs) (n9:RLu w A7 c8 x2.Num.Abs) (n9c:RLu w A5a c6a x2.Den) (r:Bool) (hr:EJ x0 x1 x2=some r) :
  Calls Tryz.prog 10 #[.agg #[.bool x0.Man.Neg,.slice A1 x0.Man.Abs.length c2,.int .i64 x0.Exp],.agg #[.bool x1.Man.Neg,.slice A4 x1.Man.Abs.length c5,.int .i64 x1.Exp],.agg #[.bool x2.Num.Neg,.slice A7 x2.Num.Abs.length c8,.slice A5a x2.Den.length c6a]] w (Ret Gq w r):=by
 unfold EJ at hr
 refine Mp Tryz.func10 rfl [.agg #[.bool x0.Man.Neg,.slice A1 x0.Man.Abs.length c2,.int .i64 x0.Exp],.agg #[.bool x1.Man.Neg,.slice A4 x1.Man.Abs.length c5,.int .i64 x1.Exp],.agg #[.bool x2.Num.Neg,.slice A7 x2.Num.Abs.length c8,.slice A5a x2.Den.length c6a],uu,uu,uu,uu,uu,uu,uu,uu,uu,uu,uu,uu,uu,uu,uu,uu,uu,uu,uu,uu,uu,uu,uu,uu,uu,uu,uu,uu,uu,uu,uu,uu,uu,uu,uu,uu,uu,uu,uu,uu,uu,uu,uu,uu,uu,uu,uu,uu,uu,uu,uu,uu,uu,uu,uu,uu,uu,uu,uu,uu,uu,uu,uu,uu,uu,uu,uu,uu,uu,uu,uu,uu,uu,uu,uu,uu,uu,uu,uu,uu,uu,uu,uu,uu,uu,uu,uu,uu,uu,uu,uu,uu,uu,uu,uu,uu,uu,uu,uu,uu,uu,uu,uu,uu,uu,uu,uu,uu,uu,uu,uu,uu,uu,uu,uu,uu,uu,uu,uu,uu,uu,uu,uu,uu,uu,uu,uu,uu,uu,uu,uu,uu,uu,uu,uu,uu,uu,uu,uu,uu,uu,uu,uu,uu,uu,uu,uu,uu,uu,uu,uu,uu,uu,uu,uu,uu,uu,uu,uu,uu,uu,uu,uu,uu,uu,uu,uu,uu,uu,uu,uu,uu,uu,uu,uu,uu,uu,uu,uu,uu,uu] (by kernel_rfl) ?_
 refine wp_seq_k fun _ h7g=>Ae<|Bu rfl rfl fun b4a w1 E0c g6c q9a=>?_
 refine nrm ?_
 refine Bu rfl rfl fun b4f w2 E1c g5f q6e=>?_
 refine nrm ?_
 have g3q:=nlt E0c.size g5f
 have X6i:=xtr E0c E1c
 refine Bu rfl rfl fun b3ar w3 E6f g5a1 q4q=>?_
 refine nrm ?_
 have g4ar:=nlt X6i.size g5a1
 have X7i:=xtr X6i E6f
 refine sV (Ac rfl) ?_
 refine wh h7g<|wp_seq_k fun _ h6a1=>wp_seq_k fun _ h7a1=>Ae<|sV (Al Bt rfl ((q9a.ext E1c).ext E6f) rfl) ?_
 obtain ⟨r8a1,h9a1,f0a2⟩:=Ab hr
 refine sc (Ad Rn (by rfl)) (Jc x0 A1 c2 w3 (tbx X7i hT) (n3.ext X7i) r8a1 h9a1) ?_
 rintro _ w4 E7e rfl
 refine nrm ?_
 have X8g:=xtr X7i E7e
 refine sb (Fv rfl) fun z5q hz5q=>?_
 refine nrm ?_
 refine sV (Aa rfl) ?_
 obtain ⟨m1a2,h2a2,f3a2⟩:=Ab f0a2
 refine Bm 8 (fun l l' w'=>∃(t6q:Value) (t7q:Value) (t8q:Value),UpdS [] w4 w'∧l'=((((l.set 19 t6q).set 20 t7q).set 21 t8q).set 22 (.bool m1a2))) ?_ ?_
 ·intro HJ56
  rcases zi hz5q h2a2 with ⟨e4c,_,f4a2⟩ | ⟨e4c,_,f5a2⟩
  ·refine sP ?_ (hw:=wgF rfl e4c)
   refine sP ?_ (hw:=wgF rfl e4c)
   refine sP ?_ (hw:=wgF rfl e4c)
   refine sV (Ar (evb rfl e4c) rfl) ?_
   obtain rfl:=sj f4a2
   exact HJ56 _ _ ⟨uu,uu,uu,(UpdS.refl _ _),(by simp only [S0,S1]<;>rfl)⟩
  ·refine sV (Al Bt rfl ((q6e.ext E6f).ext E7e) rfl) ?_ (hw:=wgT rfl e4c)
   obtain ⟨r9g,h6a2,f64⟩:=Ab f5a2
   refine sc (Ad Rn (by rfl)) (Jc x1 A4 c5 w4 (tbx X8g hT) (n6.ext X8g) r9g h6a2) ?_ (hw:=wgT rfl e4c)
   rintro _ w5 E7a2 rfl
   refine nrm ?_
   refine sb (Fv rfl) ?_ (hw:=wgT rfl e4c)
   intro z8i hz8i
   refine nrm ?_
   refine sV (Aw (evb rfl e4c) rfl) ?_
   obtain rfl:z8i=decide (¬(r9g=true)):=bz hz8i
   obtain rfl:=sj f64
   exact HJ56 _ _ ⟨(.agg #[.bool x1.Man.Neg,.slice A4 x1.Man.Abs.length c5,.int .i64 x1.Exp]),(.bool r9g),(.bool (decide (¬(r9g=true)))),((UpdS.refl _ _).ext E7a2),(by simp only [S0,S1]<;>rfl)⟩
 ·rintro l' w5 ⟨t6q,t7q,t8q,U7f,hq'⟩ l'' hl
  rw [hq'] at hl
  clear hq'
  simp only [S0,S1] at hl
  subst hl
  have X8f:=KR X8g U7f (X8g).size al0
  refine sV (Aa rfl) ?_
  obtain ⟨m8a2,h9a2,f0a3⟩:=Ab f3a2
  refine Bm 13 (fun l l' w'=>∃(t9q:Value) (t0r:Value) (t1r:Value),UpdS [] w5 w'∧l'=((((l.set 24 t9q).set 25 t0r).set 26 t1r).set 27 (.bool m8a2))) ?_ ?_
  ·intro HJ87
   rcases zb h9a2 with ⟨e5c,f1a3⟩ | ⟨e5c,f2a3⟩
   ·refine sP ?_ (hw:=wgF rfl e5c)
    refine sP ?_ (hw:=wgF rfl e5c)
    refine sP ?_ (hw:=wgF rfl e5c)
    refine sV (Ar (evb rfl e5c) rfl) ?_
    obtain rfl:=sj f1a3
    exact HJ87 _ _ ⟨uu,uu,uu,(UpdS.refl _ _),(by simp only [S0,S1]<;>rfl)⟩
   ·refine sV (Al Kl rfl ((q4q.ext E7e).updS U7f nm0) rfl) ?_ (hw:=wgT rfl e5c)
    obtain ⟨r0h,h3a3,f4a3⟩:=Ab f2a3
    refine sc (Ad en_53 (by rfl)) (c_sorobanlaw04_lightRat x2 A7 c8 A5a c6a w5 (tbx X8f hT) (n9.ext X8f) (n9c.ext X8f) r0h h3a3) ?_ (hw:=wgT rfl e5c)
    rintro _ w6 E5a3 rfl
    refine nrm ?_
    refine sb (Fv rfl) ?_ (hw:=wgT rfl e5c)
    intro z9i hz9i
    refine nrm ?_
    refine sV (Aw (evb rfl e5c) rfl) ?_
    obtain rfl:z9i=decide (¬(r0h=true)):=bz hz9i
    obtain rfl:=sj f4a3
    exact HJ87 _ _ ⟨(.agg #[.bool x2.Num.Neg,.slice A7 x2.Num.Abs.length c8,.slice A5a x2.Den.length c6a]),(.bool r0h),(.bool (decide (¬(r0h=true)))),((UpdS.refl _ _).ext E5a3),(by simp only [S0,S1]<;>rfl)⟩
  ·rintro l' w6 ⟨t9q,t0r,t1r,U1h,hq'⟩ l'' hl
   rw [hq'] at hl
   clear hq'
   simp only [S0,S1] at hl
   subst hl
   have X8e:=KR X8f U1h (X8f).size al0
   refine wh h7a1 ?_
   rcases zb f0a3 with ⟨e0j,f6a3⟩ | ⟨e0j,f7a3⟩
   ·refine wp_cond_true (Ai (evb rfl e0j))<|wp_seq_k fun _ h8a3=>Ae ?_
    obtain ⟨r9a3,h0a4,f1a4⟩:=Ab f6a3
    refine sc (Ad PM (by rfl)) (FZ w6 (tbx X8e hT)  r9a3 h0a4) ?_
    rintro _ w7 E2a4 rfl
    refine nrm ?_
    have X3a4:=xtr X8e E2a4
    refine sV (Ac rfl) ?_
    refine wh h8a3<|wp_ret ?_
    obtain rfl:=sj f1a4
    exact fin rfl (Res.tmp rfl Res.nil) (Aj X3a4 rfl)
   ·refine wp_cond_false (Ai (evb rfl e0j))<|wp_skip<|h6a1 _ _<|wp_seq_k fun _ h4a4=>Ae<|have q2h:=((((q9a.ext E1c).ext E6f).ext E7e).updS U7f nm0).updS U1h nm0;sV (Al Bt rfl q2h rfl) ?_
    have q2r:=(((q6e.ext E6f).ext E7e).updS U7f nm0).updS U1h nm0
    refine sV (Al Bt rfl q2r rfl) ?_
    obtain ⟨r2a,h5a4,f6a4⟩:=Ab f7a3
    refine sc (Ad en_41 (by rfl)) (c_dyad_Cmp x0 x1 A1 c2 A4 c5 w6 (tbx X8e hT) (n3.ext X8e) (n6.ext X8e) r2a h5a4) ?_
    rintro _ w7 E9e rfl
    refine nrm ?_
    have X9f:=xtr X8e E9e
    refine sV3 (Aa rfl) (Av rfl rfl) (Av rfl rfl) ?_
    refine sV2 (Ac rfl) (Ac rfl) ?_
    refine wh h4a4<|wp_seq_k fun _ h7a4=>Ae<|sV (Al Bt rfl (q2h.ext E9e) rfl) ?_
    have q3r:=(((q4q.ext E7e).updS U7f nm0).updS U1h nm0).ext E9e
    refine sV (Al Kl rfl q3r rfl) ?_
    obtain ⟨r3a,h8a4,f9a4⟩:=Ab f6a4
    refine sc (Ad en_81 (by rfl)) (c_dyad_CmpRat x0 x2 A1 c2 A7 c8 A5a c6a w7 (tbx X9f hT) (n3.ext X9f) (n9.ext X9f) (n9c.ext X9f) r3a h8a4) ?_
    rintro _ w8 E0g rfl
    refine nrm ?_
    have X1j:=xtr X9f E0g
    refine sV3 (Aa rfl) (Av rfl rfl) (Av rfl rfl) ?_
    refine sV2 (Ac rfl) (Ac rfl) ?_
    refine wh h7a4<|wp_seq_k fun _ h0a5=>Ae<|sV (Al Bt rfl ((q2h.ext E9e).ext E0g) rfl) ?_
    obtain ⟨r1a,h1a5,f2a5⟩:=Ab f9a4
    refine sc (Ad en_36 (by rfl)) (c_dyad_Top x0 A1 c2 w8 (tbx X1j hT) (n3.ext X1j) r1a h1a5) ?_
    rintro _ w9 E3h rfl
    refine nrm ?_
    have X2j:=xtr X1j E3h
    refine sV3 (Aa rfl) (Av rfl rfl) (Av rfl rfl) ?_
    refine sV2 (Ac rfl) (Ac rfl) ?_
    refine wh h0a5<|wp_seq_k fun _ h3a5=>Ae<|have q1g:=((q2h.ext E9e).ext E0g).ext E3h;sV (Al Bt rfl q1g rfl) ?_
    obtain ⟨r0a,h4a5,f5a5⟩:=Ab f2a5
    refine sc (Ad en_82 (by rfl)) (c_dyad_Floor x0 A1 c2 w9 (tbx X2j hT) (n3.ext X2j) r0a h4a5) ?_
    rintro _ w5a E0d ⟨A3j,c4j,rfl,n6a5⟩
    refine nrm ?_
    have X4r:=xtr X2j E0d
    refine sV3 (Aa rfl) (Av rfl rfl) (Av rfl rfl) ?_
    refine AA IJ fun b5r w6a E7a5 g6r q8a5=>?_
    refine nrm ?_
    have g5ar:=nlt X4r.size g6r
    refine ss GU q8a5 fun w9c U9a5 q5j=>?_
    have F7c:=belU E7a5 U9a5 g6r
    have X6j:=xtr X4r F7c
    refine sV (Ac rfl) ?_
    refine wh h3a5<|wp_seq_k fun _ h0a6=>wp_seq_k fun _ h1a6=>Ae<|sV (Al Bt rfl ((q1g.ext E0d).ext F7c) rfl) ?_
    obtain ⟨r2a6,h3a6,f4a6⟩:=Ab f5a5
    refine sc (Ad PH (by rfl)) (Gt x0 A1 c2 w9c (tbx X6j hT) (n3.ext X6j) r2a6 h3a6) ?_
    rintro _ w7g E2c rfl
    refine nrm ?_
    have X2g:=xtr X6j E2c
    refine sb (Fv rfl) fun z7r hz7r=>?_
    refine nrm ?_
    refine wh h1a6 ?_
    rcases zi hz7r f4a6 with ⟨e7j,_,f5a6⟩ | ⟨e7j,_,f6a6⟩
    ·refine wp_cond_true (Ai (evb rfl e7j))<|wp_seq_k fun _ h7a6=>Ae ?_
     obtain ⟨r8a6,h9a6,f0a7⟩:=Ab f5a6
     refine sc (Ad PM (by rfl)) (FZ w7g (tbx X2g hT)  r8a6 h9a6) ?_
     rintro _ w4a E8r rfl
     refine nrm ?_
     have X1a7:=xtr X2g E8r
     refine sV (Aa rfl) ?_
     obtain ⟨m2a7,h3a7,f4a7⟩:=Ab f0a7
     refine Bm 5 (fun l l' w'=>∃(t9r:Value) (t0s:Value),w4a=w'∧l'=(((l.set 56 t9r).set 57 t0s).set 58 (.bool m2a7))) ?_ ?_
     ·intro HJ1462
      rcases zb h3a7 with ⟨e1d,f5a7⟩ | ⟨e1d,f6a7⟩
      ·refine sV (Aa rfl) ?_ (hw:=wgT rfl e1d)
       refine sb (Bl rfl rfl) ?_ (hw:=wgT rfl e1d)
       intro z8j hz8j
       refine nrm ?_
       refine sV (Ar (evb rfl e1d) rfl) ?_
       obtain rfl:z8j=decide (r2a.2=1):=bz hz8j
       obtain rfl:=sj f5a7
       exact HJ1462 _ _ ⟨(.int .i64 r2a.2),(.bool (decide (r2a.2=1))),rfl,(by simp only [S0,S1]<;>rfl)⟩
      ·refine sP ?_ (hw:=wgF rfl e1d)
       refine sP ?_ (hw:=wgF rfl e1d)
       refine sV (Aw (evb rfl e1d) rfl) ?_
       obtain rfl:=sj f6a7
       exact HJ1462 _ _ ⟨uu,uu,rfl,(by simp only [S0,S1]<;>rfl)⟩
     ·rintro l' _ ⟨t9r,t0s,rfl,hq'⟩ l'' hl
      rw [hq'] at hl
      clear hq'
      simp only [S0,S1] at hl
      subst hl
      refine sV (Aa rfl) ?_
      obtain ⟨m7a7,h8a7,f9a7⟩:=Ab f4a7
      refine Bm 9 (fun l l' w'=>∃(t1s:Value) (t2s:Value),w4a=w'∧l'=(((l.set 60 t1s).set 61 t2s).set 62 (.bool m7a7))) ?_ ?_
      ·intro HJ1481
       rcases zb h8a7 with ⟨e2d,f0a8⟩ | ⟨e2d,f1a8⟩
       ·refine sV (Aa rfl) ?_ (hw:=wgT rfl e2d)
        refine sb (Bl rfl rfl) ?_ (hw:=wgT rfl e2d)
        intro z9j hz9j
        refine nrm ?_
        refine sV (Ar (evb rfl e2d) rfl) ?_
        obtain rfl:z9j=decide (r3a.2=1):=bz hz9j
        obtain rfl:=sj f0a8
        exact HJ1481 _ _ ⟨(.int .i64 r3a.2),(.bool (decide (r3a.2=1))),rfl,(by simp only [S0,S1]<;>rfl)⟩
       ·refine sP ?_ (hw:=wgF rfl e2d)
        refine sP ?_ (hw:=wgF rfl e2d)
        refine sV (Aw (evb rfl e2d) rfl) ?_
        obtain rfl:=sj f1a8
        exact HJ1481 _ _ ⟨uu,uu,rfl,(by simp only [S0,S1]<;>rfl)⟩
      ·rintro l' _ ⟨t1s,t2s,rfl,hq'⟩ l'' hl
       rw [hq'] at hl
       clear hq'
       simp only [S0,S1] at hl
       subst hl
       refine sV (Aa rfl) ?_
       obtain ⟨m2a8,h3a8,f4a8⟩:=Ab f9a7
       refine Bm 13 (fun l l' w'=>∃(t3s:Value) (t4s:Value),w4a=w'∧l'=(((l.set 64 t3s).set 65 t4s).set 66 (.bool m2a8))) ?_ ?_
       ·intro HJ1500
        rcases zb h3a8 with ⟨e3d,f5a8⟩ | ⟨e3d,f6a8⟩
        ·refine sV (Aa rfl) ?_ (hw:=wgT rfl e3d)
         refine sb (Bl rfl rfl) ?_ (hw:=wgT rfl e3d)
         intro z0k hz0k
         refine nrm ?_
         refine sV (Ar (evb rfl e3d) rfl) ?_
         obtain rfl:z0k=decide (r1a.2=1):=bz hz0k
         obtain rfl:=sj f5a8
         exact HJ1500 _ _ ⟨(.int .i64 r1a.2),(.bool (decide (r1a.2=1))),rfl,(by simp only [S0,S1]<;>rfl)⟩
        ·refine sP ?_ (hw:=wgF rfl e3d)
         refine sP ?_ (hw:=wgF rfl e3d)
         refine sV (Aw (evb rfl e3d) rfl) ?_
         obtain rfl:=sj f6a8
         exact HJ1500 _ _ ⟨uu,uu,rfl,(by simp only [S0,S1]<;>rfl)⟩
       ·rintro l' _ ⟨t3s,t4s,rfl,hq'⟩ l'' hl
        rw [hq'] at hl
        clear hq'
        simp only [S0,S1] at hl
        subst hl
        refine sV (Aa rfl) ?_
        obtain ⟨m7a8,h8a8,f9a8⟩:=Ab f4a8
        refine Bm 17 (fun l l' w'=>∃(t5s:Value) (t6s:Value),w4a=w'∧l'=(((l.set 68 t5s).set 69 t6s).set 70 (.bool m7a8))) ?_ ?_
        ·intro HJ1519
         rcases zb h8a8 with ⟨e4d,f0a9⟩ | ⟨e4d,f1a9⟩
         ·refine sV (Aa rfl) ?_ (hw:=wgT rfl e4d)
          refine sb (Bl rfl rfl) ?_ (hw:=wgT rfl e4d)
          intro z1k hz1k
          refine nrm ?_
          refine sV (Ar (evb rfl e4d) rfl) ?_
          obtain rfl:z1k=decide (r0a.2=1):=bz hz1k
          obtain rfl:=sj f0a9
          exact HJ1519 _ _ ⟨(.int .i64 r0a.2),(.bool (decide (r0a.2=1))),rfl,(by simp only [S0,S1]<;>rfl)⟩
         ·refine sP ?_ (hw:=wgF rfl e4d)
          refine sP ?_ (hw:=wgF rfl e4d)
          refine sV (Aw (evb rfl e4d) rfl) ?_
          obtain rfl:=sj f1a9
          exact HJ1519 _ _ ⟨uu,uu,rfl,(by simp only [S0,S1]<;>rfl)⟩
        ·rintro l' _ ⟨t5s,t6s,rfl,hq'⟩ l'' hl
         rw [hq'] at hl
         clear hq'
         simp only [S0,S1] at hl
         subst hl
         refine sV (Aa rfl) ?_
         obtain ⟨m2a9,h3a9,f4a9⟩:=Ab f9a8
         refine Bm 21 (fun l l' w'=>∃(t7s:Value) (t8s:Value),w4a=w'∧l'=(((l.set 72 t7s).set 73 t8s).set 74 (.bool m2a9))) ?_ ?_
         ·intro HJ1538
          rcases zb h3a9 with ⟨e5d,f5a9⟩ | ⟨e5d,f6a9⟩
          ·refine sV (Aa rfl) ?_ (hw:=wgT rfl e5d)
           refine sb (Bl rfl rfl) ?_ (hw:=wgT rfl e5d)
           intro z2k hz2k
           refine nrm ?_
           refine sV (Ar (evb rfl e5d) rfl) ?_
           obtain rfl:z2k=decide (r2a.1=0):=bz hz2k
           obtain rfl:=sj f5a9
           exact HJ1538 _ _ ⟨(.int .i64 r2a.1),(.bool (decide (r2a.1=0))),rfl,(by simp only [S0,S1]<;>rfl)⟩
          ·refine sP ?_ (hw:=wgF rfl e5d)
           refine sP ?_ (hw:=wgF rfl e5d)
           refine sV (Aw (evb rfl e5d) rfl) ?_
           obtain rfl:=sj f6a9
           exact HJ1538 _ _ ⟨uu,uu,rfl,(by simp only [S0,S1]<;>rfl)⟩
         ·rintro l' _ ⟨t7s,t8s,rfl,hq'⟩ l'' hl
          rw [hq'] at hl
          clear hq'
          simp only [S0,S1] at hl
          subst hl
          refine sV (Aa rfl) ?_
          obtain ⟨m7a9,h8a9,f9a9⟩:=Ab f4a9
          refine Bm 25 (fun l l' w'=>∃(t9s:Value) (t0t:Value),w4a=w'∧l'=(((l.set 76 t9s).set 77 t0t).set 78 (.bool m7a9))) ?_ ?_
          ·intro HJ1557
           rcases zb h8a9 with ⟨e6d,f0aa⟩ | ⟨e6d,f1aa⟩
           ·refine sV (Aa rfl) ?_ (hw:=wgT rfl e6d)
            refine sb (Bl rfl rfl) ?_ (hw:=wgT rfl e6d)
            intro z3k hz3k
            refine nrm ?_
            refine sV (Ar (evb rfl e6d) rfl) ?_
            obtain rfl:z3k=decide (r3a.1=0):=bz hz3k
            obtain rfl:=sj f0aa
            exact HJ1557 _ _ ⟨(.int .i64 r3a.1),(.bool (decide (r3a.1=0))),rfl,(by simp only [S0,S1]<;>rfl)⟩
           ·refine sP ?_ (hw:=wgF rfl e6d)
            refine sP ?_ (hw:=wgF rfl e6d)
            refine sV (Aw (evb rfl e6d) rfl) ?_
            obtain rfl:=sj f1aa
            exact HJ1557 _ _ ⟨uu,uu,rfl,(by simp only [S0,S1]<;>rfl)⟩
          ·rintro l' _ ⟨t9s,t0t,rfl,hq'⟩ l'' hl
           rw [hq'] at hl
           clear hq'
           simp only [S0,S1] at hl
           subst hl
           refine sV (Aa rfl) ?_
           obtain ⟨m2aa,h3aa,f4aa⟩:=Ab f9a9
           refine Bm 29 (fun l l' w'=>∃(t1t:Value) (t2t:Value),w4a=w'∧l'=(((l.set 80 t1t).set 81 t2t).set 82 (.bool m2aa))) ?_ ?_
           ·intro HJ1576
            rcases zb h3aa with ⟨e7d,f5aa⟩ | ⟨e7d,f6aa⟩
            ·refine sV (Aa rfl) ?_ (hw:=wgT rfl e7d)
             refine sb (Bl rfl rfl) ?_ (hw:=wgT rfl e7d)
             intro z4k hz4k
             refine nrm ?_
             refine sV (Ar (evb rfl e7d) rfl) ?_
             obtain rfl:z4k=decide (r1a.1=0):=bz hz4k
             obtain rfl:=sj f5aa
             exact HJ1576 _ _ ⟨(.int .i64 r1a.1),(.bool (decide (r1a.1=0))),rfl,(by simp only [S0,S1]<;>rfl)⟩
            ·refine sP ?_ (hw:=wgF rfl e7d)
             refine sP ?_ (hw:=wgF rfl e7d)
             refine sV (Aw (evb rfl e7d) rfl) ?_
             obtain rfl:=sj f6aa
             exact HJ1576 _ _ ⟨uu,uu,rfl,(by simp only [S0,S1]<;>rfl)⟩
           ·rintro l' _ ⟨t1t,t2t,rfl,hq'⟩ l'' hl
            rw [hq'] at hl
            clear hq'
            simp only [S0,S1] at hl
            subst hl
            refine sV (Aa rfl) ?_
            obtain ⟨m7aa,h8aa,f9aa⟩:=Ab f4aa
            refine Bm 35 (fun l l' w'=>∃(t3t:Value) (t4t:Value) (t5t:Value) (t6t:Value),w4a=w'∧l'=(((((l.set 84 t3t).set 85 t4t).set 86 t5t).set 87 t6t).set 88 (.bool m7aa))) ?_ ?_
            ·intro HJ1597
             rcases zb h8aa with ⟨e6b,f0ab⟩ | ⟨e6b,f1ab⟩
             ·refine sV (Ag (o':=1) Bf rfl rfl) ?_ (hw:=wgT rfl e6b)
              refine sV (Af BJ rfl (Bx.cell ((q5j.ext E2c).ext E8r) rfl)) ?_ (hw:=wgT rfl e6b)
              refine sV (Ax AH rfl) ?_ (hw:=wgT rfl e6b)
              refine sb (Bl rfl rfl) ?_ (hw:=wgT rfl e6b)
              intro z5k hz5k
              refine nrm ?_
              refine sV (Ar (evb rfl e6b) rfl) ?_
              obtain rfl:z5k=decide ((sz r0a.1.Abs:Int)=0):=bz hz5k
              obtain rfl:=sj f0ab
              exact HJ1597 _ _ ⟨(.pointer (some ⟨b5r,1,none⟩)),(.slice A3j (sz r0a.1.Abs) c4j),(.int .i64 (sz r0a.1.Abs:Int)),(.bool (decide ((sz r0a.1.Abs:Int)=0))),rfl,(by simp only [S0,S1]<;>rfl)⟩
             ·refine sP ?_ (hw:=wgF rfl e6b)
              refine sP ?_ (hw:=wgF rfl e6b)
              refine sP ?_ (hw:=wgF rfl e6b)
              refine sP ?_ (hw:=wgF rfl e6b)
              refine sV (Aw (evb rfl e6b) rfl) ?_
              obtain rfl:=sj f1ab
              exact HJ1597 _ _ ⟨uu,uu,uu,uu,rfl,(by simp only [S0,S1]<;>rfl)⟩
            ·rintro l' _ ⟨t3t,t4t,t5t,t6t,rfl,hq'⟩ l'' hl
             rw [hq'] at hl
             clear hq'
             simp only [S0,S1] at hl
             subst hl
             refine sV (Ac rfl) ?_
             refine wh h7a6<|wp_ret ?_
             obtain rfl:=sj f9aa
             exact fin rfl (Res.tmp rfl Res.nil) (Aj X1a7 rfl)
    ·refine wp_cond_false (Ai (evb rfl e7j))<|wp_skip<|h0a6 _ _<|wp_seq_k fun _ h2ab=>wp_seq_k fun _ h3ab=>Ae<|have q6k:=(((((q2r.ext E9e).ext E0g).ext E3h).ext E0d).ext F7c).ext E2c;sV (Al Bt rfl q6k rfl) ?_
     obtain ⟨r4ab,h5ab,f6ab⟩:=Ab f6a6
     refine sc (Ad PH (by rfl)) (Gt x1 A4 c5 w7g (tbx X2g hT) (n6.ext X2g) r4ab h5ab) ?_
     rintro _ w4a E3c rfl
     refine nrm ?_
     have X3g:=xtr X2g E3c
     refine sb (Fv rfl) fun z7t hz7t=>?_
     refine nrm ?_
     refine sV (Aa rfl) ?_
     obtain ⟨m7ab,h8ab,f9ab⟩:=Ab f6ab
     refine Bm 11 (fun l l' w'=>∃(t8t:Value) (t9t:Value) (t0u:Value) (t1u:Value) (t2u:Value) (t3u:Value),w4a=w'∧l'=(((((((l.set 93 t8t).set 94 t9t).set 95 t0u).set 96 t1u).set 97 t2u).set 98 t3u).set 99 (.bool m7ab))) ?_ ?_
     ·intro HJ379
      rcases zi hz7t h8ab with ⟨e0b,_,f0ac⟩ | ⟨e0b,_,f1ac⟩
      ·refine sV (Aa rfl) ?_ (hw:=wgT rfl e0b)
       refine sb (HT rfl rfl) ?_ (hw:=wgT rfl e0b)
       intro z4h hz4h
       refine nrm ?_
       refine sV (Aa rfl) ?_ (hw:=wgT rfl e0b)
       obtain ⟨m4u,h2ac,f3ac⟩:=Ab f0ac
       refine Bm 10 (fun l l' w'=>∃(t7k:Value) (t8k:Value),w4a=w'∧l'=(((l.set 96 t7k).set 97 t8k).set 98 (.bool m4u))) ?_ ?_
       ·intro HJ398
        rcases zi hz4h h2ac with ⟨e8d,_,f4ac⟩ | ⟨e8d,_,f5ac⟩
        ·refine sP ?_ (hw:=wgF rfl e8d)
         refine sP ?_ (hw:=wgF rfl e8d)
         refine sV (Ar (evb rfl e8d) rfl) ?_ (hw:=wgT rfl e0b)
         obtain rfl:=sj f4ac
         exact HJ398 _ _ ⟨uu,uu,rfl,(by simp only [S0,S1]<;>rfl)⟩
        ·refine sV (Aa rfl) ?_ (hw:=wgT rfl e8d)
         refine sb (HT rfl rfl) ?_ (hw:=wgT rfl e8d)
         intro z9k hz9k
         refine nrm ?_
         refine sV (Aw (evb rfl e8d) rfl) ?_ (hw:=wgT rfl e0b)
         obtain rfl:z9k=decide (¬r2a.1=0):=bz hz9k
         obtain rfl:=sj f5ac
         exact HJ398 _ _ ⟨(.int .i64 r2a.1),(.bool (decide (¬r2a.1=0))),rfl,(by simp only [S0,S1]<;>rfl)⟩
       ·rintro l' _ ⟨t7k,t8k,rfl,hq'⟩ l'' hl
        rw [hq'] at hl
        clear hq'
        simp only [S0,S1] at hl
        subst hl
        refine sV (Ar (evb rfl e0b) rfl) ?_
        obtain rfl:=sj f3ac
        exact HJ379 _ _ ⟨(.int .i64 r2a.2),(.bool z4h),(.bool z4h),t7k,t8k,(.bool m4u),rfl,(by simp only [S0,S1]<;>rfl)⟩
      ·refine sP ?_ (hw:=wgF rfl e0b)
       refine sP ?_ (hw:=wgF rfl e0b)
       refine sP ?_ (hw:=wgF rfl e0b)
       refine sP ?_
       refine sP ?_
       refine sP ?_ (hw:=wgF rfl e0b)
       refine sV (Aw (evb rfl e0b) rfl) ?_
       obtain rfl:=sj f1ac
       exact HJ379 _ _ ⟨uu,uu,uu,uu,uu,uu,rfl,(by simp only [S0,S1]<;>rfl)⟩
     ·rintro l' _ ⟨t8t,t9t,t0u,t1u,t2u,t3u,rfl,hq'⟩ l'' hl
      rw [hq'] at hl
      clear hq'
      simp only [S0,S1] at hl
      subst hl
      refine sV (Aa rfl) ?_
      obtain ⟨m6ac,h7ac,f8ac⟩:=Ab f9ab
      refine Bm 26 (fun l l' w'=>∃(t5u:Value) (t6u:Value) (t7u:Value) (t8u:Value) (t9u:Value) (t0v:Value) (t1v:Value) (t2v:Value) (t3v:Value) (t4v:Value) (t5v:Value) (t6v:Value) (t7v:Value),UpdS [] w4a w'∧l'=((((((((((((((l.set 101 t5u).set 102 t6u).set 103 t7u).set 104 t8u).set 105 t9u).set 106 t0v).set 107 t1v).set 108 t2v).set 109 t3v).set 110 t4v).set 111 t5v).set 112 t6v).set 113 t7v).set 114 (.bool m6ac))) ?_ ?_
      ·intro HJ569
       rcases zb h7ac with ⟨e1b,f9ac⟩ | ⟨e1b,f0ad⟩
       ·refine sP ?_ (hw:=wgF rfl e1b)
        refine sP ?_ (hw:=wgF rfl e1b)
        refine sP ?_ (hw:=wgF rfl e1b)
        refine sP ?_
        refine sP ?_
        refine sP ?_
        refine sP ?_
        refine sP ?_
        refine sP ?_
        refine sP ?_
        refine sP ?_
        refine sP ?_
        refine sP ?_ (hw:=wgF rfl e1b)
        refine sV (Ar (evb rfl e1b) rfl) ?_
        obtain rfl:=sj f9ac
        exact HJ569 _ _ ⟨uu,uu,uu,uu,uu,uu,uu,uu,uu,uu,uu,uu,uu,(UpdS.refl _ _),(by simp only [S0,S1]<;>rfl)⟩
       ·refine sV (Al Bt rfl (q6k.ext E3c) rfl) ?_ (hw:=wgT rfl e1b)
        obtain ⟨r0l,h1ad,f2ad⟩:=Ab f0ad
        refine sc (Ad PH (by rfl)) (Gt x1 A4 c5 w4a (tbx X3g hT) (n6.ext X3g) r0l h1ad) ?_ (hw:=wgT rfl e1b)
        rintro _ w0c E5h rfl
        refine nrm ?_
        have X1l:=xtr X3g E5h
        refine sV (Aa rfl) ?_ (hw:=wgT rfl e1b)
        obtain ⟨m8v,h3ad,f4ad⟩:=Ab f2ad
        refine Bm 25 (fun l l' w'=>∃(t2l:Value) (t3l:Value) (t4l:Value) (t5l:Value) (t6l:Value) (t7l:Value) (t8l:Value) (t9l:Value) (t0m:Value),UpdS [] w0c w'∧l'=((((((((((l.set 104 t2l).set 105 t3l).set 106 t4l).set 107 t5l).set 108 t6l).set 109 t7l).set 110 t8l).set 111 t9l).set 112 t0m).set 113 (.bool m8v))) ?_ ?_
        ·intro HJ654
         rcases zb h3ad with ⟨e2b,f5ad⟩ | ⟨e2b,f6ad⟩
         ·refine sV (Aa rfl) ?_ (hw:=wgT rfl e2b)
          refine sb (HT rfl rfl) ?_ (hw:=wgT rfl e2b)
          intro z6h hz6h
          refine nrm ?_
          refine sV (Aa rfl) ?_ (hw:=wgT rfl e2b)
          obtain ⟨m9v,h7ad,f8ad⟩:=Ab f5ad
          refine Bm 24 (fun l l' w'=>∃(t1m:Value) (t2m:Value) (t3m:Value) (t4m:Value) (t5m:Value),UpdS [] w0c w'∧l'=((((((l.set 107 t1m).set 108 t2m).set 109 t3m).set 110 t4m).set 111 t5m).set 112 (.bool m9v))) ?_ ?_
          ·intro HJ692
           rcases zi hz6h h7ad with ⟨e7a,_,f9ad⟩ | ⟨e7a,_,f0ae⟩
           ·refine sP ?_ (hw:=wgF rfl e7a)
            refine sP ?_ (hw:=wgF rfl e7a)
            refine sP ?_ (hw:=wgF rfl e7a)
            refine sP ?_ (hw:=wgF rfl e7a)
            refine sP ?_ (hw:=wgF rfl e7a)
            refine sV (Ar (evb rfl e7a) rfl) ?_ (hw:=wgT rfl e2b)
            obtain rfl:=sj f9ad
            exact HJ692 _ _ ⟨uu,uu,uu,uu,uu,(UpdS.refl _ _),(by simp only [S0,S1]<;>rfl)⟩
           ·refine sV (Aa rfl) ?_ (hw:=wgT rfl e7a)
            have q1ae:=((((q1g.ext E0d).ext F7c).ext E2c).ext E3c).ext E5h
            refine sV (Al Bt rfl q1ae rfl) ?_ (hw:=wgT rfl e7a)
            refine sV (Al Bt rfl ((q6k.ext E3c).ext E5h) rfl) ?_ (hw:=wgT rfl e7a)
            obtain ⟨m0w,h2ae,f3ae⟩:=Ab f0ae
            have hx1w:=BO h2ae
            have n4ae:RU w0c A1 c2 m0w:=by unfold RU;rw [hx1w];exact (n3.ext X1l)
            obtain ⟨m2w,h5ae,f6ae⟩:=Ab f3ae
            have hx3w:=BO h5ae
            have n7ae:RU w0c A4 c5 m2w:=by unfold RU;rw [hx3w];exact (n6.ext X1l)
            obtain ⟨r7h,h8ae,f9ae⟩:=Ab f6ae
            refine sc (Ad en_83 (by simp only [sz,hx1w,hx3w];rfl)) (c_sorobanref04_Compare (⟨(⟨x0.Man.Neg,m0w⟩:Ah),x0.Exp⟩:Ak) (⟨(⟨x1.Man.Neg,m2w⟩:Ah),x1.Exp⟩:Ak) A1 c2 A4 c5 w0c (tbx X1l hT) n4ae n7ae r7h h8ae) ?_ (hw:=wgT rfl e7a)
            rintro _ w6c E0af rfl
            refine nrm ?_
            refine sb (HT rfl rfl) ?_ (hw:=wgT rfl e7a)
            intro z6m hz6m
            refine nrm ?_
            refine sV (Aw (evb rfl e7a) rfl) ?_ (hw:=wgT rfl e2b)
            obtain rfl:z6m=decide (¬r2a.1=r7h):=bz hz6m
            obtain rfl:=sj f9ae
            exact HJ692 _ _ ⟨(.int .i64 r2a.1),(.agg #[.bool x0.Man.Neg,.slice A1 x0.Man.Abs.length c2,.int .i64 x0.Exp]),(.agg #[.bool x1.Man.Neg,.slice A4 x1.Man.Abs.length c5,.int .i64 x1.Exp]),(.int .i64 r7h),(.bool (decide (¬r2a.1=r7h))),((UpdS.refl _ _).ext E0af),(by simp only [S0,S1]<;>rfl)⟩
          ·rintro l' w6c ⟨t1m,t2m,t3m,t4m,t5m,U1af,hq'⟩ l'' hl
           rw [hq'] at hl
           clear hq'
           simp only [S0,S1] at hl
           subst hl
           refine sV (Ar (evb rfl e2b) rfl) ?_ (hw:=wgT rfl e1b)
           obtain rfl:=sj f8ad
           exact HJ654 _ _ ⟨(.int .i64 r2a.2),(.bool z6h),(.bool z6h),t1m,t2m,t3m,t4m,t5m,(.bool m9v),((UpdS.refl _ _).updS U1af al0),(by simp only [S0,S1]<;>rfl)⟩
         ·refine sP ?_ (hw:=wgF rfl e2b)
          refine sP ?_ (hw:=wgF rfl e2b)
          refine sP ?_ (hw:=wgF rfl e2b)
          refine sP ?_
          refine sP ?_
          refine sP ?_
          refine sP ?_
          refine sP ?_
          refine sP ?_ (hw:=wgF rfl e2b)
          refine sV (Aw (evb rfl e2b) rfl) ?_ (hw:=wgT rfl e1b)
          obtain rfl:=sj f6ad
          exact HJ654 _ _ ⟨uu,uu,uu,uu,uu,uu,uu,uu,uu,(UpdS.refl _ _),(by simp only [S0,S1]<;>rfl)⟩
        ·rintro l' w6c ⟨t2l,t3l,t4l,t5l,t6l,t7l,t8l,t9l,t0m,U2af,hq'⟩ l'' hl
         rw [hq'] at hl
         clear hq'
         simp only [S0,S1] at hl
         subst hl
         refine sV (Aw (evb rfl e1b) rfl) ?_
         obtain rfl:=sj f4ad
         exact HJ569 _ _ ⟨(.agg #[.bool x1.Man.Neg,.slice A4 x1.Man.Abs.length c5,.int .i64 x1.Exp]),(.bool r0l),(.bool r0l),t2l,t3l,t4l,t5l,t6l,t7l,t8l,t9l,t0m,(.bool m8v),(((UpdS.refl _ _).ext E5h).updS U2af al0),(by simp only [S0,S1]<;>rfl)⟩
      ·rintro l' w0c ⟨t5u,t6u,t7u,t8u,t9u,t0v,t1v,t2v,t3v,t4v,t5v,t6v,t7v,U9d,hq'⟩ l'' hl
       rw [hq'] at hl
       clear hq'
       simp only [S0,S1] at hl
       subst hl
       have X4g:=KR X3g U9d (X3g).size al0
       refine wh h3ab ?_
       rcases zb f8ac with ⟨e7m,f3af⟩ | ⟨e7m,f4af⟩
       ·refine wp_cond_true (Ai (evb rfl e7m))<|wp_seq_k fun _ h5af=>Ae<|sV (Ac rfl) ?_
        refine wh h5af<|wp_ret ?_
        obtain rfl:=sj f3af
        exact fin rfl (Res.tmp rfl Res.nil) (Aj X4g rfl)
       ·refine wp_cond_false (Ai (evb rfl e7m))<|wp_skip<|h2ab _ _<|wp_seq_k fun _ h6af=>wp_seq_k fun _ h7af=>Ae<|have q8m:=((((((q3r.ext E0g).ext E3h).ext E0d).ext F7c).ext E2c).ext E3c).updS U9d nm0;sV (Al Kl rfl q8m rfl) ?_
        obtain ⟨r8af,h9af,f0ag⟩:=Ab f4af
        refine sc (Ad Rc (by rfl)) (Jg x2 A7 c8 A5a c6a w0c (tbx X4g hT) (n9.ext X4g) (n9c.ext X4g) r8af h9af) ?_
        rintro _ w6c E8c rfl
        refine nrm ?_
        have X0f:=xtr X4g E8c
        refine sb (Fv rfl) fun z4w hz4w=>?_
        refine nrm ?_
        refine sV (Aa rfl) ?_
        obtain ⟨m1ag,h2ag,f3ag⟩:=Ab f0ag
        refine Bm 11 (fun l l' w'=>∃(t5w:Value) (t6w:Value) (t7w:Value) (t8w:Value) (t9w:Value) (t0x:Value),w6c=w'∧l'=(((((((l.set 119 t5w).set 120 t6w).set 121 t7w).set 122 t8w).set 123 t9w).set 124 t0x).set 125 (.bool m1ag))) ?_ ?_
        ·intro HJ773
         rcases zi hz4w h2ag with ⟨e3b,_,f4ag⟩ | ⟨e3b,_,f5ag⟩
         ·refine sV (Aa rfl) ?_ (hw:=wgT rfl e3b)
          refine sb (HT rfl rfl) ?_ (hw:=wgT rfl e3b)
          intro z8h hz8h
          refine nrm ?_
          refine sV (Aa rfl) ?_ (hw:=wgT rfl e3b)
          obtain ⟨m1x,h6ag,f7ag⟩:=Ab f4ag
          refine Bm 10 (fun l l' w'=>∃(t9m:Value) (t0n:Value),w6c=w'∧l'=(((l.set 122 t9m).set 123 t0n).set 124 (.bool m1x))) ?_ ?_
          ·intro HJ792
           rcases zi hz8h h6ag with ⟨e0e,_,f8ag⟩ | ⟨e0e,_,f9ag⟩
           ·refine sP ?_ (hw:=wgF rfl e0e)
            refine sP ?_ (hw:=wgF rfl e0e)
            refine sV (Ar (evb rfl e0e) rfl) ?_ (hw:=wgT rfl e3b)
            obtain rfl:=sj f8ag
            exact HJ792 _ _ ⟨uu,uu,rfl,(by simp only [S0,S1]<;>rfl)⟩
           ·refine sV (Aa rfl) ?_ (hw:=wgT rfl e0e)
            refine sb (HT rfl rfl) ?_ (hw:=wgT rfl e0e)
            intro z1n hz1n
            refine nrm ?_
            refine sV (Aw (evb rfl e0e) rfl) ?_ (hw:=wgT rfl e3b)
            obtain rfl:z1n=decide (¬r3a.1=0):=bz hz1n
            obtain rfl:=sj f9ag
            exact HJ792 _ _ ⟨(.int .i64 r3a.1),(.bool (decide (¬r3a.1=0))),rfl,(by simp only [S0,S1]<;>rfl)⟩
          ·rintro l' _ ⟨t9m,t0n,rfl,hq'⟩ l'' hl
           rw [hq'] at hl
           clear hq'
           simp only [S0,S1] at hl
           subst hl
           refine sV (Ar (evb rfl e3b) rfl) ?_
           obtain rfl:=sj f7ag
           exact HJ773 _ _ ⟨(.int .i64 r3a.2),(.bool z8h),(.bool z8h),t9m,t0n,(.bool m1x),rfl,(by simp only [S0,S1]<;>rfl)⟩
         ·refine sP ?_ (hw:=wgF rfl e3b)
          refine sP ?_ (hw:=wgF rfl e3b)
          refine sP ?_ (hw:=wgF rfl e3b)
          refine sP ?_
          refine sP ?_
          refine sP ?_ (hw:=wgF rfl e3b)
          refine sV (Aw (evb rfl e3b) rfl) ?_
          obtain rfl:=sj f5ag
          exact HJ773 _ _ ⟨uu,uu,uu,uu,uu,uu,rfl,(by simp only [S0,S1]<;>rfl)⟩
        ·rintro l' _ ⟨t5w,t6w,t7w,t8w,t9w,t0x,rfl,hq'⟩ l'' hl
         rw [hq'] at hl
         clear hq'
         simp only [S0,S1] at hl
         subst hl
         refine sV (Aa rfl) ?_
         obtain ⟨m0ah,h1ah,f2ah⟩:=Ab f3ag
         refine Bm 26 (fun l l' w'=>∃(t2x:Value) (t3x:Value) (t4x:Value) (t5x:Value) (t6x:Value) (t7x:Value) (t8x:Value) (t9x:Value) (t0y:Value) (t1y:Value) (t2y:Value) (t3y:Value) (t4y:Value),UpdS [] w6c w'∧l'=((((((((((((((l.set 127 t2x).set 128 t3x).set 129 t4x).set 130 t5x).set 131 t6x).set 132 t7x).set 133 t8x).set 134 t9x).set 135 t0y).set 136 t1y).set 137 t2y).set 138 t3y).set 139 t4y).set 140 (.bool m0ah))) ?_ ?_
         ·intro HJ983
          rcases zb h1ah with ⟨e4b,f3ah⟩ | ⟨e4b,f4ah⟩
          ·refine sP ?_ (hw:=wgF rfl e4b)
           refine sP ?_ (hw:=wgF rfl e4b)
           refine sP ?_ (hw:=wgF rfl e4b)
           refine sP ?_
           refine sP ?_
           refine sP ?_
           refine sP ?_
           refine sP ?_
           refine sP ?_
           refine sP ?_
           refine sP ?_
           refine sP ?_
           refine sP ?_ (hw:=wgF rfl e4b)
           refine sV (Ar (evb rfl e4b) rfl) ?_
           obtain rfl:=sj f3ah
           exact HJ983 _ _ ⟨uu,uu,uu,uu,uu,uu,uu,uu,uu,uu,uu,uu,uu,(UpdS.refl _ _),(by simp only [S0,S1]<;>rfl)⟩
          ·refine sV (Al Kl rfl (q8m.ext E8c) rfl) ?_ (hw:=wgT rfl e4b)
           obtain ⟨r2n,h5ah,f6ah⟩:=Ab f4ah
           refine sc (Ad Rc (by rfl)) (Jg x2 A7 c8 A5a c6a w6c (tbx X0f hT) (n9.ext X0f) (n9c.ext X0f) r2n h5ah) ?_ (hw:=wgT rfl e4b)
           rintro _ w9a E9h rfl
           refine nrm ?_
           have X0i:=xtr X0f E9h
           refine sV (Aa rfl) ?_ (hw:=wgT rfl e4b)
           obtain ⟨m5y,h7ah,f8ah⟩:=Ab f6ah
           refine Bm 25 (fun l l' w'=>∃(t3n:Value) (t4n:Value) (t5n:Value) (t6n:Value) (t7n:Value) (t8n:Value) (t9n:Value) (t0o:Value) (t1o:Value),UpdS [] w9a w'∧l'=((((((((((l.set 130 t3n).set 131 t4n).set 132 t5n).set 133 t6n).set 134 t7n).set 135 t8n).set 136 t9n).set 137 t0o).set 138 t1o).set 139 (.bool m5y))) ?_ ?_
           ·intro HJ1078
            rcases zb h7ah with ⟨e5b,f9ah⟩ | ⟨e5b,f0ai⟩
            ·refine sV (Aa rfl) ?_ (hw:=wgT rfl e5b)
             refine sb (HT rfl rfl) ?_ (hw:=wgT rfl e5b)
             intro z1i hz1i
             refine nrm ?_
             refine sV (Aa rfl) ?_ (hw:=wgT rfl e5b)
             obtain ⟨m6y,h1ai,f2ai⟩:=Ab f9ah
             refine Bm 24 (fun l l' w'=>∃(t2o:Value) (t3o:Value) (t4o:Value) (t5o:Value) (t6o:Value),UpdS [] w9a w'∧l'=((((((l.set 133 t2o).set 134 t3o).set 135 t4o).set 136 t5o).set 137 t6o).set 138 (.bool m6y))) ?_ ?_
             ·intro HJ1121
              rcases zi hz1i h1ai with ⟨e8a,_,f3ai⟩ | ⟨e8a,_,f4ai⟩
              ·refine sP ?_ (hw:=wgF rfl e8a)
               refine sP ?_ (hw:=wgF rfl e8a)
               refine sP ?_ (hw:=wgF rfl e8a)
               refine sP ?_ (hw:=wgF rfl e8a)
               refine sP ?_ (hw:=wgF rfl e8a)
               refine sV (Ar (evb rfl e8a) rfl) ?_ (hw:=wgT rfl e5b)
               obtain rfl:=sj f3ai
               exact HJ1121 _ _ ⟨uu,uu,uu,uu,uu,(UpdS.refl _ _),(by simp only [S0,S1]<;>rfl)⟩
              ·refine sV (Aa rfl) ?_ (hw:=wgT rfl e8a)
               have q5ai:=((((((q1g.ext E0d).ext F7c).ext E2c).ext E3c).updS U9d nm0).ext E8c).ext E9h
               refine sV (Al Bt rfl q5ai rfl) ?_ (hw:=wgT rfl e8a)
               refine sV (Al Kl rfl ((q8m.ext E8c).ext E9h) rfl) ?_ (hw:=wgT rfl e8a)
               obtain ⟨m7y,h6ai,f7ai⟩:=Ab f4ai
               have hx8y:=BO h6ai
               have n8ai:RU w9a A1 c2 m7y:=by unfold RU;rw [hx8y];exact (n3.ext X0i)
               obtain ⟨m9y,h9ai,f0aj⟩:=Ab f7ai
               have hx0z:=BO h9ai
               have n1aj:RU w9a A7 c8 m9y:=by unfold RU;rw [hx0z];exact (n9.ext X0i)
               obtain ⟨m1z,h2aj,f3aj⟩:=Ab f0aj
               have hx2z:=BO h2aj
               have n4aj:RU w9a A5a c6a m1z:=by unfold RU;rw [hx2z];exact (n9c.ext X0i)
               obtain ⟨r2i,h5aj,f6aj⟩:=Ab f3aj
               refine sc (Ad en_84 (by simp only [sz,hx8y,hx0z,hx2z];rfl)) (c_sorobanref04_CompareRat (⟨(⟨x0.Man.Neg,m7y⟩:Ah),x0.Exp⟩:Ak) (⟨(⟨x2.Num.Neg,m9y⟩:Ah),m1z⟩:Cz) A1 c2 A7 c8 A5a c6a w9a (tbx X0i hT) n8ai n1aj n4aj r2i h5aj) ?_ (hw:=wgT rfl e8a)
               rintro _ w4f E7aj rfl
               refine nrm ?_
               refine sb (HT rfl rfl) ?_ (hw:=wgT rfl e8a)
               intro z7o hz7o
               refine nrm ?_
               refine sV (Aw (evb rfl e8a) rfl) ?_ (hw:=wgT rfl e5b)
               obtain rfl:z7o=decide (¬r3a.1=r2i):=bz hz7o
               obtain rfl:=sj f6aj
               exact HJ1121 _ _ ⟨(.int .i64 r3a.1),(.agg #[.bool x0.Man.Neg,.slice A1 x0.Man.Abs.length c2,.int .i64 x0.Exp]),(.agg #[.bool x2.Num.Neg,.slice A7 x2.Num.Abs.length c8,.slice A5a x2.Den.length c6a]),(.int .i64 r2i),(.bool (decide (¬r3a.1=r2i))),((UpdS.refl _ _).ext E7aj),(by simp only [S0,S1]<;>rfl)⟩
             ·rintro l' w4f ⟨t2o,t3o,t4o,t5o,t6o,U8aj,hq'⟩ l'' hl
              rw [hq'] at hl
              clear hq'
              simp only [S0,S1] at hl
              subst hl
              refine sV (Ar (evb rfl e5b) rfl) ?_ (hw:=wgT rfl e4b)
              obtain rfl:=sj f2ai
              exact HJ1078 _ _ ⟨(.int .i64 r3a.2),(.bool z1i),(.bool z1i),t2o,t3o,t4o,t5o,t6o,(.bool m6y),((UpdS.refl _ _).updS U8aj al0),(by simp only [S0,S1]<;>rfl)⟩
            ·refine sP ?_ (hw:=wgF rfl e5b)
             refine sP ?_ (hw:=wgF rfl e5b)
             refine sP ?_ (hw:=wgF rfl e5b)
             refine sP ?_
             refine sP ?_
             refine sP ?_
             refine sP ?_
             refine sP ?_
             refine sP ?_ (hw:=wgF rfl e5b)
             refine sV (Aw (evb rfl e5b) rfl) ?_ (hw:=wgT rfl e4b)
             obtain rfl:=sj f0ai
             exact HJ1078 _ _ ⟨uu,uu,uu,uu,uu,uu,uu,uu,uu,(UpdS.refl _ _),(by simp only [S0,S1]<;>rfl)⟩
           ·rintro l' w4f ⟨t3n,t4n,t5n,t6n,t7n,t8n,t9n,t0o,t1o,U9aj,hq'⟩ l'' hl
            rw [hq'] at hl
            clear hq'
            simp only [S0,S1] at hl
            subst hl
            refine sV (Aw (evb rfl e4b) rfl) ?_
            obtain rfl:=sj f8ah
            exact HJ983 _ _ ⟨(.agg #[.bool x2.Num.Neg,.slice A7 x2.Num.Abs.length c8,.slice A5a x2.Den.length c6a]),(.bool r2n),(.bool r2n),t3n,t4n,t5n,t6n,t7n,t8n,t9n,t0o,t1o,(.bool m5y),(((UpdS.refl _ _).ext E9h).updS U9aj al0),(by simp only [S0,S1]<;>rfl)⟩
         ·rintro l' w9a ⟨t2x,t3x,t4x,t5x,t6x,t7x,t8x,t9x,t0y,t1y,t2y,t3y,t4y,U5g,hq'⟩ l'' hl
          rw [hq'] at hl
          clear hq'
          simp only [S0,S1] at hl
          subst hl
          have X3i:=KR X0f U5g (X0f).size al0
          refine wh h7af ?_
          rcases zb f2ah with ⟨e8o,f0ak⟩ | ⟨e8o,f1ak⟩
          ·refine wp_cond_true (Ai (evb rfl e8o))<|wp_seq_k fun _ h2ak=>Ae<|sV (Ac rfl) ?_
           refine wh h2ak<|wp_ret ?_
           obtain rfl:=sj f0ak
           exact fin rfl (Res.tmp rfl Res.nil) (Aj X3i rfl)
          ·refine wp_cond_false (Ai (evb rfl e8o))<|wp_skip<|h6af _ _<|wp_seq_k fun _ h3ak=>wp_seq_k fun _ h4ak=>Ae<|have q9o:=((((((q1g.ext E0d).ext F7c).ext E2c).ext E3c).updS U9d nm0).ext E8c).updS U5g nm0;sV (Al Bt rfl q9o rfl) ?_
           obtain ⟨m1f,h5ak,f6ak⟩:=Ab f1ak
           have hx2f:=BO h5ak
           have n7ak:RU w9a A1 c2 m1f:=by unfold RU;rw [hx2f];exact (n3.ext X3i)
           obtain ⟨r8ak,h9ak,f0al⟩:=Ab f6ak
           refine sc (Ad Rl (by simp only [sz,hx2f];rfl)) (Jp (⟨(⟨x0.Man.Neg,m1f⟩:Ah),x0.Exp⟩:Ak) A1 c2 w9a (tbx X3i hT) n7ak r8ak h9ak) ?_
           rintro _ w4f E3f rfl
           refine nrm ?_
           have X0p:=xtr X3i E3f
           refine sb (Bl rfl rfl) fun z3z hz3z=>?_
           refine nrm ?_
           refine wh h4ak ?_
           rcases zi hz3z f0al with ⟨e1p,_,f1al⟩ | ⟨e1p,_,f2al⟩
           ·refine wp_cond_true (Ai (evb rfl e1p))<|wp_seq_k fun _ h3al=>Ae ?_
            obtain ⟨r4al,h5al,f6al⟩:=Ab f1al
            refine sc (Ad PM (by rfl)) (FZ w4f (tbx X0p hT)  r4al h5al) ?_
            rintro _ w1c E4z rfl
            refine nrm ?_
            have X7al:=xtr X0p E4z
            refine sV (Aa rfl) ?_
            obtain ⟨m8al,h9al,f0am⟩:=Ab f6al
            refine Bm 5 (fun l l' w'=>∃(t5z:Value) (t6z:Value),w1c=w'∧l'=(((l.set 146 t5z).set 147 t6z).set 148 (.bool m8al))) ?_ ?_
            ·intro HJ1374
             rcases zb h9al with ⟨e1e,f1am⟩ | ⟨e1e,f2am⟩
             ·refine sV (Aa rfl) ?_ (hw:=wgT rfl e1e)
              refine sb (Bl rfl rfl) ?_ (hw:=wgT rfl e1e)
              intro z2p hz2p
              refine nrm ?_
              refine sV (Ar (evb rfl e1e) rfl) ?_
              obtain rfl:z2p=decide (r1a.2=5):=bz hz2p
              obtain rfl:=sj f1am
              exact HJ1374 _ _ ⟨(.int .i64 r1a.2),(.bool (decide (r1a.2=5))),rfl,(by simp only [S0,S1]<;>rfl)⟩
             ·refine sP ?_ (hw:=wgF rfl e1e)
              refine sP ?_ (hw:=wgF rfl e1e)
              refine sV (Aw (evb rfl e1e) rfl) ?_
              obtain rfl:=sj f2am
              exact HJ1374 _ _ ⟨uu,uu,rfl,(by simp only [S0,S1]<;>rfl)⟩
            ·rintro l' _ ⟨t5z,t6z,rfl,hq'⟩ l'' hl
             rw [hq'] at hl
             clear hq'
             simp only [S0,S1] at hl
             subst hl
             refine sV (Aa rfl) ?_
             obtain ⟨m3am,h4am,f5am⟩:=Ab f0am
             refine Bm 9 (fun l l' w'=>∃(t7z:Value) (t8z:Value),w1c=w'∧l'=(((l.set 150 t7z).set 151 t8z).set 152 (.bool m3am))) ?_ ?_
             ·intro HJ1393
              rcases zb h4am with ⟨e2e,f6am⟩ | ⟨e2e,f7am⟩
              ·refine sV (Aa rfl) ?_ (hw:=wgT rfl e2e)
               refine sb (Bl rfl rfl) ?_ (hw:=wgT rfl e2e)
               intro z3p hz3p
               refine nrm ?_
               refine sV (Ar (evb rfl e2e) rfl) ?_
               obtain rfl:z3p=decide (r1a.1=0):=bz hz3p
               obtain rfl:=sj f6am
               exact HJ1393 _ _ ⟨(.int .i64 r1a.1),(.bool (decide (r1a.1=0))),rfl,(by simp only [S0,S1]<;>rfl)⟩
              ·refine sP ?_ (hw:=wgF rfl e2e)
               refine sP ?_ (hw:=wgF rfl e2e)
               refine sV (Aw (evb rfl e2e) rfl) ?_
               obtain rfl:=sj f7am
               exact HJ1393 _ _ ⟨uu,uu,rfl,(by simp only [S0,S1]<;>rfl)⟩
             ·rintro l' _ ⟨t7z,t8z,rfl,hq'⟩ l'' hl
              rw [hq'] at hl
              clear hq'
              simp only [S0,S1] at hl
              subst hl
              refine sV (Aa rfl) ?_
              obtain ⟨m8am,h9am,f0an⟩:=Ab f5am
              refine Bm 13 (fun l l' w'=>∃(t9z:Value) (t0a0:Value),w1c=w'∧l'=(((l.set 154 t9z).set 155 t0a0).set 156 (.bool m8am))) ?_ ?_
              ·intro HJ1412
               rcases zb h9am with ⟨e3e,f1an⟩ | ⟨e3e,f2an⟩
               ·refine sV (Aa rfl) ?_ (hw:=wgT rfl e3e)
                refine sb (Bl rfl rfl) ?_ (hw:=wgT rfl e3e)
                intro z4p hz4p
                refine nrm ?_
                refine sV (Ar (evb rfl e3e) rfl) ?_
                obtain rfl:z4p=decide (r0a.2=0):=bz hz4p
                obtain rfl:=sj f1an
                exact HJ1412 _ _ ⟨(.int .i64 r0a.2),(.bool (decide (r0a.2=0))),rfl,(by simp only [S0,S1]<;>rfl)⟩
               ·refine sP ?_ (hw:=wgF rfl e3e)
                refine sP ?_ (hw:=wgF rfl e3e)
                refine sV (Aw (evb rfl e3e) rfl) ?_
                obtain rfl:=sj f2an
                exact HJ1412 _ _ ⟨uu,uu,rfl,(by simp only [S0,S1]<;>rfl)⟩
              ·rintro l' _ ⟨t9z,t0a0,rfl,hq'⟩ l'' hl
               rw [hq'] at hl
               clear hq'
               simp only [S0,S1] at hl
               subst hl
               refine sV (Aa rfl) ?_
               obtain ⟨m3an,h4an,f5an⟩:=Ab f0an
               refine Bm 19 (fun l l' w'=>∃(t1a0:Value) (t2a0:Value) (t3a0:Value) (t4a0:Value),w1c=w'∧l'=(((((l.set 158 t1a0).set 159 t2a0).set 160 t3a0).set 161 t4a0).set 162 (.bool m3an))) ?_ ?_
               ·intro HJ1434
                rcases zb h4an with ⟨e7b,f6an⟩ | ⟨e7b,f7an⟩
                ·refine sV (Ag (o':=1) Bf rfl rfl) ?_ (hw:=wgT rfl e7b)
                 have q8an:=((((((q5j.ext E2c).ext E3c).updS U9d nm0).ext E8c).updS U5g nm0).ext E3f).ext E4z
                 refine sV (Af BJ rfl (Bx.cell q8an rfl)) ?_ (hw:=wgT rfl e7b)
                 refine sV (Ax AH rfl) ?_ (hw:=wgT rfl e7b)
                 refine sb (Bl rfl rfl) ?_ (hw:=wgT rfl e7b)
                 intro z5p hz5p
                 refine nrm ?_
                 refine sV (Ar (evb rfl e7b) rfl) ?_
                 obtain rfl:z5p=decide ((sz r0a.1.Abs:Int)=0):=bz hz5p
                 obtain rfl:=sj f6an
                 exact HJ1434 _ _ ⟨(.pointer (some ⟨b5r,1,none⟩)),(.slice A3j (sz r0a.1.Abs) c4j),(.int .i64 (sz r0a.1.Abs:Int)),(.bool (decide ((sz r0a.1.Abs:Int)=0))),rfl,(by simp only [S0,S1]<;>rfl)⟩
                ·refine sP ?_ (hw:=wgF rfl e7b)
                 refine sP ?_ (hw:=wgF rfl e7b)
                 refine sP ?_ (hw:=wgF rfl e7b)
                 refine sP ?_ (hw:=wgF rfl e7b)
                 refine sV (Aw (evb rfl e7b) rfl) ?_
                 obtain rfl:=sj f7an
                 exact HJ1434 _ _ ⟨uu,uu,uu,uu,rfl,(by simp only [S0,S1]<;>rfl)⟩
               ·rintro l' _ ⟨t1a0,t2a0,t3a0,t4a0,rfl,hq'⟩ l'' hl
                rw [hq'] at hl
                clear hq'
                simp only [S0,S1] at hl
                subst hl
                refine sV (Ac rfl) ?_
                refine wh h3al<|wp_ret ?_
                obtain rfl:=sj f5an
                exact fin rfl (Res.tmp rfl Res.nil) (Aj X7al rfl)
           ·refine wp_cond_false (Ai (evb rfl e1p))<|wp_skip<|h3ak _ _<|wp_seq_k fun _ h6p=>Dn [] 22 mo rfl fun w1c E6g S9an=>?_
            have X5a0:=xtr X0p E6g
            obtain ⟨r0ao,h1ao,f2ao⟩:=Ab f2al
            refine dc 0 rfl (by kernel_rfl) (by rfl) (Ad PM (by rfl)) (FZ w1c (tbx X5a0 hT)  r0ao h1ao) ?_
            rintro _ w5f E7p rfl
            refine dnrm ?_
            have X4i:=xtr X5a0 E7p
            have S6a0:=S9an.trans E7p
            refine dA 1 rfl (fun _=>Aa rfl) ?_
            obtain ⟨m3ao,h4ao,f5ao⟩:=Ab f2ao
            refine IN #[true,true,true,true,true,false,false,false,false,false,false,false,false,false,false,false,false,false,false,false,false,false] 17 (fun l l' w'=>∃(t7a0:Value) (t8a0:Value),w5f=w'∧l'=(((l.set 165 t7a0).set 166 t8a0).set 167 (.bool m3ao))) ?_ ?_
            ·intro HJ1295
             rcases zb h4ao with ⟨e4e,f6ao⟩ | ⟨e4e,f7ao⟩
             ·refine dA 2 rfl (fun _=>Aa rfl) ?_ (hw:=wgT rfl e4e)
              refine dab 3 rfl (by kernel_rfl) (fun _ _ _ h=>h) (wgT rfl e4e) (fun _=>Bl rfl rfl) fun z8p hz8p=>?_
              refine dnrm ?_
              refine dA 4 rfl (fun _=>Ar (evb rfl e4e) rfl) ?_
              obtain rfl:z8p=decide (r1a.2=0):=bz hz8p
              obtain rfl:=sj f6ao
              exact EL (by kernel_rfl) (HJ1295 _ _ ⟨(.int .i64 r1a.2),(.bool (decide (r1a.2=0))),rfl,(by simp only [S0,S1]<;>rfl)⟩)
             ·refine dP 2 rfl ?_ (hw:=wgF rfl e4e)
              refine dP 3 rfl ?_ (hw:=wgF rfl e4e)
              refine dA 4 rfl (fun _=>Aw (evb rfl e4e) rfl) ?_
              obtain rfl:=sj f7ao
              exact EL (by kernel_rfl) (HJ1295 _ _ ⟨uu,uu,rfl,(by simp only [S0,S1]<;>rfl)⟩)
            ·rintro l' _ ⟨t7a0,t8a0,rfl,hq'⟩ l'' hl
             rw [hq'] at hl
             clear hq'
             simp only [S0,S1] at hl
             subst hl
             refine dA 5 rfl (fun _=>Aa rfl) ?_
             rcases zb f5ao with ⟨e8b,f8ao⟩ | ⟨e8b,f9ao⟩
             ·refine dA 6 rfl (fun _=>Aa rfl) ?_ (hw:=wgT rfl e8b)
              refine dV 7 rfl (fun _ hw=>Al Bt rfl (((q9o.ext E3f).ext E6g).ext hw) rfl) S6a0 ?_ (hw:=wgT rfl e8b)
              have n0ap:RU w5f A1 c2 m1f:=by unfold RU;rw [hx2f];exact (n3.ext X4i)
              obtain ⟨r1ap,h2ap,f3ap⟩:=Ab f8ao
              refine dc 8 rfl (by kernel_rfl) (wgT rfl e8b) (Ad en_85 (by simp only [sz,hx2f];rfl)) (c_sorobanref04_Top (⟨(⟨x0.Man.Neg,m1f⟩:Ah),x0.Exp⟩:Ak) A1 c2 w5f (tbx X4i hT) n0ap r1ap h2ap) ?_
              rintro _ w6e E9p rfl
              refine dnrm ?_
              have X5i:=xtr X4i E9p
              have S0q:=S6a0.trans E9p
              refine dab 9 rfl (by kernel_rfl) (fun _ _ _ h=>h) (wgT rfl e8b) (fun _=>Bl rfl rfl) fun z9a0 hz9a0=>?_
              refine dnrm ?_
              refine dA 10 rfl (fun _=>Ar (evb rfl e8b) rfl) ?_
              refine dA 11 rfl (fun _=>Aa rfl) ?_
              obtain ⟨m4ap,h5ap,f6ap⟩:=Ab f3ap
              refine IN #[true,true,true,true,true,true,true,true,true,true,true,true,true,true,true,false,false,false,false,false,false,false] 7 (fun l l' w'=>∃(t0a1:Value) (t1a1:Value),w6e=w'∧l'=(((l.set 175 t0a1).set 176 t1a1).set 177 (.bool m4ap))) ?_ ?_
              ·intro HJ1327
               rcases zi hz9a0 h5ap with ⟨e5e,_,f7ap⟩ | ⟨e5e,_,f8ap⟩
               ·refine dA 12 rfl (fun _=>Aa rfl) ?_ (hw:=wgT rfl e5e)
                refine dab 13 rfl (by kernel_rfl) (fun _ _ _ h=>h) (wgT rfl e5e) (fun _=>Bl rfl rfl) fun z1q hz1q=>?_
                refine dnrm ?_
                refine dA 14 rfl (fun _=>Ar (evb rfl e5e) rfl) ?_
                obtain rfl:z1q=decide (r0a.2=0):=bz hz1q
                obtain rfl:=sj f7ap
                exact EL (by kernel_rfl) (HJ1327 _ _ ⟨(.int .i64 r0a.2),(.bool (decide (r0a.2=0))),rfl,(by simp only [S0,S1]<;>rfl)⟩)
               ·refine dP 12 rfl ?_ (hw:=wgF rfl e5e)
                refine dP 13 rfl ?_ (hw:=wgF rfl e5e)
                refine dA 14 rfl (fun _=>Aw (evb rfl e5e) rfl) ?_
                obtain rfl:=sj f8ap
                exact EL (by kernel_rfl) (HJ1327 _ _ ⟨uu,uu,rfl,(by simp only [S0,S1]<;>rfl)⟩)
              ·rintro l' _ ⟨t0a1,t1a1,rfl,hq'⟩ l'' hl
               rw [hq'] at hl
               clear hq'
               simp only [S0,S1] at hl
               subst hl
               refine dA 15 rfl (fun _=>Aa rfl) ?_
               rcases zb f6ap with ⟨e9b,f9ap⟩ | ⟨e9b,f0aq⟩
               ·refine dV 16 rfl (fun _ hw=>Al Dq rfl ((((((((q5j.ext E2c).ext E3c).updS U9d nm0).ext E8c).updS U5g nm0).ext E3f).ext E6g).ext hw) rfl) S0q ?_ (hw:=wgT rfl e9b)
                refine dV 17 rfl (fun _ hw=>Al Bt rfl (((q9o.ext E3f).ext E6g).ext hw) rfl) S0q ?_ (hw:=wgT rfl e9b)
                have n1aq:RU w6e A1 c2 m1f:=by unfold RU;rw [hx2f];exact (n3.ext X5i)
                obtain ⟨r2a1,h2aq,f3aq⟩:=Ab f9ap
                refine dc 18 rfl (by kernel_rfl) (wgT rfl e9b) (Ad en_87 (by simp only [sz,hx2f];rfl)) (c_sorobanref04_Floor (⟨(⟨x0.Man.Neg,m1f⟩:Ah),x0.Exp⟩:Ak) A1 c2 w6e (tbx X5i hT) n1aq r2a1 h2aq) ?_
                rintro _ w3q E2q ⟨A4aq,c5aq,rfl,n6aq⟩
                refine dnrm ?_
                have X3a1:=xtr X5i E2q
                have S7aq:=S0q.trans E2q
                have n8aq:=((((((((((n6a5.ext F7c).ext E2c).ext E3c).updS U9d al0).ext E8c).updS U5g al0).ext E3f).ext E6g).ext E7p).ext E9p).ext E2q
                obtain ⟨r9aq,h0ar,f1ar⟩:=Ab f3aq
                refine dc 19 rfl (by kernel_rfl) (wgT rfl e9b) (Ad Rf (by rfl)) (ID r0a.1 r2a1 A3j c4j A4aq c5aq w3q (tbx X3a1 hT) n8aq n6aq r9aq h0ar) ?_
                rintro _ w6i E4a1 rfl
                refine dnrm ?_
                have X2ar:=xtr X3a1 E4a1
                have S6ar:=S7aq.trans E4a1
                refine dA 20 rfl (fun _=>Ar (evb rfl e9b) rfl) ?_
                refine dA 21 rfl (fun _=>Ac rfl) ?_
                refine Cn (by kernel_rfl) ?_
                refine h6p _ _<|wp_ret ?_
                obtain rfl:=sj f1ar
                exact fin rfl (Res.tmp rfl Res.nil) (Aj X2ar rfl)
               ·refine dP 16 rfl ?_ (hw:=wgF rfl e9b)
                refine dP 17 rfl ?_ (hw:=wgF rfl e9b)
                refine dP 18 rfl ?_ (hw:=wgF rfl e9b)
                refine dP 19 rfl ?_ (hw:=wgF rfl e9b)
                refine dA 20 rfl (fun _=>Aw (evb rfl e9b) rfl) ?_
                refine dA 21 rfl (fun _=>Ac rfl) ?_
                refine Cn (by kernel_rfl) ?_
                refine h6p _ _<|wp_ret ?_
                obtain rfl:=sj f0aq
                exact fin rfl (Res.tmp rfl Res.nil) (Aj X5i rfl)
             ·refine dP 6 rfl ?_ (hw:=wgF rfl e8b)
              refine dP 7 rfl ?_ (hw:=wgF rfl e8b)
              refine dP 8 rfl ?_ (hw:=wgF rfl e8b)
              refine dP 9 rfl ?_ (hw:=wgF rfl e8b)
              refine dA 10 rfl (fun _=>Aw (evb rfl e8b) rfl) ?_
              refine dA 11 rfl (fun _=>Aa rfl) ?_
              refine dP 12 rfl ?_ (hw:=wgF rfl rfl)
              refine dP 13 rfl ?_ (hw:=wgF rfl rfl)
              refine dA 14 rfl (fun _=>Aw (evb rfl rfl) rfl) ?_
              refine dA 15 rfl (fun _=>Aa rfl) ?_
              refine dP 16 rfl ?_ (hw:=wgF rfl rfl)
              refine dP 17 rfl ?_ (hw:=wgF rfl rfl)
              refine dP 18 rfl ?_ (hw:=wgF rfl rfl)
              refine dP 19 rfl ?_ (hw:=wgF rfl rfl)
              refine dA 20 rfl (fun _=>Aw (evb rfl rfl) rfl) ?_
              refine dA 21 rfl (fun _=>Ac rfl) ?_
              refine Cn (by kernel_rfl) ?_
              refine h6p _ _<|wp_ret ?_
              obtain rfl:=sj f9ao
              exact fin rfl (Res.tmp rfl Res.nil) (Aj X4i rfl)
end Go.Proofs

