import Derived.Test.YtabiobmfelafoaaGreatDoorGen4
namespace Go.Proofs
set_option linter.unusedVariables false
set_option linter.unusedSimpArgs false
set_option maxHeartbeats 4000000
open Go.RowKit Go.Sb Go.Proofs.Sbn
theorem c_ratio_Valid (x0:GV) (A1:Option Addr) (c2:Nat) (A4:Option Addr) (c5:Nat) (w:World) (hT:TB w) (n3:RLu w A1 c2 x0.Num.Abs) (n6:RLu w A4 c5 x0.Den) (r:Bool) (hr:FO x0=some r) :
  Calls Tryz.prog 141 #[.agg #[.bool x0.Num.Neg,.slice A1 x0.Num.Abs.length c2,.slice A4 x0.Den.length c5]] w (Ret FN w r):=by
 unfold FO at hr
 go_enter Tryz.func141,Tryz.ntmps141
 refine wp_seq_k fun _ h7=>Af<|Bm rfl rfl fun b8 w1 E9 g5i q4a=>?_
 refine nrm ?_
 refine sV (Ab rfl) ?_
 refine wh h7<|wp_seq_k fun _ h0e=>wp_seq_k fun _ h1e=>Af<|sV2 (Ah (o':=0) OH rfl rfl) (dld GS q4a) ?_
 refine scr hr (Ad Oj (by rfl)) (Ju x0.Num A1 c2 w1 (tbx E9 hT) (n3.ext E9)) fun r6i f2e w2 E5a=>?_
 have X8a:=xtr E9 E5a
 refine sb (Fq rfl) fun z7b hz7b=>?_
 refine nrm ?_
 refine sV (Aa rfl) ?_
 obtain ⟨m3e,h4e,f5e⟩:=Ac f2e
 refine BH 10 (fun l l' w'=>∃(t8b:Value) (t9b:Value) (t0c:Value) (t1c:Value),UpdS [] w2 w'∧l'=(((((l.set 10 t8b).set 11 t9b).set 12 t0c).set 13 t1c).set 14 (.bool m3e))) ?_ ?_
 ·intro HJ39
  rcases zi hz7b h4e with ⟨e0a,_,f6e⟩ | ⟨e0a,_,f7e⟩
  ·refine sQ rfl e0a ?_
   refine sQ rfl e0a ?_
   refine sQ rfl e0a ?_
   refine sQ rfl e0a ?_
   refine sV (AA (evb rfl e0a) rfl) ?_
   obtain rfl:=sj f6e
   exact HJ39 _ _ ⟨uu,uu,uu,uu,(UpdS.refl _ _),(by kernel_rfl)⟩
  ·refine sV (Ah (o':=2) Nh rfl rfl) ?_ (hw:=wgT rfl e0a)
   refine sV (Ai Gf rfl (Bx.cell (q4a.ext E5a) rfl)) ?_ (hw:=wgT rfl e0a)
   refine scr f7e (Ad PR (by rfl)) (JH x0.Den A4 c5 w2 (tbx X8a hT) (n6.ext X8a)) (fun r0b f8e w3 E9e=>?_) (hw:=wgT rfl e0a)
   refine sb (Fq rfl) ?_ (hw:=wgT rfl e0a)
   intro z1b hz1b
   refine nrm ?_
   refine sV (AC (evb rfl e0a) rfl) ?_
   obtain rfl:z1b=decide (¬(r0b=true)):=bz hz1b
   obtain rfl:=sj f8e
   exact HJ39 _ _ ⟨(.pointer (some ⟨b8,2,none⟩)),(.slice A4 x0.Den.length c5),(.bool r0b),(.bool (decide (¬(r0b=true)))),((UpdS.refl _ _).ext E9e),(by kernel_rfl)⟩
 ·rintro l' w3 ⟨t8b,t9b,t0c,t1c,U9a,hq'⟩ l'' hl
  rw [hq'] at hl
  clear hq'
  simp only [S0,S1] at hl
  subst hl
  have X6a:=Jf X8a U9a (X8a).size al0
  refine sV (Aa rfl) ?_
  obtain ⟨m0f,h1f,f2f⟩:=Ac f5e
  refine BH 16 (fun l l' w'=>∃(t2c:Value) (t3c:Value) (t4c:Value) (t5c:Value),w3=w'∧l'=(((((l.set 16 t2c).set 17 t3c).set 18 t4c).set 19 t5c).set 20 (.bool m0f))) ?_ ?_
  ·intro HJ66
   rcases zb h1f with ⟨e1a,f3f⟩ | ⟨e1a,f4f⟩
   ·refine sQ rfl e1a ?_
    refine sQ rfl e1a ?_
    refine sQ rfl e1a ?_
    refine sQ rfl e1a ?_
    refine sV (AA (evb rfl e1a) rfl) ?_
    obtain rfl:=sj f3f
    exact HJ66 _ _ ⟨uu,uu,uu,uu,rfl,(by kernel_rfl)⟩
   ·refine sV (Ah (o':=2) Nh rfl rfl) ?_ (hw:=wgT rfl e1a)
    refine sV (Ai Gf rfl (Bx.cell ((q4a.ext E5a).updS U9a nm0) rfl)) ?_ (hw:=wgT rfl e1a)
    refine sV (AG Dn rfl) ?_ (hw:=wgT rfl e1a)
    refine sb (CG rfl rfl) ?_ (hw:=wgT rfl e1a)
    intro z2b hz2b
    refine nrm ?_
    refine sV (AC (evb rfl e1a) rfl) ?_
    obtain rfl:z2b=decide ((x0.Den.length:Int)=0):=bz hz2b
    obtain rfl:=sj f4f
    exact HJ66 _ _ ⟨(.pointer (some ⟨b8,2,none⟩)),(.slice A4 x0.Den.length c5),(.int .i64 (x0.Den.length:Int)),(.bool (decide ((x0.Den.length:Int)=0))),rfl,(by kernel_rfl)⟩
  ·rintro l' _ ⟨t2c,t3c,t4c,t5c,rfl,hq'⟩ l'' hl
   rw [hq'] at hl
   clear hq'
   simp only [S0,S1] at hl
   subst hl
   refine wh h1e ?_
   rcases zb f2f with ⟨e3b,f5f⟩ | ⟨e3b,f6f⟩
   ·refine wp_cond_true (Ak (evb rfl e3b))<|wp_seq_k fun _ h7f=>Af<|sV (Ab rfl) ?_
    refine wh h7f<|wp_ret ?_
    exact BG f5f X6a rfl
   ·refine wp_cond_false (Ak (evb rfl e3b))<|wp_skip<|h0e _ _<|wp_seq_k fun _ h8f=>Af<|sV3 (Ah (o':=0) OH rfl rfl) (Ah (o':=1) Eb rfl rfl) (Ai Gf rfl (Bx.cell ((q4a.ext E5a).updS U9a nm0) rfl)) ?_
    refine sV2 (Ah (o':=2) Nh rfl rfl) (Ai Gf rfl (Bx.cell ((q4a.ext E5a).updS U9a nm0) rfl)) ?_
    obtain ⟨m6c,h9f,f0g⟩:=Ac f6f
    have hx7c:=AU h9f
    have n1g:RU w3 A1 c2 m6c:=by unfold RU;rw [hx7c];exact (n3.ext X6a)
    obtain ⟨m8c,h2g,f3g⟩:=Ac f0g
    have hx9c:=AU h2g
    have n4g:RU w3 A4 c5 m8c:=by unfold RU;rw [hx9c];exact (n6.ext X6a)
    refine scn f3g (Ad en_209 (by simp only [sz,hx7c,hx9c];rfl)) (c_nat_Gcd m6c m8c A1 c2 A4 c5 w3 (tbx X6a hT) n1g n4g) fun r7a f5g w4 A0d c1d E6g n7g=>?_
    have X8g:=xtr X6a E6g
    refine sV3 (Aa rfl) (Aj rfl rfl) (Aj rfl rfl) ?_
    refine sV2 (Ab rfl) (Ab rfl) ?_
    refine wh h8f<|wp_seq_k fun _ h9g=>Af<|sV (Aa rfl) ?_
    refine sb (CG rfl rfl) fun z2d hz2d=>?_
    refine nrm ?_
    refine sV (Aa rfl) ?_
    obtain ⟨m0h,h1h,f2h⟩:=Ac f5g
    refine BH 7 (fun l l' w'=>∃(t3d:Value) (t4d:Value) (t5d:Value),w4=w'∧l'=((((l.set 33 t3d).set 34 t4d).set 35 t5d).set 36 (.bool m0h))) ?_ ?_
    ·intro HJ118
     rcases zi hz2d h1h with ⟨e3a,_,f3h⟩ | ⟨e3a,_,f4h⟩
     ·refine sV (Aa rfl) ?_ (hw:=wgT rfl e3a)
      refine sV (AG Dn rfl) ?_ (hw:=wgT rfl e3a)
      refine sb (CG rfl rfl) ?_ (hw:=wgT rfl e3a)
      intro z4b hz4b
      refine nrm ?_
      refine sV (AA (evb rfl e3a) rfl) ?_
      obtain rfl:z4b=decide ((sz r7a.1:Int)=1):=bz hz4b
      obtain rfl:=sj f3h
      exact HJ118 _ _ ⟨(.slice A0d (sz r7a.1) c1d),(.int .i64 (sz r7a.1:Int)),(.bool (decide ((sz r7a.1:Int)=1))),rfl,(by kernel_rfl)⟩
     ·refine sQ rfl e3a ?_
      refine sQ rfl e3a ?_
      refine sQ rfl e3a ?_
      refine sV (AC (evb rfl e3a) rfl) ?_
      obtain rfl:=sj f4h
      exact HJ118 _ _ ⟨uu,uu,uu,rfl,(by kernel_rfl)⟩
    ·rintro l' _ ⟨t3d,t4d,t5d,rfl,hq'⟩ l'' hl
     rw [hq'] at hl
     clear hq'
     simp only [S0,S1] at hl
     subst hl
     refine sV (Aa rfl) ?_
     obtain ⟨m5h,h6h,f7h⟩:=Ac f2h
     refine BH 13 (fun l l' w'=>∃(t6d:Value) (t7d:Value) (t8d:Value) (t9d:Value),w4=w'∧l'=(((((l.set 38 t6d).set 39 t7d).set 40 t8d).set 41 t9d).set 42 (.bool m5h))) ?_ ?_
     ·intro HJ149
      rcases zb h6h with ⟨e2a,f8h⟩ | ⟨e2a,f9h⟩
      ·refine sV (Aa rfl) ?_ (hw:=wgT rfl e2a)
       obtain ⟨u5b,h0i,f1i⟩:=Ac f8h
       obtain ⟨bb158,oo159,hA2i,ia3i,ib4i,hc161⟩:=RL.nth n7g h0i
       refine sV (AD Dn Au rfl rfl hA2i ia3i ib4i) ?_ (hw:=wgT rfl e2a)
       refine sV (Ai Bg rfl hc161) ?_ (hw:=wgT rfl e2a)
       refine sb (CG rfl rfl) ?_ (hw:=wgT rfl e2a)
       intro z6b hz6b
       refine nrm ?_
       refine sV (AA (evb rfl e2a) rfl) ?_
       obtain rfl:z6b=decide (u5b=1):=bz hz6b
       obtain rfl:=sj f1i
       exact HJ149 _ _ ⟨(.slice A0d (sz r7a.1) c1d),(.pointer (some ⟨bb158,oo159+(0:Int).toNat,none⟩)),(.int .u32 u5b),(.bool (decide (u5b=1))),rfl,(by kernel_rfl)⟩
      ·refine sQ rfl e2a ?_
       refine sQ rfl e2a ?_
       refine sQ rfl e2a ?_
       refine sQ rfl e2a ?_
       refine sV (AC (evb rfl e2a) rfl) ?_
       obtain rfl:=sj f9h
       exact HJ149 _ _ ⟨uu,uu,uu,uu,rfl,(by kernel_rfl)⟩
     ·rintro l' _ ⟨t6d,t7d,t8d,t9d,rfl,hq'⟩ l'' hl
      rw [hq'] at hl
      clear hq'
      simp only [S0,S1] at hl
      subst hl
      refine sV (Ab rfl) ?_
      refine wh h9g<|wp_ret ?_
      exact BG f7h X8g rfl
theorem c_dyad_ratOf (x0:Dt) (A1:Option Addr) (c2:Nat) (A4:Option Addr) (c5:Nat) (w:World) (hT:TB w) (n3:RU w A1 c2 x0.Num.Abs) (n6:RU w A4 c5 x0.Den) (r:An × An) (hr:IS x0=some r) :
  Calls Tryz.prog 142 #[.agg #[.bool x0.Num.Neg,.slice A1 (sz x0.Num.Abs) c2,.slice A4 (sz x0.Den) c5]] w (Ret rep_119_119 w r):=by
 unfold IS at hr
 go_enter Tryz.func142,Tryz.ntmps142
 refine wp_seq_k fun _ h7=>Af<|Bm rfl rfl fun b8 w1 E9 g7e q3b=>?_
 refine nrm ?_
 refine Ax Bn fun b8e w2 E7a g9b q4b=>?_
 refine nrm ?_
 have g0c:=nlt E9.size g9b
 have X5b:=xtr E9 E7a
 refine Ax Bn fun b9e w3 E2a g6b q1c=>?_
 refine nrm ?_
 have g2c:=nlt X5b.size g6b
 have X3c:=xtr X5b E2a
 refine wh h7<|wp_seq_k fun _ h4c=>DK [8,9] 10 mo rfl fun w4 E0a S8a=>have X9a:=xtr X3c E0a;dA 0 rfl (fun _=>Ah (o':=0) OH rfl rfl) ?_
 refine dV 1 rfl (fun _ hw=>dld GS ((((q3b.ext E7a).ext E2a).ext E0a).ext hw)) S8a ?_
 refine dA 4 rfl (fun _=>Ah (o':=2) Nh rfl rfl) ?_
 refine dV 5 rfl (fun _ hw=>Ai Gf rfl (Bx.cell ((((q3b.ext E7a).ext E2a).ext E0a).ext hw) rfl)) S8a ?_
 refine dA 6 rfl (fun _=>Bb (vals:=[(1,.slice A4 (sz x0.Den) c5)]) (cells:=[.bool false,.slice A4 (sz x0.Den) c5]) (by rfl) (by kernel_rfl)) ?_
 refine dcn hr 2 rfl (by rfl) (Ad PN (by rfl)) (LF x0.Num A1 c2 w4 (tbx X9a hT) (n3.ext X9a)) fun r5c f6c w5 A7c c8c E3a n9c=>?_
 have X7b:=xtr X9a E3a
 have S0d:=S8a.trans E3a
 refine dcn f6c 3 rfl (by rfl) (Ad Ms (by rfl)) (GF r5c 0 A7c c8c w5 (tbx X7b hT) n9c) fun r0f f1d w6 A2d c3d E4a n4d=>?_
 have X0b:=xtr X7b E4a
 have S5d:=S0d.trans E4a
 refine dcn f1d 7 rfl (by rfl) (Ad Ms (by rfl)) (GF (⟨false,x0.Den⟩:Ae) 0 A4 c5 w6 (tbx X0b hT) (n6.ext X0b)) fun r1f f6d w7 A7d c8d E1a n9d=>?_
 have X0e:=xtr X0b E1a
 have S2f:=S5d.trans E1a
 have q1b:=((((q4b.ext E2a).ext E0a).ext E3a).ext E4a).ext E1a
 refine dkk 8 BO q1b fun w8 U5a q1e=>?_
 have X2e:=belU X0e U5a g0c
 have ne8b:=(Bx.ne q4b g6b).symm
 have q2b:=((((q1c.ext E0a).ext E3a).ext E4a).ext E1a).upd U5a ne8b
 refine dkk 9 BO q2b fun w9 U6a q3e=>?_
 have X4e:=belU X2e U6a g2c
 refine CE (by kernel_rfl) ?_
 refine h4c _ _<|wp_ret ?_
 have n5e:=((n4d.ext E1a).upd U5a q1b (by decide)).upd U6a q2b (by decide)
 have n6e:=(n9d.upd U5a q1b (by decide)).upd U6a q2b (by decide)
 exact CV f6d rfl (Res.cellN rfl Aw (q1e.upd U6a (Ne.symm ne8b)) rfl rfl (Res.cellN rfl Aw q3e rfl rfl Res.nil)) (Av X4e ⟨A2d,c3d,A7d,c8d,rfl,n5e,n6e⟩)
theorem k_dyad_caught_int (b b':Nat) (v0:Value) (u:Value) (n:Int) {w:World} (qa:Bx w b 3 [v0]) (qb:Bx w b' 33 [u]) :
  CallsD Tryz.prog 119 #[.pointer (some ⟨b,0,none⟩),.pointer (some ⟨b',0,none⟩)] (.panicking [entry 201 n]) w fun e u' w'=>e = .returned (.tuple #[])∧u' = .panicking [{ entry 201 n with recovered:=true }]∧(Upd2 b b' w w'∧Bx w' b 3 [.int .i64 0]∧Bx w' b' 33 [.int .i64 n]):=by
 refine JM Tryz.func119 rfl [.pointer (some ⟨b,0,none⟩),.pointer (some ⟨b',0,none⟩),uu,uu,uu,uu,uu,uu,uu,uu,uu,uu,uu,uu,uu,uu,uu,uu,uu,uu,uu,uu,uu,uu,uu,uu] (by simp [Tryz.ntmps119]) fun c₀ cs hu=>?_
 apply wpS_seq
 refine Rq hu rfl ?_
 simp only [S0,S1]
 refine wpS_of_wp<|wp_seq_k fun _ h1=>Af<|sV2 (Aa rfl) (Lx Ld rfl) ?_
 refine wh h1<|wp_cond_true (Ak (evb rfl rfl))<|wp_seq_k fun _ h2=>Af<|sV3 (Aa rfl) (KH MM rfl) (Aa rfl) ?_
 refine sV2 (Aj rfl rfl) (Aj rfl rfl) ?_
 refine Ax Nq fun b3 w1 E4 g5 q6=>?_
 refine nrm ?_
 have X7:=(Upd2.refl b b' w).ext E4
 refine ss No q6 fun w2 U8 q9=>?_
 have X7a:=X7.upd U8 (.inl g5)
 refine sV (Ab rfl) ?_
 refine wh h2<|wp_seq_k fun _ h8a=>wp_seq_k fun _ h9a=>Af<|sV2 (Aa rfl) (Mr rfl rfl rfl) ?_
 refine wh h9a<|wp_cond_false (Ak (evb rfl rfl))<|wp_skip<|h8a _ _<|wp_seq_k fun _ h0b=>Af<|sV (Ab rfl) ?_
 refine wh h0b<|DK [6,8] 9 mo rfl fun w3 E0a S2c=>have X1b:=X7a.ext E0a;dA 0 rfl (fun _=>Aa rfl) ?_
 refine dA 1 rfl (fun _=>Aa rfl) ?_
 refine dA 2 rfl (fun _=>Aa rfl) ?_
 refine dA 3 rfl (fun _=>Ah (o':=0) LL rfl rfl) ?_
 refine dA 5 rfl (fun _=>Bv rfl) ?_
 refine JQ #[true,true,true,true,true,true,true,false,false] 2 (fun l l' w'=>UpdS [b] w3 w'∧Bx w' b 3 [.int .i64 0]∧l'=(l.set 23 (.int .i64 n))) ?_ ?_
 ·intro HJ31
  refine CP 4 6 (by kernel_rfl) ?_ ?_
  ·refine opV 4 rfl (by rfl) (Ai BW rfl (Bx.cell (q9.ext E0a) rfl)) (dnrm ?_)
   refine AM 6 (by kernel_rfl) ?_
   ·have F2b:=belU E4 U8 g5
    refine opK 6 rfl (by decide) (by rfl) RW rfl rfl ((qa.ext F2b).ext E0a) rfl rfl rfl rfl (by simp only [SP0,SP1,S0,S1,Nat.reduceAdd];rfl) fun w4 U3b q4b=>?_
    exact Cm (by kernel_rfl) (HJ31 _ _ ⟨((UpdS.refl _ _).upd U3b (.inl im0)),q4b,(by kernel_rfl)⟩)
  ·have F2a:=belU E4 U8 g5
   refine opK 6 rfl (by decide) (by rfl) RW rfl rfl ((qa.ext F2a).ext E0a) rfl rfl rfl rfl (by simp only [SP0,SP1,S0,S1,Nat.reduceAdd];rfl) fun w4 U3a q5b=>?_
   refine AM 4 (by kernel_rfl) ?_
   ·have ne6b:=(Bx.neT (q9.ext E0a) ((qa.ext F2a).ext E0a) (by decide))
    refine opV 4 rfl (by rfl) (Ai BW rfl (Bx.cell ((q9.ext E0a).upd U3a ne6b) rfl)) (dnrm ?_)
    exact Cm (by kernel_rfl) (HJ31 _ _ ⟨((UpdS.refl _ _).upd U3a (.inl im0)),q5b,(by kernel_rfl)⟩)
 ·rintro l' w4 ⟨U4a,q7b,hq'⟩ l'' hl
  rw [hq'] at hl
  clear hq'
  simp only [S0,S1] at hl
  subst hl
  have X8b:=X1b.updS U4a (alc (.inr (.inl rfl)) al0)
  refine dA 7 rfl (fun _=>Bv rfl) ?_
  have F1a:=belU E4 U8 g5
  have ne5a:=(Bx.neT ((qb.ext F1a).ext E0a) ((qa.ext F1a).ext E0a) (by decide))
  have q9b:=((qb.ext F1a).ext E0a).updS U4a (nmc ne5a nm0)
  refine dkk 8 GW q9b fun w5 U6a q0c=>?_
  have X1c:=X8b.upd U6a (.inr (.inr rfl))
  refine CE (by kernel_rfl) ?_
  exact Rw (by kernel_rfl) ⟨rfl,rfl,X1c,(q7b.upd U6a (Ne.symm ne5a)),q0c⟩
theorem idle_dyad_caught_int:Qt Tryz.prog 119:=by
 intro ar b b' w ha
 subst ha
 refine JM Tryz.func119 rfl [.pointer (some ⟨b,0,none⟩),.pointer (some ⟨b',0,none⟩),uu,uu,uu,uu,uu,uu,uu,uu,uu,uu,uu,uu,uu,uu,uu,uu,uu,uu,uu,uu,uu,uu,uu,uu] (by simp [Tryz.ntmps119]) fun c₀ cs hu=>?_
 apply wpS_seq
 refine Qr hu rfl ?_
 simp only [S0,S1]
 refine wpS_of_wp<|wp_seq_k fun _ h1=>Af<|sV2 (Aa rfl) (JY Ld rfl) ?_
 refine wh h1<|wp_cond_false (Ak (evb rfl rfl))<|wp_skip ?_
 exact PM hu (by kernel_rfl) ⟨rfl,rfl,rfl⟩
theorem c_dyad_Cmp (x0:Aq) (x1:Aq) (A1:Option Addr) (c2:Nat) (A4:Option Addr) (c5:Nat) (w:World) (hT:TB w) (n3:RLu w A1 c2 x0.Man.Abs) (n6:RLu w A4 c5 x1.Man.Abs) (r:Int × Int) (hr:Jo x0 x1=some r) :
  Calls Tryz.prog 41 #[.agg #[.bool x0.Man.Neg,.slice A1 x0.Man.Abs.length c2,.int .i64 x0.Exp],.agg #[.bool x1.Man.Neg,.slice A4 x1.Man.Abs.length c5,.int .i64 x1.Exp]] w (Ret rep_3_33 w r):=by
 unfold Jo at hr
 obtain ⟨q0,hq0,hr0⟩:=Ac hr
 unfold LH at hq0
 go_enter_defers Tryz.func41,Tryz.ntmps41
 refine wp_seq_k fun _ h7=>Af<|Bm rfl rfl fun b8 w1 E9 g8d q5b=>?_
 refine nrm ?_
 refine Bm rfl rfl fun b9d w2 E6b g0e q7b=>?_
 refine nrm ?_
 have g6h:=nlt E9.size g0e
 have X8b:=xtr E9 E6b
 refine Ax zt_3 fun b9b w3 E8a g1e q0c=>?_
 refine nrm ?_
 have g1c:=nlt X8b.size g1e
 have X2c:=xtr X8b E8a
 refine Ax Jk fun b3c w4 E3a g2e q0b=>?_
 refine nrm ?_
 have g4c:=nlt X2c.size g2e
 have X5c:=xtr X2c E3a
 refine wh h7<|wp_seq_k fun _ h3e=>Af<|Hw (vs:=[.pointer (some ⟨b9b,0,none⟩),.pointer (some ⟨b3c,0,none⟩)]) (by rfl) (by rfl)<|wh h3e<|wp_seq_k fun _ h4e=>Af<|have q6c:=((q5b.ext E6b).ext E8a).ext E3a;sV2 (Am BT rfl q6c rfl) (Am BT rfl ((q7b.ext E8a).ext E3a) rfl) ?_
 refine CI (vals:=[(0,.agg #[.bool x0.Man.Neg,.slice A1 x0.Man.Abs.length c2,.int .i64 x0.Exp]),(1,.agg #[.bool x1.Man.Neg,.slice A4 x1.Man.Abs.length c5,.int .i64 x1.Exp])]) (cs:=[.bool x0.Man.Neg,.slice A1 x0.Man.Abs.length c2,.int .i64 x0.Exp,.bool x1.Man.Neg,.slice A4 x1.Man.Abs.length c5,.int .i64 x1.Exp]) KE FI Hq (by rfl) (by decide) (by kernel_rfl) fun b7c w5 E1a g5e q8c=>?_
 refine nrm ?_
 have g7h:=nlt X5c.size g5e
 have X2a:=xtr X5c E1a
 rcases AF hq0 with ⟨r9a,h1b,f6e⟩ | ⟨r9a,h1b,rfl⟩
 ·refine scO (Ad MP (by rfl)) (Lh x0 x1 b7c A1 c2 A4 c5 w5 (tbx X2a hT) (n3.ext X2a) (n6.ext X2a) q8c (.ok r9a) h1b) ?_
  rintro _ w6 E0a rfl
  refine nrm ?_
  have X7e:=xtr X2a E0a
  refine wh h4e<|wp_seq_k fun _ h8e=>DK [5,6] 7 mo rfl fun w7 E4a S2b=>?_
  have X3b:=xtr X7e E4a
  refine dV 0 rfl (fun _ hw=>Am BT rfl ((((q6c.ext E1a).ext E0a).ext E4a).ext hw) rfl) S2b ?_ (hQ:=fun _ _ _ h=>dq (rs:=[.cell 4 3,.cell 5 33]) rfl (by decide) h)
  refine dV 2 rfl (fun _ hw=>Am BT rfl ((((((q7b.ext E8a).ext E3a).ext E1a).ext E0a).ext E4a).ext hw) rfl) S2b ?_ (hQ:=fun _ _ _ h=>dq (rs:=[.cell 4 3,.cell 5 33]) rfl (by decide) h)
  obtain ⟨m9c,h9e,f0f⟩:=Ac f6e
  have hx0d:=AU h9e
  have n1f:RU w7 A1 c2 m9c:=by unfold RU;rw [hx0d];exact (n3.ext X3b)
  refine dcn f0f 1 rfl (by rfl) (Ad KT (by simp only [sz,hx0d];rfl)) (Ig (⟨(⟨x0.Man.Neg,m9c⟩:Ae),x0.Exp⟩:Ag) A1 c2 w7 (tbx X3b hT) n1f) fun r2f f3f w8 A4f c5f E6a n6f=>?_
  have X4b:=xtr X3b E6a
  have S7f:=S2b.trans E6a
  obtain ⟨m1d,h8f,f9f⟩:=Ac f3f
  have hx2d:=AU h8f
  have n0g:RU w8 A4 c5 m1d:=by unfold RU;rw [hx2d];exact (n6.ext X4b)
  refine dcn f9f 3 rfl (by rfl) (Ad KT (by simp only [sz,hx2d];rfl)) (Ig (⟨(⟨x1.Man.Neg,m1d⟩:Ae),x1.Exp⟩:Ag) A4 c5 w8 (tbx X4b hT) n0g) fun r1g f2g w9 A3g c4g E5a n5g=>?_
  have X3d:=xtr X4b E5a
  have S6g:=S7f.trans E5a
  refine dcr f2g 4 rfl (by rfl) (Ad HJ (by rfl)) (BN r2f r1g A4f c5f A3g c4g w9 (tbx X3d hT) (n6f.ext E5a) n5g) fun r8h f7g w8d E7a=>?_
  have X8g:=xtr X3d E7a
  have S9h:=S6g.trans E7a
  have q4d:=((((((q0c.ext E3a).ext E1a).ext E0a).ext E4a).ext E6a).ext E5a).ext E7a
  refine dkk 5 RW q4d fun w5b U5d q9g=>?_
  have X0h:=belU X8g U5d g1c
  have ne6d:=(Bx.neT ((((((q0b.ext E1a).ext E0a).ext E4a).ext E6a).ext E5a).ext E7a) q4d (by decide))
  have q1h:=((((((q0b.ext E1a).ext E0a).ext E4a).ext E6a).ext E5a).ext E7a).upd U5d ne6d
  refine dkk 6 GW q1h fun w9d U7d q2h=>?_
  have X3h:=belU X0h U7d g4c
  refine CE (by kernel_rfl) ?_
  refine h8e _ _<|wp_ret ?_
  obtain rfl:=sj f7g
  obtain rfl:=sj hr0
  exact Mj idle_dyad_caught_int Rb rfl (Res.cell1 rfl FM (Bx.cell (q9g.upd U7d (Ne.symm ne6d)) rfl) (Res.cell1 rfl BW (Bx.cell q2h rfl) Res.nil)) (Av X3h rfl)
 ·refine scP (Ad MP (by rfl)) (Lh x0 x1 b7c A1 c2 A4 c5 w5 (tbx X2a hT) (n3.ext X2a) (n6.ext X2a) q8c (.error r9a) h1b) fun w6 E0a=>?_
  have X4h:=xtr X2a E0a
  have q5h:=((q0c.ext E3a).ext E1a).ext E0a
  refine Ir Rb (k_dyad_caught_int b9b b3c (.int .i64 0:Value) (.int .i64 0:Value) r9a q5h ((q0b.ext E1a).ext E0a)) rfl ?_
  rintro w9 ⟨u9,q9,q9'⟩
  obtain rfl:=sj hr0
  exact ⟨_,(Res.cell1 rfl FM (Bx.cell q9 rfl) (Res.cell1 rfl BW (Bx.cell q9' rfl) Res.nil)),Av (u9.toExt X4h g1c g4c) rfl⟩
theorem KD (x0_0:Ao) (bp0:Nat) (A1:Option Addr) (c2:Nat) (A4:Option Addr) (c5:Nat) (w:World) (hT:TB w) (n3:RLu w A1 c2 x0_0.Lo.Man.Abs) (n6:RLu w A4 c5 x0_0.Hi.Man.Abs) (q7:Bx w bp0 29 [.bool x0_0.Lo.Man.Neg,.slice A1 x0_0.Lo.Man.Abs.length c2,.int .i64 x0_0.Lo.Exp,.bool x0_0.Hi.Man.Neg,.slice A4 x0_0.Hi.Man.Abs.length c5,.int .i64 x0_0.Hi.Exp]) (r:Except Int (Unit)) (hr:GN x0_0=some r) :
  Calls Tryz.prog 162 #[.slice (some ⟨bp0,0,none⟩) 1 1] w (RetE 201 Lc w r):=by
 unfold GN at hr
 go_enter Tryz.func162,Tryz.ntmps162
 refine wp_seq_k fun _ h8=>Af<|sV3 (Aa rfl) (AG Jn rfl) (Aa rfl) ?_
 refine wh h8 ?_
 apply wp_block
 refine Hh<|Bk<|wp_seq_k fun _ h9=>Af<|sV (IN (v:=.bool true) (Cn rfl rfl) (by rfl)) ?_
 refine wh h9<|wp_seq_k fun _ h6a=>wp_cond_true (Ak (evb rfl rfl))<|wp_skip<|h6a _ _<|wp_seq_k fun _ h7a=>?_
 apply wp_block
 refine wp_seq_k fun _ h8a=>Af<|sV (Ht (o':=0) Jn Bp rfl rfl (by decide) (by decide) (by decide)) ?_
 refine sV (Am AI rfl q7 rfl) ?_
 refine Ax Cv fun b0c w1 E9a g0b q1b=>?_
 refine nrm ?_
 refine ss Bp q1b fun w2 U2b q3b=>?_
 have F0a:=belU E9a U2b g0b
 refine wh h8a<|Af<|sV (Am AI rfl q3b rfl) ?_
 refine scr hr (Ad Pg (by rfl)) (Iv x0_0 A1 c2 A4 c5 w2 (tbx F0a hT) (n3.ext F0a) (n6.ext F0a)) fun r5a f4b w3 E5b=>?_
 have X1a:=xtr F0a E5b
 rcases AF f4b with ⟨r2a,h3a,f6b⟩ | ⟨r2a,h3a,rfl⟩
 ·refine scO (Ad DY (by rfl)) (AZ r5a 1 w3 (tbx X1a hT)  (.ok r2a) h3a) ?_
  rintro _ w4 E4a rfl
  refine nrm ?_
  have X7b:=xtr X1a E4a
  refine wh h7a<|Af<|sV (Bj (c:=1) rfl rfl (by decide)) ?_
  refine sV (Aa rfl) ?_
  refine AK<|Bk<|wp_seq_k fun _ h8b=>Af<|sV (IN (v:=.bool false) (Cn rfl rfl) (by rfl)) ?_
  refine wh h8b<|wp_seq_k fun _ h1c=>wp_cond_false (Ak (evb rfl rfl))<|wp_exit ?_
  simp only [Exit.then,Exit.inBlock,↓reduceIte,Nat.reduceEqDiff]
  obtain rfl:=sj f6b
  exact Ng rfl Res.nil (DC X7b rfl)
 ·refine scP (Ad DY (by rfl)) (AZ r5a 1 w3 (tbx X1a hT)  (.error r2a) h3a) fun w4 E4a=>?_
  have X9b:=xtr X1a E4a
  exact ⟨rfl,BK X9b⟩
end Go.Proofs

