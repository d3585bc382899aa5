import Derived.Test.YtabiobmfelafoaaGreatDoorGen1
namespace Go.Proofs
set_option linter.unusedVariables false
set_option linter.unusedSimpArgs false
set_option maxHeartbeats 4000000
open Go.RowKit Go.Sb Go.Proofs.Sbn
open Go.Proofs.Tryz
theorem JU (x0:Ae) (x1:Ae) (A1:OA) (c2:Nat) (A4:OA) (c5:Nat) (w:World) (hT:TB w) (n3:RU w A1 c2 x0.Man.Abs) (n6:RU w A4 c5 x1.Man.Abs) (r:Ae) (hr:BI x0 x1=some r) :
  Calls prog 46 #[.agg #[.bool x0.Man.Neg,.slice A1 (sz x0.Man.Abs) c2,.int .i64 x0.Exp],.agg #[.bool x1.Man.Neg,.slice A4 (sz x1.Man.Abs) c5,.int .i64 x1.Exp]] w (Ret Lk w r):=by
 unfold BI at hr
 go_enter func46,ntmps46
 refine ws fun h7=>Ai<|sbx rfl rfl fun b8 w1 E9 g2h q5c=>?_
 refine sbx rfl rfl fun b3h w2 E6b g6c q2a=>?_
 have g4h:=nlt E9.size g6c
 have X5a:=xtr E9 E6b
 refine sal Ga fun b5h w3 E0a g7a q8a=>?_
 have g7c:=nlt X5a.size g7a
 have X8c:=xtr X5a E0a
 have q3a:=(q5c.ext E6b).ext E0a
 refine wh h7<|ws fun h9c=>ws fun h0d=>Ai<|sV3 (Ag (o':=0) EY rfl rfl) (Ag (o':=1) BA rfl rfl) (Ah BM rfl (Bx.cell q3a rfl)) ?_
 refine sV (Az AJ rfl) ?_
 refine sbl (BD rfl rfl) fun z7b hz7b=>?_
 refine wh h0d ?_
 rcases zi hz7b hr with ⟨e9a,_,f1d⟩ | ⟨e9a,_,f2d⟩
 ·refine ct e9a<|ws fun h3d=>Ai<|sV (Ak AH rfl (q2a.ext E0a) rfl) ?_
  refine ss DC q8a fun w4 U4d q5d=>?_
  have F6d:=belU E0a U4d g7a
  have X8b:=xtr X5a F6d
  refine wh h3d<|wp_ret ?_
  exact Ej f1d AH q5d X8b ⟨A4,c5,rfl,(n6.ext X8b)⟩
 ·refine cf e9a<|wp_skip<|h9c _ _<|ws fun h7d=>ws fun h8d=>Ai<|sV3 (Ag (o':=0) EY rfl rfl) (Ag (o':=1) BA rfl rfl) (Ah BM rfl (Bx.cell (q2a.ext E0a) rfl)) ?_
  refine sV (Az AJ rfl) ?_
  refine sbl (BD rfl rfl) fun z9b hz9b=>?_
  refine wh h8d ?_
  rcases zi hz9b f2d with ⟨e0b,_,f9d⟩ | ⟨e0b,_,f0e⟩
  ·refine ct e0b<|ws fun h1e=>Ai<|sV (Ak AH rfl q3a rfl) ?_
   refine ss DC q8a fun w4 U2e q3e=>?_
   have F4e:=belU E0a U2e g7a
   have X0c:=xtr X5a F4e
   refine wh h1e<|wp_ret ?_
   exact Ej f9d AH q3e X0c ⟨A1,c2,rfl,(n3.ext X0c)⟩
  ·refine cf e0b<|wp_skip<|h7d _ _<|ws fun h5e=>Ai<|sV3 (Ag (o':=2) FS rfl rfl) (Ah Ge rfl (Bx.cell q3a rfl)) (Ag (o':=2) FS rfl rfl) ?_
   refine sV3 (Ah Ge rfl (Bx.cell (q2a.ext E0a) rfl)) (NF rfl rfl) (Ab rfl) ?_
   refine wh h5e<|ws fun h6e=>DD [17] 18 mo rfl fun w4 E1a S4a=>have X1b:=xtr X8c E1a;dA 0 rfl (fun _=>Ag (o':=0) EY rfl rfl) ?_
   refine dV 1 rfl (fun _ hw=>dld GK ((q3a.ext E1a).ext hw)) S4a ?_
   refine dA 2 rfl (fun _=>Ag (o':=2) FS rfl rfl) ?_
   refine dV 3 rfl (fun _ hw=>Ah Ge rfl (Bx.cell ((q3a.ext E1a).ext hw) rfl)) S4a ?_
   refine dA2 4 5 rfl rfl (fun _=>Aa rfl) (fun _=>Bc (c:=wi64 (x0.Exp - (min x0.Exp x1.Exp))) rfl rfl rfl) ?_
   refine dA 7 rfl (fun _=>Ag (o':=0) EY rfl rfl) ?_
   refine dV 8 rfl (fun _ hw=>dld GK (((q2a.ext E0a).ext E1a).ext hw)) S4a ?_
   refine dA 9 rfl (fun _=>Ag (o':=2) FS rfl rfl) ?_
   refine dV 10 rfl (fun _ hw=>Ah Ge rfl (Bx.cell (((q2a.ext E0a).ext E1a).ext hw) rfl)) S4a ?_
   refine dA2 11 12 rfl rfl (fun _=>Aa rfl) (fun _=>Bc (c:=wi64 (x1.Exp - (min x0.Exp x1.Exp))) rfl rfl rfl) ?_
   refine dA 15 rfl (fun _=>Aa rfl) ?_
   refine dcn f0e 6 rfl (by rfl) (Ad Qz (by rfl)) (ID x0.Man (wi64 (x0.Exp - (min x0.Exp x1.Exp))) A1 c2 w4 (tbx X1b hT) (n3.ext X1b)) fun r7e f8e w5 A9e c0f E2b n1f=>?_
   have X3b:=xtr X1b E2b
   have S2f:=S4a.trans E2b
   refine dcn f8e 13 rfl (by rfl) (Ad Qz (by rfl)) (ID x1.Man (wi64 (x1.Exp - (min x0.Exp x1.Exp))) A4 c5 w5 (tbx X3b hT) (n6.ext X3b)) fun r3f f4f w6 A5f c6f E6a n7f=>?_
   have X1c:=xtr X3b E6a
   have S8f:=S2f.trans E6a
   refine dcn f4f 14 rfl (by rfl) (Ad en_129 (by rfl)) (c_sorobanref03_AddInt r7e r3f A9e c0f A5f c6f w6 (tbx X1c hT) (n1f.ext E6a) n7f) fun r9f f0g w7 A1g c2g E4b n3g=>?_
   have X2c:=xtr X1c E4b
   have S4g:=S8f.trans E4b
   refine dcn f0g 16 rfl (by rfl) (Ad Qm (by rfl)) (IS r9f (min x0.Exp x1.Exp) A1g c2g w7 (tbx X2c hT) n3g) fun r6h f5g w8 A6g c7g E5b n8g=>?_
   have X9g:=xtr X2c E5b
   have S7h:=S4g.trans E5b
   have q3c:=((((q8a.ext E1a).ext E2b).ext E6a).ext E4b).ext E5b
   refine dkk 17 DC q3c fun w9 U4c q0h=>?_
   have X1h:=belU X9g U4c g7c
   refine CI (by kernel_rfl) ?_
   refine h6e _ _<|wp_ret ?_
   exact Ej f5g AH q0h X1h ⟨A6g,c7g,rfl,(n8g.upd U4c q3c (by decide))⟩
theorem Ia (x0:Ae) (A1:OA) (c2:Nat) (w:World) (hT:TB w) (n3:RU w A1 c2 x0.Man.Abs) (r:Int) (hr:Ct x0=some r) :
  Calls prog 23 #[.agg #[.bool x0.Man.Neg,.slice A1 (sz x0.Man.Abs) c2,.int .i64 x0.Exp]] w (Ret Gl w r):=by
 unfold Ct at hr
 go_enter func23,ntmps23
 refine ws fun h4=>Ai<|sbx rfl rfl fun b5 w1 E6 g7 q8=>?_
 refine sV (Ab rfl) ?_
 refine wh h4<|ws fun h9=>ws fun h4a=>Ai<|sV3 (Ag (o':=0) EY rfl rfl) (Ag (o':=1) BA rfl rfl) (Ah BM rfl (Bx.cell q8 rfl)) ?_
 refine sV (Az AJ rfl) ?_
 refine sbl (BD rfl rfl) fun z2a hz2a=>?_
 refine wh h4a ?_
 rcases zi hz2a hr with ⟨e1a,_,f5a⟩ | ⟨e1a,_,f3a⟩
 ·refine ct e1a<|ws fun h6a=>Ai<|sV (Ab rfl) ?_
  refine wh h6a<|wp_ret ?_
  exact Bq f5a E6 rfl
 ·refine cf e1a<|wp_skip<|h9 _ _<|ws fun h7a=>ws fun h8a=>Ai<|sV3 (Ag (o':=0) EY rfl rfl) (Ag (o':=0) Ey rfl rfl) (Ah Gy rfl (Bx.cell q8 rfl)) ?_
  refine wh h8a ?_
  rcases bft x0.Man.Neg with e0a | e0a
  ·have p9a:=e0a
   have f0b:=ifP p9a f3a
   refine ct e0a<|ws fun h1b=>Ai<|sV (Ab rfl) ?_
   refine wh h1b<|wp_ret ?_
   exact Bq f0b E6 rfl
  ·have p2b:=bF e0a
   have f3b:=ifN p2b f3a
   refine cf e0a<|wp_skip<|h7a _ _<|ws fun h4b=>Ai<|sV (Ab rfl) ?_
   refine wh h4b<|wp_ret ?_
   exact Bq f3b E6 rfl
theorem DR (x0:Ae) (x1:Ae) (A1:OA) (c2:Nat) (A4:OA) (c5:Nat) (w:World) (hT:TB w) (n3:RU w A1 c2 x0.Man.Abs) (n6:RU w A4 c5 x1.Man.Abs) (r:Int) (hr:Bi x0 x1=some r) :
  Calls prog 83 #[.agg #[.bool x0.Man.Neg,.slice A1 (sz x0.Man.Abs) c2,.int .i64 x0.Exp],.agg #[.bool x1.Man.Neg,.slice A4 (sz x1.Man.Abs) c5,.int .i64 x1.Exp]] w (Ret Gl w r):=by
 unfold Bi at hr
 go_enter func83,ntmps83
 refine ws fun h7=>Ai<|sbx rfl rfl fun b8 w1 E9 g8c q9a=>?_
 refine sbx rfl rfl fun b9c w2 E4a g0b q1b=>?_
 have g0d:=nlt E9.size g0b
 have X2b:=xtr E9 E4a
 refine sV (Ab rfl) ?_
 refine wh h7<|ws fun h3b=>DD [] 6 mo rfl fun w3 E0a S1a=>have X2a:=xtr X2b E0a;dV 0 rfl (fun _ hw=>Ak AH rfl (((q9a.ext E4a).ext E0a).ext hw) rfl) S1a ?_
 refine dV 1 rfl (fun _ hw=>Ak AH rfl ((q1b.ext E0a).ext hw) rfl) S1a ?_
 refine dcn hr 2 rfl (by rfl) (Ad RP (by rfl)) (Jg x1 A4 c5 w3 (tbx X2a hT) (n6.ext X2a)) fun r4b f5b w4 A6b c7b E5a n8b=>?_
 have X3a:=xtr X2a E5a
 have S9b:=S1a.trans E5a
 refine dcn f5b 3 rfl (by rfl) (Ad RT (by rfl)) (JU x0 r4b A1 c2 A6b c7b w4 (tbx X3a hT) (n3.ext X3a) n8b) fun r0c f1c w5 A2c c3c E6a n4c=>?_
 have X7a:=xtr X3a E6a
 have S5c:=S9b.trans E6a
 refine dcr f1c 4 rfl (by rfl) (Ad QQ (by rfl)) (Ia r0c A2c c3c w5 (tbx X7a hT) n4c) fun r1d f6c w6 E8a=>?_
 have X7c:=xtr X7a E8a
 have S2d:=S5c.trans E8a
 refine dA 5 rfl (fun _=>Ab rfl) ?_
 refine CI (by kernel_rfl) ?_
 refine h3b _ _<|wp_ret ?_
 exact Bq f6c X7c rfl
theorem IU (x0:Am) (A1:OA) (c2:Nat) (A4:OA) (c5:Nat) (w:World) (hT:TB w) (n3:RLu w A1 c2 x0.Lo.Man.Abs) (n6:RLu w A4 c5 x0.Hi.Man.Abs) (r:Bool) (hr:Cl x0=some r) :
  Calls prog 17 #[.agg #[.bool x0.Lo.Man.Neg,.slice A1 x0.Lo.Man.Abs.length c2,.int .i64 x0.Lo.Exp,.bool x0.Hi.Man.Neg,.slice A4 x0.Hi.Man.Abs.length c5,.int .i64 x0.Hi.Exp]] w (Ret Gc w r):=by
 unfold Cl at hr
 go_enter func17,ntmps17
 refine ws fun h7=>Ai<|sbx rfl rfl fun b8 w1 E9 g8e q4a=>?_
 refine sV (Ab rfl) ?_
 refine nx h7 fun h3c=>sV2 (Ag (o':=0) Ev rfl rfl) (dld AH q4a) ?_
 refine scr hr (Ad NL (by rfl)) (EL x0.Lo A1 c2 w1 (tbx E9 hT) (n3.ext E9)) fun r9e f4c w2 E5a=>?_
 have X3a:=xtr E9 E5a
 refine sV (Aa rfl) ?_
 obtain ⟨m5c,h6c,f7c⟩:=Ac f4c
 refine Bw 8 (fun l l' w'=>∃(t8a:Value) (t9a:Value) (t0b:Value),UpdS [] w2 w'∧l'=((((l.set 7 t8a).set 8 t9a).set 9 t0b).set 10 (.bool m5c))) ?_ ?_
 ·intro HJ35
  rcases zb h6c with ⟨e1a,f8c⟩ | ⟨e1a,f9c⟩
  ·refine sV (Ag (o':=3) Ez rfl rfl) ?_ (hw:=wgT rfl e1a)
   refine sV (dld AH (q4a.ext E5a)) ?_ (hw:=wgT rfl e1a)
   refine scr f8c (Ad NL (by rfl)) (EL x0.Hi A4 c5 w2 (tbx X3a hT) (n6.ext X3a)) (fun r0d f1d w3 E2d=>?_) (hw:=wgT rfl e1a)
   refine sV (Aq (evb rfl e1a) rfl) ?_
   obtain rfl:=sj f1d
   exact HJ35 _ _ ⟨(.pointer (some ⟨b8,3,none⟩)),(.agg #[.bool x0.Hi.Man.Neg,.slice A4 x0.Hi.Man.Abs.length c5,.int .i64 x0.Hi.Exp]),(.bool r0d),((UpdS.refl _ _).ext E2d),(by kernel_rfl)⟩
  ·refine sQ rfl e1a ?_
   refine sQ rfl e1a ?_
   refine sQ rfl e1a ?_
   refine sV (Av (evb rfl e1a) rfl) ?_
   obtain rfl:=sj f9c
   exact HJ35 _ _ ⟨uu,uu,uu,(UpdS.refl _ _),(by kernel_rfl)⟩
 ·rintro _ w3 ⟨t8a,t9a,t0b,U1b,rfl⟩ _ rfl
  have X2a:=GM X3a U1b (X3a).size al0
  refine sV (Aa rfl) ?_
  obtain ⟨m3d,h4d,f5d⟩:=Ac f7c
  refine Bw 16 (fun l l' w'=>∃(t2b:Value) (t3b:Value) (t4b:Value) (t5b:Value) (t6b:Value) (t7b:Value),UpdS [] w3 w'∧l'=(((((((l.set 12 t2b).set 13 t3b).set 14 t4b).set 15 t5b).set 16 t6b).set 17 t7b).set 18 (.bool m3d))) ?_ ?_
  ·intro HJ78
   rcases zb h4d with ⟨e0a,f6d⟩ | ⟨e0a,f7d⟩
   ·refine sV (Ag (o':=0) Ev rfl rfl) ?_ (hw:=wgT rfl e0a)
    have q8b:=(q4a.ext E5a).updS U1b nm0
    refine sV (dld AH q8b) ?_ (hw:=wgT rfl e0a)
    refine sV (Ag (o':=3) Ez rfl rfl) ?_ (hw:=wgT rfl e0a)
    refine sV (dld AH q8b) ?_ (hw:=wgT rfl e0a)
    obtain ⟨m9b,h8d,f9d⟩:=Ac f6d
    have hx0c:=Bs h8d
    have n0e:RU w3 A1 c2 m9b:=by unfold RU;rw [hx0c];exact (n3.ext X2a)
    obtain ⟨m1c,h1e,f2e⟩:=Ac f9d
    have hx2c:=Bs h1e
    have n3e:RU w3 A4 c5 m1c:=by unfold RU;rw [hx2c];exact (n6.ext X2a)
    refine scr f2e (Ad NE (by simp only [sz,hx0c,hx2c];rfl)) (DR (⟨(⟨x0.Lo.Man.Neg,m9b⟩:Af),x0.Lo.Exp⟩:Ae) (⟨(⟨x0.Hi.Man.Neg,m1c⟩:Af),x0.Hi.Exp⟩:Ae) A1 c2 A4 c5 w3 (tbx X2a hT) n0e n3e) (fun r6a f4e w4 E5e=>?_) (hw:=wgT rfl e0a)
    refine sbl (GL rfl rfl) (fun z7a hz7a=>?_) (hw:=wgT rfl e0a)
    refine sV (Aq (evb rfl e0a) rfl) ?_
    obtain rfl:z7a=decide (r6a≤0):=bz hz7a
    obtain rfl:=sj f4e
    exact HJ78 _ _ ⟨(.pointer (some ⟨b8,0,none⟩)),(.agg #[.bool x0.Lo.Man.Neg,.slice A1 x0.Lo.Man.Abs.length c2,.int .i64 x0.Lo.Exp]),(.pointer (some ⟨b8,3,none⟩)),(.agg #[.bool x0.Hi.Man.Neg,.slice A4 x0.Hi.Man.Abs.length c5,.int .i64 x0.Hi.Exp]),(.int .i64 r6a),(.bool (decide (r6a≤0))),((UpdS.refl _ _).ext E5e),(by kernel_rfl)⟩
   ·refine sQ rfl e0a ?_
    refine sQ rfl e0a ?_
    refine sQ rfl e0a ?_
    refine sQ rfl e0a ?_
    refine sQ rfl e0a ?_
    refine sQ rfl e0a ?_
    refine sV (Av (evb rfl e0a) rfl) ?_
    obtain rfl:=sj f7d
    exact HJ78 _ _ ⟨uu,uu,uu,uu,uu,uu,(UpdS.refl _ _),(by kernel_rfl)⟩
  ·rintro _ w4 ⟨t2b,t3b,t4b,t5b,t6b,t7b,U6e,rfl⟩ _ rfl
   have X7e:=GM X2a U6e (X2a).size al0
   refine sV (Ab rfl) ?_
   refine wh h3c<|wp_ret ?_
   exact Bq f5d X7e rfl
theorem Im (x0:Bool) (w:World) (hT:TB w) (r:Int) (hr:Fu x0=some r) :
  Calls prog 18 #[.bool x0] w (Ret rep_33 w r):=by
 unfold Fu at hr
 go_enter func18,ntmps18
 refine ws fun h1=>Ai<|sV (Ab rfl) ?_
 refine wh h1<|ws fun h2=>ws fun h3=>Ai<|sV (Aa rfl) ?_
 refine sbl (Fj rfl) fun z4 hz4=>?_
 refine wh h3 ?_
 rcases zi hz4 hr with ⟨e0a,_,f1a⟩ | ⟨e0a,_,f2a⟩
 ·refine ct e0a<|ws fun h3a=>Ai<|sV (Ab rfl) ?_
  refine wh h3a<|wp_ret ?_
  exact Bq f1a (Ext.refl _) rfl
 ·refine cf e0a<|wp_skip<|h2 _ _<|ws fun h4a=>Ai<|sV (Ab rfl) ?_
  refine wh h4a<|wp_ret ?_
  exact Bq f2a (Ext.refl _) rfl
theorem c_sorobanref04_Side (x0:Aj) (A1:OA) (c2:Nat) (A4:OA) (c5:Nat) (w:World) (hT:TB w) (n3:RU w A1 c2 x0.Lo.Man.Abs) (n6:RU w A4 c5 x0.Hi.Man.Abs) (r:Int) (hr:Fb x0=some r) :
  Calls prog 19 #[.agg #[.bool x0.Lo.Man.Neg,.slice A1 (sz x0.Lo.Man.Abs) c2,.int .i64 x0.Lo.Exp,.bool x0.Hi.Man.Neg,.slice A4 (sz x0.Hi.Man.Abs) c5,.int .i64 x0.Hi.Exp]] w (Ret Gl w r):=by
 unfold Fb at hr
 go_enter func19,ntmps19
 refine ws fun h7=>Ai<|sbx rfl rfl fun b8 w1 E9 g2c q3a=>?_
 refine sV (Ab rfl) ?_
 refine wh h7<|ws fun h8a=>ws fun h9a=>Ai<|sV2 (Ag (o':=0) Ev rfl rfl) (dld AH q3a) ?_
 refine scr hr (Ad QQ (by rfl)) (Ia x0.Lo A1 c2 w1 (tbx E9 hT) (n3.ext E9)) fun r3c f0b w2 E4a=>?_
 have X0a:=xtr E9 E4a
 refine sbl (ES rfl rfl) fun z5a hz5a=>?_
 refine wh h9a ?_
 rcases zi hz5a f0b with ⟨e1a,_,f1b⟩ | ⟨e1a,_,f2b⟩
 ·refine ct e1a<|ws fun h3b=>Ai<|sV (Ab rfl) ?_
  refine wh h3b<|wp_ret ?_
  exact Bq f1b X0a rfl
 ·refine cf e1a<|wp_skip<|h8a _ _<|ws fun h4b=>ws fun h5b=>Ai<|sV2 (Ag (o':=3) Ez rfl rfl) (dld AH (q3a.ext E4a)) ?_
  refine scr f2b (Ad QQ (by rfl)) (Ia x0.Hi A4 c5 w2 (tbx X0a hT) (n6.ext X0a)) fun r4c f6b w3 E7b=>?_
  have X6a:=xtr X0a E7b
  refine sbl (Cu rfl rfl) fun z7a hz7a=>?_
  refine wh h5b ?_
  rcases zi hz7a f6b with ⟨e2a,_,f8b⟩ | ⟨e2a,_,f9b⟩
  ·refine ct e2a<|ws fun h0c=>Ai<|sV (Ab rfl) ?_
   refine wh h0c<|wp_ret ?_
   exact Bq f8b X6a rfl
  ·refine cf e2a<|wp_skip<|h4b _ _<|ws fun h1c=>Ai<|sV (Ab rfl) ?_
   refine wh h1c<|wp_ret ?_
   exact Bq f9b X6a rfl
theorem JP (x0:Nat) (x1:Nat) (A1:OA) (c2:Nat) (A4:OA) (c5:Nat) (w:World) (hT:TB w) (n3:RU w A1 c2 x0) (n6:RU w A4 c5 x1) (r:Nat) (hr:Fw x0 x1=some r) :
  Calls prog 145 #[.slice A1 (sz x0) c2,.slice A4 (sz x1) c5] w (Ret Kj w r):=by
 unfold Fw at hr
 go_enter func145,ntmps145
 refine ws fun h7=>Ai<|sV (Ab rfl) ?_
 refine wh h7<|ws fun h8=>?_
 obtain ⟨m8a,h4c,f5c⟩:=Ac hr
 refine BJ (fun l l' w'=>∃(A6a:OA) (c7a:Nat),Ext w w'∧RU w' A6a c7a m8a∧Fr l' (fun t4b=>.slice A6a (sz m8a) c7a::gp t4b 1 15 [])) ?_ ?_
 ·apply wp_block
  refine AV (fun l n5b l' w'=>∃(v1a:Nat) (v0a:Nat) (A2a:OA) (c3a:Nat) (A4a:OA) (c5a:Nat),Ext w w'∧RU w' A2a c3a v1a∧RU w' A4a c5a v0a∧CG x0 x1 n5b v1a v0a=some m8a∧Fr l' (fun t6b=>.slice A2a (sz v1a) c3a::.slice A4a (sz v0a) c5a::gp t6b 2 14 [])) 18446744073709551616 ?_ ?_ ?_
  ·exact ⟨x0,x1,A1,c2,A4,c5,(Ext.refl _),n3,n6,h4c,(Fr.mk (by kernel_rfl))⟩
  ·rintro l' w' ⟨v1a,v0a,A2a,c3a,A4a,c5a,_,_,_,hz,_⟩
   exact nomatch hz
  ·rintro n5b ih6c _ w1 ⟨v1a,v0a,A2a,c3a,A4a,c5a,X9a,n7b,n8b,hr9b,⟨t6b,rfl⟩⟩ l'' hl
   simp only [gp,Nat.reduceAdd] at hl
   subst hl
   unfold CG at hr9b
   refine AW<|ws fun h7c=>ws fun h8c=>Ai<|sV2 (Aa rfl) (Az AJ rfl) ?_
   refine sbl (ES rfl rfl) fun z0c hz0c=>?_
   refine wh h8c ?_
   rcases zi hz0c hr9b with ⟨e0b,_,f9c⟩ | ⟨e0b,_,f0d⟩
   ·refine ct e0b<|wp_skip<|h7c _ _ ?_
    apply wp_block
    refine ws fun h1d=>Ai<|sV2 (Aa rfl) (Aa rfl) ?_
    obtain ⟨r1c,h2d,f3d⟩:=Ac f9c
    refine sc (Ad Mx (by rfl)) (DH v1a v0a A2a c3a A4a c5a w1 (tbx X9a hT) n7b n8b r1c h2d) ?_
    rintro _ w2 E2c ⟨A8e,c9e,A4d,c5d,rfl,n0f,n6d⟩
    refine nrm ?_
    have X3c:=xtr X9a E2c
    refine sal LL fun b1f w3 E1b g7d q2b=>?_
    have g8d:=nlt X3c.size g7d
    have X9d:=xtr X3c E1b
    refine ss KC q2b fun w4 U3b q0e=>?_
    have X1e:=belU X9d U3b g8d
    refine nx h1d fun h2e=>sV2 (Aa rfl) (Ab rfl) ?_
    refine wh h2e<|Ai<|sV3 (Ag (o':=1) LS rfl rfl) (Ah BM rfl (Bx.cell q0e rfl)) (Ab rfl) ?_
    refine AE ?_
    have n3e:=((n8b.ext E2c).ext E1b).upd U3b q2b (by decide)
    have n4e:=(n6d.ext E1b).upd U3b q2b (by decide)
    exact ih6c _ _ ⟨v0a,r1c.R,A4a,c5a,A4d,c5d,X1e,n3e,n4e,f3d,(Fr.mk (by kernel_rfl))⟩
   ·refine cf e0b<|wp_exit ?_
    simp only [Exit.then,Exit.inBlock,↓reduceIte,Nat.reduceEqDiff]
    obtain rfl:=sj f0d
    exact ⟨_,rfl,A2a,c3a,X9a,n7b,(Fr.mk (by kernel_rfl))⟩
 ·rintro _ w1 ⟨A6a,c7a,X5e,n6e,⟨t4b,rfl⟩⟩ l'' hl
  simp only [gp,Nat.reduceAdd] at hl
  subst hl
  refine h8 _ _<|ws fun h7e=>Ai<|sV2 (Aa rfl) (Ab rfl) ?_
  refine wh h7e<|wp_ret ?_
  exact Bq f5c X5e ⟨A6a,c7a,rfl,n6e⟩
theorem Fx (w:World) (hT:TB w) (r:Nat) (hr:BT=some r) :
  Calls prog 146 #[] w (Ret Kj w r):=by
 unfold BT at hr
 go_enter func146,ntmps146
 refine ws fun h1=>Ai<|sV (Ab rfl) ?_
 refine nx h1 fun h2=>DY (vals:=[(0,.int .u32 1)]) (cs:=[.int .u32 1]) AJ Ao GY (by rfl) (by decide) (by kernel_rfl) fun b3 w1 E4 g5 q6=>?_
 refine nrm ?_
 have n7:=RL.lit1 q6 (by decide)
 refine sV (Ab rfl) ?_
 refine wh h2<|wp_ret ?_
 exact Bq hr E4 ⟨(some ⟨b3,0,none⟩),1,rfl,n7⟩
theorem c_sorobanref03_Of (x0:Af) (x1:Nat) (A1:OA) (c2:Nat) (A4:OA) (c5:Nat) (w:World) (hT:TB w) (n3:RU w A1 c2 x0.Abs) (n6:RU w A4 c5 x1) (r:BG) (hr:Gz x0 x1=some r) :
  Calls prog 160 #[.agg #[.bool x0.Neg,.slice A1 (sz x0.Abs) c2],.slice A4 (sz x1) c5] w (Ret OR w r):=by
 unfold Gz at hr
 go_enter func160,ntmps160
 refine ws fun h7=>Ai<|sbx rfl rfl fun b8 w1 E9 g6d q0b=>?_
 refine sal Qf fun b2h w2 E3a g7d q6c=>?_
 have g7c:=nlt E9.size g7d
 have X4a:=xtr E9 E3a
 refine nx h7 fun h8d=>sV3 (Ag (o':=1) BA rfl rfl) (Ah BM rfl (Bx.cell (q0b.ext E3a) rfl)) (Aa rfl) ?_
 refine scn hr (Ad QK (by rfl)) (JP x0.Abs x1 A1 c2 A4 c5 w2 (tbx X4a hT) (n3.ext X4a) (n6.ext X4a)) fun r1b f9d w3 A2b c3b E2a n8c=>?_
 have X9c:=xtr X4a E2a
 refine sV (Ab rfl) ?_
 refine wh h8d<|ws fun h0e=>ws fun h1e=>Ai<|sV (Aa rfl) ?_
 refine scn f9d (Ad Ms (by rfl)) (Fx w3 (tbx X9c hT)) fun r2e f3e w4 A4e c5e E0a n6e=>?_
 have X0d:=xtr X9c E0a
 refine scr f3e (Ad OQ (by rfl)) (FZ (limbs r1b) (limbs r2e) A2b c3b A4e c5e w4 (tbx X0d hT) (n8c.ext E0a) n6e) fun r3h f7e w5 E1a=>?_
 have X1d:=xtr X0d E1a
 refine wh h1e ?_
 rcases zb f7e with ⟨e4b,f8e⟩ | ⟨e4b,f9e⟩
 ·refine ct e4b<|ws fun h0f=>Ai<|have q1f:=(((q0b.ext E3a).ext E2a).ext E0a).ext E1a;sV3 (Ak GK rfl q1f rfl) (Aa rfl) (AR (vals:=[(0,.agg #[.bool x0.Neg,.slice A1 (sz x0.Abs) c2]),(1,.slice A4 (sz x1) c5)]) (cells:=[.bool x0.Neg,.slice A1 (sz x0.Abs) c2,.slice A4 (sz x1) c5]) (by rfl) (by kernel_rfl)) ?_
  have q2f:=((q6c.ext E2a).ext E0a).ext E1a
  refine ss OH q2f fun w6 U3f q4f=>?_
  have X5b:=belU X1d U3f g7c
  refine wh h0f<|wp_ret ?_
  exact Ej f8e HW q4f X5b ⟨A1,c2,A4,c5,rfl,(n3.ext X5b),(n6.ext X5b)⟩
 ·refine cf e4b<|wp_skip<|h0e _ _<|ws fun h5f=>DD [13] 14 mo rfl fun w6 E5a S6b=>have X7b:=xtr X1d E5a;dA 0 rfl (fun _=>Ag (o':=0) Ey rfl rfl) ?_
  have q2d:=((((q0b.ext E3a).ext E2a).ext E0a).ext E1a).ext E5a
  refine dV 1 rfl (fun _ hw=>Ah Gy rfl (Bx.cell (q2d.ext hw) rfl)) S6b ?_
  refine dA 2 rfl (fun _=>Ag (o':=1) BA rfl rfl) ?_
  refine dV 3 rfl (fun _ hw=>Ah BM rfl (Bx.cell (q2d.ext hw) rfl)) S6b ?_
  refine dA2 4 8 rfl rfl (fun _=>Aa rfl) (fun _=>Aa rfl) ?_
  refine dA 9 rfl (fun _=>Aa rfl) ?_
  have n3d:=((n8c.ext E0a).ext E1a).ext E5a
  obtain ⟨r4d,h6f,f7f⟩:=Ac f9e
  refine dc 5 rfl (by kernel_rfl) (by rfl) (Ad Mx (by rfl)) (DH x0.Abs r1b A1 c2 A2b c3b w6 (tbx X7b hT) (n3.ext X7b) n3d r4d h6f) ?_
  rintro _ w7 E6a ⟨A8f,c9f,A4h,c5h,rfl,n0g,n6h⟩
  refine dnrm ?_
  have X5d:=xtr X7b E6a
  have S1g:=S6b.trans E6a
  refine dA 6 rfl (fun _=>OD OG rfl rfl) ?_
  refine dcn f7f 7 rfl (by rfl) (Ad JY (by rfl)) (BH x0.Neg r4d.Q A8f c9f w7 (tbx X5d hT) n0g) fun r7a f2g w8 A8b c9b E8a n3g=>?_
  have X0c:=xtr X5d E8a
  have S4g:=S1g.trans E8a
  obtain ⟨r1c,h5g,f6g⟩:=Ac f2g
  refine dc 10 rfl (by kernel_rfl) (by rfl) (Ad Mx (by rfl)) (DH x1 r1b A4 c5 A2b c3b w8 (tbx X0c hT) (n6.ext X0c) ((n3d.ext E6a).ext E8a) r1c h5g) ?_
  rintro _ w9 E9a ⟨A2c,c3c,A7h,c8h,rfl,n7g,n9h⟩
  refine dnrm ?_
  have X8g:=xtr X0c E9a
  have S0i:=S4g.trans E9a
  refine dA2 11 12 rfl rfl (fun _=>OD OG rfl rfl) (fun _=>AR (vals:=[(0,.agg #[.bool r7a.Neg,.slice A8b (sz r7a.Abs) c9b]),(1,.slice A2c (sz r1c.Q) c3c)]) (cells:=[.bool r7a.Neg,.slice A8b (sz r7a.Abs) c9b,.slice A2c (sz r1c.Q) c3c]) (by rfl) (by kernel_rfl)) ?_
  have q4c:=((((((q6c.ext E2a).ext E0a).ext E1a).ext E5a).ext E6a).ext E8a).ext E9a
  refine dkk 13 OH q4c fun w6d U5c q9g=>?_
  have X0h:=belU X8g U5c g7c
  refine CI (by kernel_rfl) ?_
  refine h5f _ _<|wp_ret ?_
  have n1h:=(n3g.ext E9a).upd U5c q4c (by decide)
  exact Ej f6g HW q9g X0h ⟨A8b,c9b,A2c,c3c,rfl,n1h,(n7g.upd U5c q4c (by decide))⟩
theorem IV (x0:Af) (x1:Af) (A1:OA) (c2:Nat) (A4:OA) (c5:Nat) (w:World) (hT:TB w) (n3:RU w A1 c2 x0.Abs) (n6:RU w A4 c5 x1.Abs) (r:Af) (hr:Em x0 x1=some r) :
  Calls prog 132 #[.agg #[.bool x0.Neg,.slice A1 (sz x0.Abs) c2],.agg #[.bool x1.Neg,.slice A4 (sz x1.Abs) c5]] w (Ret LQ w r):=by
 unfold Em at hr
 go_enter func132,ntmps132
 refine ws fun h7=>Ai<|sbx rfl rfl fun b8 w1 E9 g5d q4b=>?_
 refine sbx rfl rfl fun b6d w2 E7a g5b q6b=>?_
 have g7d:=nlt E9.size g5b
 have X8a:=xtr E9 E7a
 refine sal Nq fun b8d w3 E3a g7b q8b=>?_
 have g9b:=nlt X8a.size g7b
 have X0c:=xtr X8a E3a
 refine wh h7<|ws fun h1c=>DD [11] 12 mo rfl fun w4 E1a S0a=>have X2a:=xtr X0c E1a;dA 0 rfl (fun _=>Ag (o':=0) Ey rfl rfl) ?_
 have q9a:=((q4b.ext E7a).ext E3a).ext E1a
 refine dV 1 rfl (fun _ hw=>Ah Gy rfl (Bx.cell (q9a.ext hw) rfl)) S0a ?_
 refine dA 2 rfl (fun _=>Ag (o':=0) Ey rfl rfl) ?_
 have q0b:=(q6b.ext E3a).ext E1a
 refine dV 3 rfl (fun _ hw=>Ah Gy rfl (Bx.cell (q0b.ext hw) rfl)) S0a ?_
 refine dab 4 rfl (by kernel_rfl) (fun _ _ _ h=>h) (by rfl) (fun _=>Nf OE rfl rfl) fun z4a hz4a=>?_
 refine dnrm ?_
 refine dA 5 rfl (fun _=>Ag (o':=1) BA rfl rfl) ?_
 refine dV 6 rfl (fun _ hw=>Ah BM rfl (Bx.cell (q9a.ext hw) rfl)) S0a ?_
 refine dA 7 rfl (fun _=>Ag (o':=1) BA rfl rfl) ?_
 refine dV 8 rfl (fun _ hw=>Ah BM rfl (Bx.cell (q0b.ext hw) rfl)) S0a ?_
 refine dcn hr 9 rfl (by rfl) (Ad en_200 (by rfl)) (Iu x0.Abs x1.Abs A1 c2 A4 c5 w4 (tbx X2a hT) (n3.ext X2a) (n6.ext X2a)) fun r2c f3c w5 A4c c5c E5a n6c=>?_
 have X1b:=xtr X2a E5a
 have S7c:=S0a.trans E5a
 obtain rfl:z4a=decide (¬x0.Neg=x1.Neg):=bz hz4a
 refine dcn f3c 10 rfl (by rfl) (Ad JY (by rfl)) (BH (decide (¬x0.Neg=x1.Neg)) r2c A4c c5c w5 (tbx X1b hT) n6c) fun r9d f8c w6 A9c c0d E6a n1d=>?_
 have X2d:=xtr X1b E6a
 have S0e:=S7c.trans E6a
 have q2b:=((q8b.ext E1a).ext E5a).ext E6a
 refine dkk 11 LK q2b fun w7 U3b q3d=>?_
 have X4d:=belU X2d U3b g9b
 refine CI (by kernel_rfl) ?_
 refine h1c _ _<|wp_ret ?_
 exact Ej f8c GK q3d X4d ⟨A9c,c0d,rfl,(n1d.upd U3b q2b (by decide))⟩
theorem c_sorobanref03_CmpInt (x0:Af) (x1:Af) (A1:OA) (c2:Nat) (A4:OA) (c5:Nat) (w:World) (hT:TB w) (n3:RU w A1 c2 x0.Abs) (n6:RU w A4 c5 x1.Abs) (r:Int) (hr:Fp x0 x1=some r) :
  Calls prog 181 #[.agg #[.bool x0.Neg,.slice A1 (sz x0.Abs) c2],.agg #[.bool x1.Neg,.slice A4 (sz x1.Abs) c5]] w (Ret Gl w r):=by
 unfold Fp at hr
 go_enter func181,ntmps181
 refine ws fun h7=>Ai<|sbx rfl rfl fun b8 w1 E9 g6d q2a=>?_
 refine sbx rfl rfl fun b7d w2 E1a g0b q5a=>?_
 have g8d:=nlt E9.size g0b
 have X0a:=xtr E9 E1a
 refine sV (Ab rfl) ?_
 refine wh h7<|ws fun h1b=>ws fun h2b=>Ai<|sV3 (Ag (o':=0) Ey rfl rfl) (Ah Gy rfl (Bx.cell (q2a.ext E1a) rfl)) (Ag (o':=0) Ey rfl rfl) ?_
 refine sV (Ah Gy rfl (Bx.cell q5a rfl)) ?_
 refine sbl (Nf OE rfl rfl) fun z7a hz7a=>?_
 refine wh h2b ?_
 rcases zi hz7a hr with ⟨e6a,_,f8a⟩ | ⟨e6a,_,f9a⟩
 ·refine ct e6a<|ws fun h3b=>ws fun h4b=>Ai<|sV2 (Ag (o':=0) Ey rfl rfl) (Ah Gy rfl (Bx.cell (q2a.ext E1a) rfl)) ?_
  refine wh h4b ?_
  rcases bft x0.Neg with e3a | e3a
  ·have p5b:=e3a
   have f6b:=ifP p5b f8a
   refine ct e3a<|ws fun h7b=>Ai<|sV (Ab rfl) ?_
   refine wh h7b<|wp_ret ?_
   exact Bq f6b X0a rfl
  ·have p8b:=bF e3a
   have f9b:=ifN p8b f8a
   refine cf e3a<|wp_skip<|h3b _ _<|ws fun h0c=>Ai<|sV (Ab rfl) ?_
   refine wh h0c<|wp_ret ?_
   exact Bq f9b X0a rfl
 ·refine cf e6a<|wp_skip<|h1b _ _<|ws fun h1c=>ws fun h2c=>Ai<|sV2 (Ag (o':=0) Ey rfl rfl) (Ah Gy rfl (Bx.cell (q2a.ext E1a) rfl)) ?_
  refine wh h2c ?_
  rcases bft x0.Neg with e4a | e4a
  ·have p3c:=e4a
   have f4c:=ifP p3c f9a
   refine ct e4a<|ws fun h5c=>Ai<|sV3 (Ag (o':=1) BA rfl rfl) (Ah BM rfl (Bx.cell (q2a.ext E1a) rfl)) (Ag (o':=1) BA rfl rfl) ?_
   refine sV (Ah BM rfl (Bx.cell q5a rfl)) ?_
   refine scr f4c (Ad Mw (by rfl)) (EA x0.Abs x1.Abs A1 c2 A4 c5 w2 (tbx X0a hT) (n3.ext X0a) (n6.ext X0a)) fun r6c f7c w3 E8c=>?_
   have X9c:=xtr X0a E8c
   refine sV2 (Qu (c:=wi64 (-r6c)) rfl rfl) (Ab rfl) ?_
   refine wh h5c<|wp_ret ?_
   exact Bq f7c X9c rfl
  ·have p0d:=bF e4a
   have f1d:=ifN p0d f9a
   refine cf e4a<|wp_skip<|h1c _ _<|ws fun h2d=>Ai<|sV3 (Ag (o':=1) BA rfl rfl) (Ah BM rfl (Bx.cell (q2a.ext E1a) rfl)) (Ag (o':=1) BA rfl rfl) ?_
   refine sV (Ah BM rfl (Bx.cell q5a rfl)) ?_
   refine scr f1d (Ad Mw (by rfl)) (EA x0.Abs x1.Abs A1 c2 A4 c5 w2 (tbx X0a hT) (n3.ext X0a) (n6.ext X0a)) fun r9d f3d w3 E4d=>?_
   have X5d:=xtr X0a E4d
   refine sV (Ab rfl) ?_
   refine wh h2d<|wp_ret ?_
   exact Bq f3d X5d rfl
theorem c_sorobanref03_Compare (x0:BG) (x1:BG) (A1:OA) (c2:Nat) (A4:OA) (c5:Nat) (A7:OA) (c8:Nat) (A2a:OA) (c3a:Nat) (w:World) (hT:TB w) (n3:RU w A1 c2 x0.Num.Abs) (n6:RU w A4 c5 x0.Den) (n9:RU w A7 c8 x1.Num.Abs) (n8b:RU w A2a c3a x1.Den) (r:Int) (hr:CE x0 x1=some r) :
  Calls prog 99 #[.agg #[.bool x0.Num.Neg,.slice A1 (sz x0.Num.Abs) c2,.slice A4 (sz x0.Den) c5],.agg #[.bool x1.Num.Neg,.slice A7 (sz x1.Num.Abs) c8,.slice A2a (sz x1.Den) c3a]] w (Ret Gl w r):=by
 unfold CE at hr
 go_enter func99,ntmps99
 refine ws fun h9b=>Ai<|sbx rfl rfl fun b0f w1 E0b g1f q0c=>?_
 refine sbx rfl rfl fun b2f w2 E1b g1c q2b=>?_
 have g3f:=nlt E0b.size g1c
 have X2c:=xtr E0b E1b
 refine sV (Ab rfl) ?_
 refine wh h9b<|ws fun h3c=>DD [] 14 mo rfl fun w3 E1a S0a=>have X4a:=xtr X2c E1a;dA 0 rfl (fun _=>Ag (o':=0) HC rfl rfl) ?_
 have q3b:=(q0c.ext E1b).ext E1a
 refine dV 1 rfl (fun _ hw=>dld GK (q3b.ext hw)) S0a ?_
 refine dA 2 rfl (fun _=>Ag (o':=2) HS rfl rfl) ?_
 refine dV 3 rfl (fun _ hw=>Ah BM rfl (Bx.cell ((q2b.ext E1a).ext hw) rfl)) S0a ?_
 refine dA 6 rfl (fun _=>Ag (o':=0) HC rfl rfl) ?_
 refine dV 7 rfl (fun _ hw=>dld GK ((q2b.ext E1a).ext hw)) S0a ?_
 refine dA 8 rfl (fun _=>Ag (o':=2) HS rfl rfl) ?_
 refine dV 9 rfl (fun _ hw=>Ah BM rfl (Bx.cell (q3b.ext hw) rfl)) S0a ?_
 refine dcn hr 4 rfl (by rfl) (Ad JY (by rfl)) (BH false x1.Den A2a c3a w3 (tbx X4a hT) (n8b.ext X4a)) fun r4c f5c w4 A6c c7c E4b n8c=>?_
 have X5a:=xtr X4a E4b
 have S9c:=S0a.trans E4b
 refine dcn f5c 5 rfl (by rfl) (Ad Qp (by rfl)) (IV x0.Num r4c A1 c2 A6c c7c w4 (tbx X5a hT) (n3.ext X5a) n8c) fun r0d f1d w5 A2d c3d E5b n4d=>?_
 have X6a:=xtr X5a E5b
 have S5d:=S9c.trans E5b
 refine dcn f1d 10 rfl (by rfl) (Ad JY (by rfl)) (BH false x0.Den A4 c5 w5 (tbx X6a hT) (n6.ext X6a)) fun r6d f7d w6 A8d c9d E7a n0e=>?_
 have X8a:=xtr X6a E7a
 have S1e:=S5d.trans E7a
 refine dcn f7d 11 rfl (by rfl) (Ad Qp (by rfl)) (IV x1.Num r6d A7 c8 A8d c9d w6 (tbx X8a hT) (n9.ext X8a) n0e) fun r2e f3e w7 A4e c5e E9a n6e=>?_
 have X6b:=xtr X8a E9a
 have S7e:=S1e.trans E9a
 refine dcr f3e 12 rfl (by rfl) (Ad en_181 (by rfl)) (c_sorobanref03_CmpInt r0d r2e A2d c3d A4e c5e w7 (tbx X6b hT) ((n4d.ext E7a).ext E9a) n6e) fun r4f f8e w8 E7b=>?_
 have X9e:=xtr X6b E7b
 have S5f:=S7e.trans E7b
 refine dA 13 rfl (fun _=>Ab rfl) ?_
 refine CI (by kernel_rfl) ?_
 refine h3c _ _<|wp_ret ?_
 exact Bq f8e X9e rfl
theorem c_sorobanref03_Rounded (x0:Nat) (x1:Nat) (x2:Nat) (x3:Bool) (x4:Int) (A1:OA) (c2:Nat) (A4:OA) (c5:Nat) (A7:OA) (c8:Nat) (w:World) (hT:TB w) (n3:RU w A1 c2 x0) (n6:RU w A4 c5 x1) (n9:RU w A7 c8 x2) (r:Nat) (hr:EV x0 x1 x2 x3 x4=some r) :
  Calls prog 212 #[.slice A1 (sz x0) c2,.slice A4 (sz x1) c5,.slice A7 (sz x2) c8,.bool x3,.int .i64 x4] w (Ret Kj w r):=by
 unfold EV at hr
 go_enter func212,ntmps212
 refine ws fun h1m=>Ai<|sV (Ab rfl) ?_
 refine wh h1m<|ws fun h2m=>ws fun h3m=>Ai<|sV2 (Aa rfl) (Az AJ rfl) ?_
 refine sbl (BD rfl rfl) fun z2h hz2h=>?_
 refine wh h3m ?_
 rcases zi hz2h hr with ⟨e7b,_,f4m⟩ | ⟨e7b,_,f5m⟩
 ·refine ct e7b<|ws fun h6m=>Ai<|sV2 (Aa rfl) (Ab rfl) ?_
  refine wh h6m<|wp_ret ?_
  exact Bq f4m (Ext.refl _) ⟨A1,c2,rfl,n3⟩
 ·refine cf e7b<|wp_skip<|h2m _ _<|ws fun h7m=>Ai<|sV (Aa rfl) ?_
  refine sbl (BD rfl rfl) fun z3h hz3h=>?_
  refine sV (Aa rfl) ?_
  obtain ⟨m8m,h9m,f0n⟩:=Ac f5m
  refine Bw 6 (fun l l' w'=>∃(t4h:Value) (t5h:Value),w=w'∧l'=(((l.set 20 t4h).set 21 t5h).set 22 (.bool m8m))) ?_ ?_
  ·intro HJ39
   rcases zi hz3h h9m with ⟨e5a,_,f1n⟩ | ⟨e5a,_,f2n⟩
   ·refine sV (Aa rfl) ?_ (hw:=wgT rfl e5a)
    refine sbl (Fj rfl) (fun z8b hz8b=>?_) (hw:=wgT rfl e5a)
    refine sV (Aq (evb rfl e5a) rfl) ?_
    obtain rfl:z8b=decide (¬(x3=true)):=bz hz8b
    obtain rfl:=sj f1n
    exact HJ39 _ _ ⟨(.bool x3),(.bool (decide (¬(x3=true)))),rfl,(by kernel_rfl)⟩
   ·refine sQ rfl e5a ?_
    refine sQ rfl e5a ?_
    refine sV (Av (evb rfl e5a) rfl) ?_
    obtain rfl:=sj f2n
    exact HJ39 _ _ ⟨uu,uu,rfl,(by kernel_rfl)⟩
  ·rintro l' _ ⟨t4h,t5h,rfl,rfl⟩ l'' hl
   simp only [S0,S1] at hl;subst hl
   refine sV (Aa rfl) ?_
   obtain ⟨m3n,h4n,f5n⟩:=Ac f0n
   refine Bw 13 (fun l l' w'=>∃(t6h:Value) (t7h:Value) (t8h:Value) (t9h:Value) (t0i:Value),w=w'∧l'=((((((l.set 24 t6h).set 25 t7h).set 26 t8h).set 27 t9h).set 28 t0i).set 29 (.bool m3n))) ?_ ?_
   ·intro HJ77
    rcases zb h4n with ⟨e2a,f6n⟩ | ⟨e2a,f7n⟩
    ·refine sQ rfl e2a ?_
     refine sQ rfl e2a ?_
     refine sQ rfl e2a ?_
     refine sP ?_
     refine sQ rfl e2a ?_
     refine sV (Aq (evb rfl e2a) rfl) ?_
     obtain rfl:=sj f6n
     exact HJ77 _ _ ⟨uu,uu,uu,uu,uu,rfl,(by kernel_rfl)⟩
    ·refine sV (Aa rfl) ?_ (hw:=wgT rfl e2a)
     refine sbl (BD rfl rfl) (fun z9a hz9a=>?_) (hw:=wgT rfl e2a)
     refine sV (Aa rfl) ?_ (hw:=wgT rfl e2a)
     obtain ⟨m1i,h8n,f9n⟩:=Ac f7n
     refine Bw 12 (fun l l' w'=>∃(t9b:Value),w=w'∧l'=((l.set 27 t9b).set 28 (.bool m1i))) ?_ ?_
     ·intro HJ94
      rcases zi hz9a h8n with ⟨e7a,_,f0o⟩ | ⟨e7a,_,f1o⟩
      ·refine sV (Aa rfl) ?_ (hw:=wgT rfl e7a)
       refine sV (Aq (evb rfl e7a) rfl) ?_ (hw:=wgT rfl e2a)
       obtain rfl:=sj f0o
       exact HJ94 _ _ ⟨(.bool x3),rfl,(by kernel_rfl)⟩
      ·refine sQ rfl e7a ?_
       refine sV (Av (evb rfl e7a) rfl) ?_ (hw:=wgT rfl e2a)
       obtain rfl:=sj f1o
       exact HJ94 _ _ ⟨uu,rfl,(by kernel_rfl)⟩
     ·rintro l' _ ⟨t9b,rfl,rfl⟩ l'' hl
      simp only [S0,S1] at hl;subst hl
      refine sV (Av (evb rfl e2a) rfl) ?_
      obtain rfl:=sj f9n
      exact HJ77 _ _ ⟨(.int .i64 x4),(.bool z9a),(.bool z9a),t9b,(.bool m1i),rfl,(by kernel_rfl)⟩
   ·rintro l' _ ⟨t6h,t7h,t8h,t9h,t0i,rfl,rfl⟩ l'' hl
    simp only [S0,S1] at hl;subst hl
    refine sV (Ab rfl) ?_
    refine wh h7m<|ws fun h2o=>ws fun h3o=>Ai<|sV (Aa rfl) ?_
    refine sbl (BD rfl rfl) fun z2i hz2i=>?_
    refine sV (Aa rfl) ?_
    obtain ⟨m4o,h5o,f6o⟩:=Ac f5n
    refine Bw 6 (fun l l' w'=>∃(t3i:Value) (t4i:Value),w=w'∧l'=(((l.set 33 t3i).set 34 t4i).set 35 (.bool m4o))) ?_ ?_
    ·intro HJ115
     rcases zi hz2i h5o with ⟨e6a,_,f7o⟩ | ⟨e6a,_,f8o⟩
     ·refine sQ rfl e6a ?_
      refine sQ rfl e6a ?_
      refine sV (Aq (evb rfl e6a) rfl) ?_
      obtain rfl:=sj f7o
      exact HJ115 _ _ ⟨uu,uu,rfl,(by kernel_rfl)⟩
     ·refine sV (Aa rfl) ?_ (hw:=wgT rfl e6a)
      refine sbl (BD rfl rfl) (fun z0c hz0c=>?_) (hw:=wgT rfl e6a)
      refine sV (Av (evb rfl e6a) rfl) ?_
      obtain rfl:z0c=decide (x4=2):=bz hz0c
      obtain rfl:=sj f8o
      exact HJ115 _ _ ⟨(.int .i64 x4),(.bool (decide (x4=2))),rfl,(by kernel_rfl)⟩
    ·rintro l' _ ⟨t3i,t4i,rfl,rfl⟩ l'' hl
     simp only [S0,S1] at hl;subst hl
     refine wh h3o ?_
     obtain ⟨m9o,h0p,f1p⟩:=Ac f6o
     refine BJ (fun l l' w'=>∃(t5i:Value) (t6i:Value) (t7i:Value) (t8i:Value) (t9i:Value) (t0j:Value) (t1j:Value) (t2j:Value) (t3j:Value) (t4j:Value) (t5j:Value) (t6j:Value) (t7j:Value) (t8j:Value) (t9j:Value) (t0k:Value) (t1k:Value) (t2k:Value) (t3k:Value) (t4k:Value) (t5k:Value) (t6k:Value) (t7k:Value) (t8k:Value) (t9k:Value) (t0l:Value) (t1l:Value) (t2l:Value),UpdS [] w w'∧l'=(((((((((((((((((((((((((((((l.set 11 (.bool m9o)).set 12 t5i).set 36 t6i).set 37 t7i).set 38 t8i).set 39 t9i).set 40 t0j).set 41 t1j).set 42 t2j).set 43 t3j).set 44 t4j).set 45 t5j).set 46 t6j).set 47 t7j).set 48 t8j).set 49 t9j).set 50 t0k).set 51 t1k).set 52 t2k).set 53 t3k).set 54 t4k).set 55 t5k).set 56 t6k).set 57 t7k).set 58 t8k).set 59 t9k).set 60 t0l).set 61 t1l).set 62 t2l)) ?_ ?_
     ·rcases zb h0p with ⟨e1c,f2p⟩ | ⟨e1c,f3p⟩
      ·refine ct e1c<|ws fun h4p=>Ai<|sV2 (Aa rfl) (Aa rfl) ?_
       refine scn f2p (Ad OS (by rfl)) (Gs x1 x1 A4 c5 A4 c5 w hT n6 n6) fun r3l f5p w1 A4l c5l E0b n6p=>?_
       refine sV (Aa rfl) ?_
       refine scr f5p (Ad Mw (by rfl)) (EA r3l x2 A4l c5l A7 c8 w1 (tbx E0b hT) n6p (n9.ext E0b)) fun r1b f7p w2 E6l=>?_
       have X8p:=xtr E0b E6l
       refine sV (Ab rfl) ?_
       refine wh h4p<|Ai<|sV (Aa rfl) ?_
       refine sbl (ES rfl rfl) fun z2b hz2b=>?_
       refine sV (Aa rfl) ?_
       obtain ⟨m7l,h9p,f0q⟩:=Ac f7p
       refine Bw 22 (fun l l' w'=>∃(t2c:Value) (t3c:Value) (t4c:Value) (t5c:Value) (t6c:Value) (t7c:Value) (t8c:Value) (t9c:Value) (t0d:Value) (t1d:Value) (t2d:Value) (t3d:Value) (t4d:Value) (t5d:Value) (t6d:Value) (t7d:Value) (t8d:Value) (t9d:Value),w2=w'∧l'=(((((((((((((((((((l.set 44 t2c).set 45 t3c).set 46 t4c).set 47 t5c).set 48 t6c).set 49 t7c).set 50 t8c).set 51 t9c).set 52 t0d).set 53 t1d).set 54 t2d).set 55 t3d).set 56 t4d).set 57 t5d).set 58 t6d).set 59 t7d).set 60 t8d).set 61 t9d).set 62 (.bool m7l))) ?_ ?_
       ·intro HJ1015
        rcases zi hz2b h9p with ⟨e3a,_,f1q⟩ | ⟨e3a,_,f2q⟩
        ·refine sQ rfl e3a ?_
         refine sQ rfl e3a ?_
         refine sQ rfl e3a ?_
         refine sP ?_
         refine sP ?_
         refine sP ?_
         refine sP ?_
         refine sP ?_
         refine sP ?_
         refine sP ?_
         refine sP ?_
         refine sP ?_
         refine sP ?_
         refine sP ?_
         refine sP ?_
         refine sP ?_
         refine sP ?_
         refine sQ rfl e3a ?_
         refine sV (Aq (evb rfl e3a) rfl) ?_
         obtain rfl:=sj f1q
         exact HJ1015 _ _ ⟨uu,uu,uu,uu,uu,uu,uu,uu,uu,uu,uu,uu,uu,uu,uu,uu,uu,uu,rfl,(by kernel_rfl)⟩
        ·refine sV (Aa rfl) ?_ (hw:=wgT rfl e3a)
         refine sbl (BD rfl rfl) (fun z3b hz3b=>?_) (hw:=wgT rfl e3a)
         refine sV (Aa rfl) ?_ (hw:=wgT rfl e3a)
         obtain ⟨m8l,h3q,f4q⟩:=Ac f2q
         refine Bw 21 (fun l l' w'=>∃(t0e:Value) (t1e:Value) (t2e:Value) (t3e:Value) (t4e:Value) (t5e:Value) (t6e:Value) (t7e:Value) (t8e:Value) (t9e:Value) (t0f:Value) (t1f:Value) (t2f:Value) (t3f:Value),w2=w'∧l'=(((((((((((((((l.set 47 t0e).set 48 t1e).set 49 t2e).set 50 t3e).set 51 t4e).set 52 t5e).set 53 t6e).set 54 t7e).set 55 t8e).set 56 t9e).set 57 t0f).set 58 t1f).set 59 t2f).set 60 t3f).set 61 (.bool m8l))) ?_ ?_
         ·intro HJ1157
          rcases zi hz3b h3q with ⟨e4a,_,f5q⟩ | ⟨e4a,_,f6q⟩
          ·refine sV (Aa rfl) ?_ (hw:=wgT rfl e4a)
           refine sbl (BD rfl rfl) (fun z4b hz4b=>?_) (hw:=wgT rfl e4a)
           refine sV (Aa rfl) ?_ (hw:=wgT rfl e4a)
           obtain ⟨m9l,h7q,f8q⟩:=Ac f5q
           refine Bw 20 (fun l l' w'=>∃(t4f:Value) (t5f:Value) (t6f:Value) (t7f:Value) (t8f:Value) (t9f:Value) (t0g:Value) (t1g:Value) (t2g:Value) (t3g:Value),w2=w'∧l'=(((((((((((l.set 50 t4f).set 51 t5f).set 52 t6f).set 53 t7f).set 54 t8f).set 55 t9f).set 56 t0g).set 57 t1g).set 58 t2g).set 59 t3g).set 60 (.bool m9l))) ?_ ?_
           ·intro HJ1226
            rcases zi hz4b h7q with ⟨e0a,_,f9q⟩ | ⟨e0a,_,f0r⟩
            ·refine sQ rfl e0a ?_
             refine sQ rfl e0a ?_
             refine sQ rfl e0a ?_
             refine sQ rfl e0a ?_
             refine sP ?_
             refine sP ?_
             refine sP ?_
             refine sP ?_
             refine sP ?_
             refine sQ rfl e0a ?_
             refine sV (Aq (evb rfl e0a) rfl) ?_ (hw:=wgT rfl e4a)
             obtain rfl:=sj f9q
             exact HJ1226 _ _ ⟨uu,uu,uu,uu,uu,uu,uu,uu,uu,uu,rfl,(by kernel_rfl)⟩
            ·refine sV (Aa rfl) ?_ (hw:=wgT rfl e0a)
             refine sV (Az AJ rfl) ?_ (hw:=wgT rfl e0a)
             refine sbl (ES rfl rfl) (fun z5b hz5b=>?_) (hw:=wgT rfl e0a)
             refine sV (Aa rfl) ?_ (hw:=wgT rfl e0a)
             obtain ⟨m0m,h1r,f2r⟩:=Ac f0r
             refine Bw 19 (fun l l' w'=>∃(t4g:Value) (t5g:Value) (t6g:Value) (t7g:Value) (t8g:Value),w2=w'∧l'=((((((l.set 54 t4g).set 55 t5g).set 56 t6g).set 57 t7g).set 58 t8g).set 59 (.bool m0m))) ?_ ?_
             ·intro HJ1258
              rcases zi hz5b h1r with ⟨e1a,_,f3r⟩ | ⟨e1a,_,f4r⟩
              ·refine sV (Aa rfl) ?_ (hw:=wgT rfl e1a)
               obtain ⟨u8a,h5r,f6r⟩:=Ac f3r
               obtain ⟨bb1267,oo1268,hA7r,ia8r,ib9r,hc1270⟩:=RL.nth (n3.ext X8p) h5r
               refine sV (As AJ Ao rfl rfl hA7r ia8r ib9r) ?_ (hw:=wgT rfl e1a)
               refine sV (Ah AP rfl hc1270) ?_ (hw:=wgT rfl e1a)
               refine sV (JC (c:=u8a.tmod 2) (by decide) rfl rfl rfl) ?_ (hw:=wgT rfl e1a)
               refine sbl (BD rfl rfl) (fun z9g hz9g=>?_) (hw:=wgT rfl e1a)
               refine sV (Aq (evb rfl e1a) rfl) ?_ (hw:=wgT rfl e0a)
               obtain rfl:z9g=decide ((u8a.tmod 2)=1):=bz hz9g
               obtain rfl:=sj f6r
               exact HJ1258 _ _ ⟨(.slice A1 (sz x0) c2),(.pointer (some ⟨bb1267,oo1268+(0:Int).toNat,none⟩)),(.int .u32 u8a),(.int .u32 (u8a.tmod 2)),(.bool (decide ((u8a.tmod 2)=1))),rfl,(by kernel_rfl)⟩
              ·refine sQ rfl e1a ?_
               refine sQ rfl e1a ?_
               refine sQ rfl e1a ?_
               refine sQ rfl e1a ?_
               refine sQ rfl e1a ?_
               refine sV (Av (evb rfl e1a) rfl) ?_ (hw:=wgT rfl e0a)
               obtain rfl:=sj f4r
               exact HJ1258 _ _ ⟨uu,uu,uu,uu,uu,rfl,(by kernel_rfl)⟩
             ·rintro l' _ ⟨t4g,t5g,t6g,t7g,t8g,rfl,rfl⟩ l'' hl
              simp only [S0,S1] at hl;subst hl
              refine sV (Av (evb rfl e0a) rfl) ?_ (hw:=wgT rfl e4a)
              obtain rfl:=sj f2r
              exact HJ1226 _ _ ⟨(.slice A1 (sz x0) c2),(.int .i64 (sz x0:Int)),(.bool z5b),(.bool z5b),t4g,t5g,t6g,t7g,t8g,(.bool m0m),rfl,(by kernel_rfl)⟩
           ·rintro l' _ ⟨t4f,t5f,t6f,t7f,t8f,t9f,t0g,t1g,t2g,t3g,rfl,rfl⟩ l'' hl
            simp only [S0,S1] at hl;subst hl
            refine sV (Aq (evb rfl e4a) rfl) ?_ (hw:=wgT rfl e3a)
            obtain rfl:=sj f8q
            exact HJ1157 _ _ ⟨(.int .i64 x4),(.bool z4b),(.bool z4b),t4f,t5f,t6f,t7f,t8f,t9f,t0g,t1g,t2g,t3g,(.bool m9l),rfl,(by kernel_rfl)⟩
          ·refine sQ rfl e4a ?_
           refine sQ rfl e4a ?_
           refine sQ rfl e4a ?_
           refine sP ?_
           refine sP ?_
           refine sP ?_
           refine sP ?_
           refine sP ?_
           refine sP ?_
           refine sP ?_
           refine sP ?_
           refine sP ?_
           refine sP ?_
           refine sQ rfl e4a ?_
           refine sV (Av (evb rfl e4a) rfl) ?_ (hw:=wgT rfl e3a)
           obtain rfl:=sj f6q
           exact HJ1157 _ _ ⟨uu,uu,uu,uu,uu,uu,uu,uu,uu,uu,uu,uu,uu,uu,rfl,(by kernel_rfl)⟩
         ·rintro l' _ ⟨t0e,t1e,t2e,t3e,t4e,t5e,t6e,t7e,t8e,t9e,t0f,t1f,t2f,t3f,rfl,hq'⟩ l'' hl
          rw [hq'] at hl
          clear hq'
          simp only [S0,S1] at hl;subst hl
          refine sV (Av (evb rfl e3a) rfl) ?_
          obtain rfl:=sj f4q
          exact HJ1015 _ _ ⟨(.int .i64 r1b),(.bool z3b),(.bool z3b),t0e,t1e,t2e,t3e,t4e,t5e,t6e,t7e,t8e,t9e,t0f,t1f,t2f,t3f,(.bool m8l),rfl,(by kernel_rfl)⟩
       ·rintro l' _ ⟨t2c,t3c,t4c,t5c,t6c,t7c,t8c,t9c,t0d,t1d,t2d,t3d,t4d,t5d,t6d,t7d,t8d,t9d,rfl,hq'⟩ l'' hl
        rw [hq'] at hl
        clear hq'
        simp only [S0,S1] at hl;subst hl
        refine sV (Ab rfl) ?_
        refine AE ?_
        obtain rfl:=sj f0q
        exact ⟨_,rfl,(.int .i64 r1b),(.slice A4 (sz x1) c5),(.slice A4 (sz x1) c5),(.slice A4l (sz r3l) c5l),(.slice A7 (sz x2) c8),(.int .i64 r1b),(.int .i64 r1b),(.bool z2b),(.bool z2b),t2c,t3c,t4c,t5c,t6c,t7c,t8c,t9c,t0d,t1d,t2d,t3d,t4d,t5d,t6d,t7d,t8d,t9d,(.bool m7l),(((UpdS.refl _ _).ext E0b).ext E6l),(by kernel_rfl)⟩
      ·refine cf e1c<|wp_skip ?_
       obtain rfl:=sj f3p
       exact ⟨_,rfl,uu,uu,uu,uu,uu,uu,uu,uu,uu,uu,uu,uu,uu,uu,uu,uu,uu,uu,uu,uu,uu,uu,uu,uu,uu,uu,uu,uu,(UpdS.refl _ _),(by kernel_rfl)⟩
     ·rintro l' w1 ⟨t5i,t6i,t7i,t8i,t9i,t0j,t1j,t2j,t3j,t4j,t5j,t6j,t7j,t8j,t9j,t0k,t1k,t2k,t3k,t4k,t5k,t6k,t7k,t8k,t9k,t0l,t1l,t2l,U0s,hq'⟩ l'' hl
      rw [hq'] at hl
      clear hq'
      simp only [S0,S1] at hl;subst hl
      have X6b:=GM (Ext.refl _) U0s (Nat.le_refl _) al0
      refine h2o _ _<|ws fun h1s=>ws fun h2s=>Ai<|sV (Aa rfl) ?_
      refine wh h2s ?_
      rcases zb f1p with ⟨e0h,f3s⟩ | ⟨e0h,f4s⟩
      ·refine ct e0h<|ws fun h5s=>Ai<|sV (Aa rfl) ?_
       refine scn f3s (Ad Ms (by rfl)) (Fx w1 (tbx X6b hT)) fun r6s f7s w2 A8s c9s E0t n1t=>?_
       have X1h:=xtr X6b E0t
       refine scn f7s (Ad OS (by rfl)) (Gs x0 r6s A1 c2 A8s c9s w2 (tbx X1h hT) (n3.ext X1h) n1t) fun r9t f2t w3 A3t c4t E5t n6t=>?_
       have X7t:=xtr X1h E5t
       refine sV (Ab rfl) ?_
       refine wh h5s<|wp_ret ?_
       exact Bq f2t X7t ⟨A3t,c4t,rfl,n6t⟩
      ·refine cf e0h<|wp_skip<|h1s _ _<|ws fun h8t=>Ai<|sV2 (Aa rfl) (Ab rfl) ?_
       refine wh h8t<|wp_ret ?_
       exact Bq f4s X6b ⟨A1,c2,rfl,(n3.ext X6b)⟩
theorem Ib (x0:Nat) (x1:Nat) (x2:Nat) (x3:Bool) (x4:Int) (x5:Int) (A1:OA) (c2:Nat) (A4:OA) (c5:Nat) (A7:OA) (c8:Nat) (w:World) (hT:TB w) (n3:RU w A1 c2 x0) (n6:RU w A4 c5 x1) (n9:RU w A7 c8 x2) (r:Ae) (hr:Dv x0 x1 x2 x3 x4 x5=some r) :
  Calls prog 150 #[.slice A1 (sz x0) c2,.slice A4 (sz x1) c5,.slice A7 (sz x2) c8,.bool x3,.int .i64 x4,.int .i64 x5] w (Ret Lk w r):=by
 unfold Dv at hr
 go_enter func150,ntmps150
 refine ws fun h8a=>Ai<|sal Ga fun b9c w1 E0a g9a q0b=>?_
 refine nx h8a fun h1b=>sV3 (Aa rfl) (Aa rfl) (Aa rfl) ?_
 refine sV3 (Aa rfl) (Aa rfl) (Aa rfl) ?_
 refine scn hr (Ad en_212 (by rfl)) (c_sorobanref03_Rounded x0 x1 x2 x3 x4 A1 c2 A4 c5 A7 c8 w1 (tbx E0a hT) (n3.ext E0a) (n6.ext E0a) (n9.ext E0a)) fun r2b f3b w2 A4b c5b E1a n6b=>?_
 have X2a:=xtr E0a E1a
 refine scn f3b (Ad JY (by rfl)) (BH x3 r2b A4b c5b w2 (tbx X2a hT) n6b) fun r7b f8b w3 A9b c0c E3a n1c=>?_
 have X4a:=xtr X2a E3a
 refine sV (Aa rfl) ?_
 refine scn f8b (Ad Qm (by rfl)) (IS r7b x5 A9b c0c w3 (tbx X4a hT) n1c) fun r0d f2c w4 A3c c4c E5a n5c=>?_
 have X6c:=xtr X4a E5a
 have q6a:=((q0b.ext E1a).ext E3a).ext E5a
 refine ss DC q6a fun w5 U7a q7c=>?_
 have X8c:=belU X6c U7a g9a
 refine wh h1b<|wp_ret ?_
 exact Ej f2c AH q7c X8c ⟨A3c,c4c,rfl,(n5c.upd U7a q6a (by decide))⟩
theorem IG (x0:BG) (x1:Int) (x2:Int) (A1:OA) (c2:Nat) (A4:OA) (c5:Nat) (w:World) (hT:TB w) (n3:RU w A1 c2 x0.Num.Abs) (n6:RU w A4 c5 x0.Den) (r:Ae) (hr:Cc x0 x1 x2=some r) :
  Calls prog 59 #[.agg #[.bool x0.Num.Neg,.slice A1 (sz x0.Num.Abs) c2,.slice A4 (sz x0.Den) c5],.int .i64 x1,.int .i64 x2] w (Ret Lk w r):=by
 unfold Cc at hr
 go_enter func59,ntmps59
 refine ws fun h7=>Ai<|sbx rfl rfl fun b8 w1 E9 g9d q0b=>?_
 refine sal Ga fun b3c w2 E5a g4c q4b=>?_
 have g5b:=nlt E9.size g4c
 have X5c:=xtr E9 E5a
 refine wh h7<|ws fun h0e=>ws fun h1e=>Ai<|sV3 (Ag (o':=0) HC rfl rfl) (Ag (o':=1) BA rfl rfl) (Ah BM rfl (Bx.cell (q0b.ext E5a) rfl)) ?_
 refine sV (Az AJ rfl) ?_
 refine sbl (BD rfl rfl) fun z2e hz2e=>?_
 refine wh h1e ?_
 rcases zi hz2e hr with ⟨e6c,_,f4h⟩ | ⟨e6c,_,f5h⟩
 ·refine ct e6c<|ws fun h6h=>Ai<|sV (AR (vals:=[]) (cells:=[.bool false,.slice none 0 0,.int .i64 0]) (by rfl) (by kernel_rfl)) ?_
  refine ss DC q4b fun w3 U7h q8h=>?_
  have F9h:=belU E5a U7h g4c
  have X0i:=xtr E9 F9h
  refine wh h6h<|wp_ret ?_
  exact Ej f4h AH q8h X0i ⟨none,0,rfl,(RU.nil _)⟩
 ·refine cf e6c<|wp_skip<|h0e _ _<|ws fun h1i=>DD [] 11 mo rfl fun w3 E6b S7c=>have X8c:=xtr X5c E6b;dA 0 rfl (fun _=>Ag (o':=0) HC rfl rfl) ?_
  refine dA 1 rfl (fun _=>Ag (o':=1) BA rfl rfl) ?_
  have q9c:=(q0b.ext E5a).ext E6b
  refine dV 2 rfl (fun _ hw=>Ah BM rfl (Bx.cell (q9c.ext hw) rfl)) S7c ?_
  refine dA 4 rfl (fun _=>Ag (o':=2) HS rfl rfl) ?_
  refine dV 5 rfl (fun _ hw=>Ah BM rfl (Bx.cell (q9c.ext hw) rfl)) S7c ?_
  refine dA 8 rfl (fun _=>Aa rfl) ?_
  refine dcr f5h 3 rfl (by rfl) (Ad LO (by rfl)) (Du x0.Num.Abs A1 c2 w3 (tbx X8c hT) (n3.ext X8c)) fun r0a f2i w4 E1b=>?_
  have X0d:=xtr X8c E1b
  have S3i:=S7c.trans E1b
  refine dcr f2i 6 rfl (by rfl) (Ad LO (by rfl)) (Du x0.Den A4 c5 w4 (tbx X0d hT) (n6.ext X0d)) fun r1a f4i w5 E2b=>?_
  have X1d:=xtr X0d E2b
  have S9o:=S3i.trans E2b
  refine dA2 7 9 rfl rfl (fun _=>Bc (c:=wi64 (r0a - r1a)) rfl rfl rfl) (fun _=>Bc (c:=wi64 ((wi64 (r0a - r1a)) - x1)) rfl rfl rfl) ?_
  refine dA 10 rfl (fun _=>Ab rfl) ?_
  refine CI (by kernel_rfl) ?_
  refine h1i _ _ ?_
  apply wp_block
  refine Ip<|AW ?_
  apply wp_block
  refine ws fun h5i=>Ai<|sV2 (Ag (o':=0) HC rfl rfl) (Ag (o':=1) BA rfl rfl) ?_
  have q7b:=(q9c.ext E1b).ext E2b
  refine sV3 (Ah BM rfl (Bx.cell q7b rfl)) (Aa rfl) (Bc (c:=wi64 (0 - (wi64 ((wi64 (r0a - r1a)) - x1)))) rfl rfl rfl) ?_
  refine sV (LF rfl rfl) ?_
  refine scn f4i (Ad JR (by rfl)) (CJ x0.Num.Abs (max 0 (wi64 (0 - (wi64 ((wi64 (r0a - r1a)) - x1))))) A1 c2 w5 (tbx X1d hT) (n3.ext X1d)) fun r6i f7i w6 A8i c9i E7a n0j=>?_
  have X2d:=xtr X1d E7a
  refine sV (Ab rfl) ?_
  refine nx h5i fun h1j=>sV3 (Ag (o':=2) HS rfl rfl) (Ah BM rfl (Bx.cell (q7b.ext E7a) rfl)) (Aa rfl) ?_
  refine sV (LF rfl rfl) ?_
  refine scn f7i (Ad JR (by rfl)) (CJ x0.Den (max 0 (wi64 ((wi64 (r0a - r1a)) - x1))) A4 c5 w6 (tbx X2d hT) (n6.ext X2d)) fun r3e f2j w7 A4e c5e E8a n6e=>?_
  have X7e:=xtr X2d E8a
  refine sV (Ab rfl) ?_
  refine nx h1j fun h3j=>sV2 (Aa rfl) (Aa rfl) ?_
  obtain ⟨r8b,h4j,f5j⟩:=Ac f2j
  refine sc (Ad Mx (by rfl)) (DH r6i r3e A8i c9i A4e c5e w7 (tbx X7e hT) (n0j.ext E8a) n6e r8b h4j) ?_
  rintro _ w8 E9a ⟨A8e,c9e,A6j,c7j,rfl,n0f,n8j⟩
  refine nrm ?_
  have X1f:=xtr X7e E9a
  refine sal LL fun b0p w9 E9j g2f q0k=>?_
  have g1p:=nlt X1f.size g2f
  refine ss KC q0k fun w9d U1k q3d=>?_
  have F3a:=belU E9j U1k g2f
  have X3f:=xtr X1f F3a
  refine wh h3j<|ws fun h2k=>ws fun h3k=>Ai<|sV2 (Ag (o':=0) KX rfl rfl) (Ah BM rfl (Bx.cell q3d rfl)) ?_
  refine scr f5j (Ad LO (by rfl)) (Du r8b.Q A8e c9e w9d (tbx X3f hT) (n0f.ext F3a)) fun r2p f4k w0b E2a=>?_
  have X3b:=xtr X3f E2a
  refine sV (Aa rfl) ?_
  refine sbl (GL rfl rfl) fun z4f hz4f=>?_
  refine wh h3k ?_
  rcases zi hz4f f4k with ⟨e4d,_,f5k⟩ | ⟨e4d,_,f6k⟩
  ·refine ct e4d<|ws fun h7k=>Ai<|sV3 (Ag (o':=0) KX rfl rfl) (Ah BM rfl (Bx.cell (q3d.ext E2a) rfl)) (Ag (o':=1) LS rfl rfl) ?_
   refine sV3 (Ah BM rfl (Bx.cell (q3d.ext E2a) rfl)) (Aa rfl) (Ag (o':=0) HC rfl rfl) ?_
   refine sV (Ag (o':=0) Ey rfl rfl) ?_
   have q8k:=((((q7b.ext E7a).ext E8a).ext E9a).ext F3a).ext E2a
   refine sV3 (Ah Gy rfl (Bx.cell q8k rfl)) (Aa rfl) (Aa rfl) ?_
   have n9k:=((n6e.ext E9a).ext F3a).ext E2a
   refine scn f5k (Ad Pl (by rfl)) (Ib r8b.Q r8b.R r3e x0.Num.Neg x2 (wi64 ((wi64 (r0a - r1a)) - x1)) A8e c9e A6j c7j A4e c5e w0b (tbx X3b hT) ((n0f.ext F3a).ext E2a) ((n8j.ext F3a).ext E2a) n9k) fun r3p f0l w3c A1l c2l E5f n3l=>?_
   have X4l:=xtr X3b E5f
   have q6f:=((((((((q4b.ext E6b).ext E1b).ext E2b).ext E7a).ext E8a).ext E9a).ext F3a).ext E2a).ext E5f
   refine ss DC q6f fun w5a U7f q5l=>?_
   have X6l:=belU X4l U7f g5b
   refine wh h7k<|wp_ret ?_
   exact Ej f0l AH q5l X6l ⟨A1l,c2l,rfl,(n3l.upd U7f q6f (by decide))⟩
  ·refine cf e4d<|wp_skip<|h2k _ _<|Ai<|sV3 (Aa rfl) (AL (c:=wi64 ((wi64 ((wi64 (r0a - r1a)) - x1))+1)) rfl rfl rfl) (Ab rfl) ?_
   refine AE<|AW ?_
   apply wp_block
   refine ws fun h7l=>Ai<|sV2 (Ag (o':=0) HC rfl rfl) (Ag (o':=1) BA rfl rfl) ?_
   have q5d:=((((q7b.ext E7a).ext E8a).ext E9a).ext F3a).ext E2a
   refine sV3 (Ah BM rfl (Bx.cell q5d rfl)) (Aa rfl) (Bc (c:=wi64 (0 - (wi64 ((wi64 ((wi64 (r0a - r1a)) - x1))+1)))) rfl rfl rfl) ?_
   refine sV (LF rfl rfl) ?_
   refine scn f6k (Ad JR (by rfl)) (CJ x0.Num.Abs (max 0 (wi64 (0 - (wi64 ((wi64 ((wi64 (r0a - r1a)) - x1))+1))))) A1 c2 w0b (tbx X3b hT) (n3.ext X3b)) fun r8l f9l w3c A0m c1m E9b n2m=>?_
   have X6d:=xtr X3b E9b
   refine sV (Ab rfl) ?_
   refine nx h7l fun h3m=>sV3 (Ag (o':=2) HS rfl rfl) (Ah BM rfl (Bx.cell (q5d.ext E9b) rfl)) (Aa rfl) ?_
   refine sV (LF rfl rfl) ?_
   refine scn f9l (Ad JR (by rfl)) (CJ x0.Den (max 0 (wi64 ((wi64 ((wi64 (r0a - r1a)) - x1))+1))) A4 c5 w3c (tbx X6d hT) (n6.ext X6d)) fun r8f f4m w5a A9f c0g E0c n1g=>?_
   have X2g:=xtr X6d E0c
   refine sV (Ab rfl) ?_
   refine nx h3m fun h5m=>sV2 (Aa rfl) (Aa rfl) ?_
   obtain ⟨r1c,h6m,f7m⟩:=Ac f4m
   refine sc (Ad Mx (by rfl)) (DH r8l r8f A0m c1m A9f c0g w5a (tbx X2g hT) (n2m.ext E0c) n1g r1c h6m) ?_
   rintro _ w4c E2c ⟨A3g,c4g,A8m,c9m,rfl,n5g,n0n⟩
   refine nrm ?_
   have X6g:=xtr X2g E2c
   refine sal LL fun b4p w4b E1n g7g q2n=>?_
   have g5p:=nlt X6g.size g7g
   refine ss KC q2n fun w5b U3n q7d=>?_
   have F6a:=belU E1n U3n g7g
   have X8g:=xtr X6g F6a
   refine wh h5m<|ws fun h4n=>ws fun h5n=>Ai<|sV2 (Ag (o':=0) KX rfl rfl) (Ah BM rfl (Bx.cell q7d rfl)) ?_
   refine scr f7m (Ad LO (by rfl)) (Du r1c.Q A3g c4g w5b (tbx X8g hT) (n5g.ext F6a)) fun r6p f6n w5c E4a=>?_
   have X9g:=xtr X8g E4a
   refine sV (Aa rfl) ?_
   refine sbl (GL rfl rfl) fun z0h hz0h=>?_
   refine wh h5n ?_
   rcases zi hz0h f6n with ⟨e8d,_,f7n⟩ | ⟨e8d,_,f8n⟩
   ·refine ct e8d<|ws fun h9n=>Ai<|sV3 (Ag (o':=0) KX rfl rfl) (Ah BM rfl (Bx.cell (q7d.ext E4a) rfl)) (Ag (o':=1) LS rfl rfl) ?_
    refine sV3 (Ah BM rfl (Bx.cell (q7d.ext E4a) rfl)) (Aa rfl) (Ag (o':=0) HC rfl rfl) ?_
    refine sV (Ag (o':=0) Ey rfl rfl) ?_
    have q0o:=((((q5d.ext E9b).ext E0c).ext E2c).ext F6a).ext E4a
    refine sV3 (Ah Gy rfl (Bx.cell q0o rfl)) (Aa rfl) (Aa rfl) ?_
    have n1o:=((n1g.ext E2c).ext F6a).ext E4a
    refine scn f7n (Ad Pl (by rfl)) (Ib r1c.Q r1c.R r8f x0.Num.Neg x2 (wi64 ((wi64 ((wi64 (r0a - r1a)) - x1))+1)) A3g c4g A8m c9m A9f c0g w5c (tbx X9g hT) ((n5g.ext F6a).ext E4a) ((n0n.ext F6a).ext E4a) n1o) fun r7p f2o w0e A3o c4o E1h n5o=>?_
    have X6o:=xtr X9g E1h
    have q2h:=(((((((((((((q4b.ext E6b).ext E1b).ext E2b).ext E7a).ext E8a).ext E9a).ext F3a).ext E2a).ext E9b).ext E0c).ext E2c).ext F6a).ext E4a).ext E1h
    refine ss DC q2h fun w1e U3h q7o=>?_
    have X8o:=belU X6o U3h g5b
    refine wh h9n<|wp_ret ?_
    exact Ej f2o AH q7o X8o ⟨A3o,c4o,rfl,(n5o.upd U3h q2h (by decide))⟩
   ·refine cf e8d<|wp_skip<|h4n _ _<|Ai<|sV3 (Aa rfl) (AL (c:=wi64 ((wi64 ((wi64 ((wi64 (r0a - r1a)) - x1))+1))+1)) rfl rfl rfl) (Ab rfl) ?_
    refine AE ?_
    exact nomatch f8n
theorem c_sorobanref04_FitsSpan (x0:Aj) (A1:OA) (c2:Nat) (A4:OA) (c5:Nat) (w:World) (hT:TB w) (n3:RU w A1 c2 x0.Lo.Man.Abs) (n6:RU w A4 c5 x0.Hi.Man.Abs) (r:Cn) (hr:FW x0=some r) :
  Calls prog 108 #[.agg #[.bool x0.Lo.Man.Neg,.slice A1 (sz x0.Lo.Man.Abs) c2,.int .i64 x0.Lo.Exp,.bool x0.Hi.Man.Neg,.slice A4 (sz x0.Hi.Man.Abs) c5,.int .i64 x0.Hi.Exp]] w (Ret QH w r):=by
 unfold FW at hr
 go_enter func108,ntmps108
 refine ws fun h7=>Ai<|sbx rfl rfl fun b8 w1 E9 g0e q5a=>?_
 refine sal Px fun b1e w2 E2a g9b q1b=>?_
 have g2b:=nlt E9.size g9b
 have X6a:=xtr E9 E2a
 refine wh h7<|ws fun h0c=>ws fun h1c=>Ai<|sV2 (Ag (o':=0) Ev rfl rfl) (dld AH (q5a.ext E2a)) ?_
 refine scr hr (Ad NL (by rfl)) (EL (⟨(⟨x0.Lo.Man.Neg,(limbs x0.Lo.Man.Abs)⟩:AK),x0.Lo.Exp⟩:Au) A1 c2 w2 (tbx X6a hT) (n3.ext X6a)) fun r2e f2c w3 E1a=>?_
 have X3a:=xtr X6a E1a
 refine sbl (Fj rfl) fun z3b hz3b=>?_
 refine sV (Aa rfl) ?_
 obtain ⟨m3c,h4c,f5c⟩:=Ac f2c
 refine Bw 10 (fun l l' w'=>∃(t4b:Value) (t5b:Value) (t6b:Value) (t7b:Value),UpdS [] w3 w'∧l'=(((((l.set 8 t4b).set 9 t5b).set 10 t6b).set 11 t7b).set 12 (.bool m3c))) ?_ ?_
 ·intro HJ45
  rcases zi hz3b h4c with ⟨e0a,_,f6c⟩ | ⟨e0a,_,f7c⟩
  ·refine sQ rfl e0a ?_
   refine sQ rfl e0a ?_
   refine sQ rfl e0a ?_
   refine sQ rfl e0a ?_
   refine sV (Aq (evb rfl e0a) rfl) ?_
   obtain rfl:=sj f6c
   exact HJ45 _ _ ⟨uu,uu,uu,uu,(UpdS.refl _ _),(by kernel_rfl)⟩
  ·refine sV (Ag (o':=3) Ez rfl rfl) ?_ (hw:=wgT rfl e0a)
   refine sV (dld AH ((q5a.ext E2a).ext E1a)) ?_ (hw:=wgT rfl e0a)
   refine scr f7c (Ad NL (by rfl)) (EL (⟨(⟨x0.Hi.Man.Neg,(limbs x0.Hi.Man.Abs)⟩:AK),x0.Hi.Exp⟩:Au) A4 c5 w3 (tbx X3a hT) (n6.ext X3a)) (fun r7a f8c w4 E9c=>?_) (hw:=wgT rfl e0a)
   refine sbl (Fj rfl) (fun z8a hz8a=>?_) (hw:=wgT rfl e0a)
   refine sV (Av (evb rfl e0a) rfl) ?_
   obtain rfl:z8a=decide (¬(r7a=true)):=bz hz8a
   obtain rfl:=sj f8c
   exact HJ45 _ _ ⟨(.pointer (some ⟨b8,3,none⟩)),(.agg #[.bool x0.Hi.Man.Neg,.slice A4 (sz x0.Hi.Man.Abs) c5,.int .i64 x0.Hi.Exp]),(.bool r7a),(.bool (decide (¬(r7a=true)))),((UpdS.refl _ _).ext E9c),(by kernel_rfl)⟩
 ·rintro _ w4 ⟨t4b,t5b,t6b,t7b,U4a,rfl⟩ _ rfl
  have X8b:=GM X3a U4a (X3a).size al0
  refine wh h1c ?_
  rcases zb f5c with ⟨e9a,f0d⟩ | ⟨e9a,f1d⟩
  ·refine ct e9a<|ws fun h2d=>Ai<|sV (AR (vals:=[(1,.int .i64 2)]) (cells:=[.bool false,.slice none 0 0,.int .i64 0,.bool false,.slice none 0 0,.int .i64 0,.int .i64 2]) (by rfl) (by kernel_rfl)) ?_
   refine ss MX ((q1b.ext E1a).updS U4a nm0) fun w5 U3d q4d=>?_
   have X5d:=belU X8b U3d g2b
   refine wh h2d<|wp_ret ?_
   exact Ej f0d PF q4d X5d ⟨none,0,none,0,rfl,(RU.nil _),(RU.nil _)⟩
  ·refine cf e9a<|wp_skip<|h0c _ _<|ws fun h6d=>Ai<|have q7d:=((q5a.ext E2a).ext E1a).updS U4a nm0;sV2 (Ak Bk rfl q7d rfl) (AR (vals:=[(0,.agg #[.bool x0.Lo.Man.Neg,.slice A1 (sz x0.Lo.Man.Abs) c2,.int .i64 x0.Lo.Exp,.bool x0.Hi.Man.Neg,.slice A4 (sz x0.Hi.Man.Abs) c5,.int .i64 x0.Hi.Exp])]) (cells:=[.bool x0.Lo.Man.Neg,.slice A1 (sz x0.Lo.Man.Abs) c2,.int .i64 x0.Lo.Exp,.bool x0.Hi.Man.Neg,.slice A4 (sz x0.Hi.Man.Abs) c5,.int .i64 x0.Hi.Exp,.int .i64 0]) (by rfl) (by kernel_rfl)) ?_
   refine ss MX ((q1b.ext E1a).updS U4a nm0) fun w5 U8d q9d=>?_
   have X0b:=belU X8b U8d g2b
   refine wh h6d<|wp_ret ?_
   exact Ej f1d PF q9d X0b ⟨A1,c2,A4,c5,rfl,(n3.ext X0b),(n6.ext X0b)⟩
theorem Gw (x0:Aj) (x1:Int) (x2:Int) (x3:Aj) (A1:OA) (c2:Nat) (A4:OA) (c5:Nat) (A7:OA) (c8:Nat) (A6a:OA) (c7a:Nat) (w:World) (hT:TB w) (n3:RU w A1 c2 x0.Lo.Man.Abs) (n6:RU w A4 c5 x0.Hi.Man.Abs) (n9:RU w A7 c8 x3.Lo.Man.Abs) (n0d:RU w A6a c7a x3.Hi.Man.Abs) (r:Bool) (hr:AZ x0 x1 x2 x3=some r) :
  Calls prog 22 #[.agg #[.bool x0.Lo.Man.Neg,.slice A1 (sz x0.Lo.Man.Abs) c2,.int .i64 x0.Lo.Exp,.bool x0.Hi.Man.Neg,.slice A4 (sz x0.Hi.Man.Abs) c5,.int .i64 x0.Hi.Exp],.int .i64 x1,.int .i64 x2,.agg #[.bool x3.Lo.Man.Neg,.slice A7 (sz x3.Lo.Man.Abs) c8,.int .i64 x3.Lo.Exp,.bool x3.Hi.Man.Neg,.slice A6a (sz x3.Hi.Man.Abs) c7a,.int .i64 x3.Hi.Exp]] w (Ret Gc w r):=by
 unfold AZ at hr
 go_enter func22,ntmps22
 refine ws fun h1d=>Ai<|sbx rfl rfl fun b0h w1 E0b g1h q1b=>?_
 refine sbx rfl rfl fun b2h w2 E8a g2d q3d=>?_
 have g3h:=nlt E0b.size g2d
 have X1a:=xtr E0b E8a
 refine sV (Ab rfl) ?_
 refine wh h1d<|ws fun h4d=>ws fun h5d=>Ai<|sV (Aa rfl) ?_
 refine sbl (IW rfl rfl) fun z2b hz2b=>?_
 refine wh h5d ?_
 rcases zi hz2b hr with ⟨e9a,_,f6d⟩ | ⟨e9a,_,f7d⟩
 ·refine ct e9a<|ws fun h8d=>Ai<|sV2 (Aa rfl) (Aa rfl) ?_
  refine sbl (BD rfl rfl) fun z3b hz3b=>?_
  refine sV (Aa rfl) ?_
  obtain ⟨m9d,h0e,f1e⟩:=Ac f6d
  refine Bw 8 (fun l l' w'=>∃(t4b:Value) (t5b:Value) (t6b:Value),UpdS [] w2 w'∧l'=((((l.set 16 t4b).set 17 t5b).set 18 t6b).set 19 (.bool m9d))) ?_ ?_
  ·intro HJ143
   rcases zi hz3b h0e with ⟨e2a,_,f2e⟩ | ⟨e2a,_,f3e⟩
   ·refine sV (Ak Bk rfl (q1b.ext E8a) rfl) ?_ (hw:=wgT rfl e2a)
    refine sV (AR (vals:=[]) (cells:=[.bool false,.slice none 0 0,.int .i64 0,.bool false,.slice none 0 0,.int .i64 0]) (by rfl) (by kernel_rfl)) ?_ (hw:=wgT rfl e2a)
    refine scr f2e (Ad Nz (by rfl)) (DB x0 (⟨(⟨(⟨false,0⟩:Af),0⟩:Ae),(⟨(⟨false,0⟩:Af),0⟩:Ae)⟩:Aj) A1 c2 A4 c5 none 0 none 0 w2 (tbx X1a hT) (n3.ext X1a) (n6.ext X1a) (RU.nil _) (RU.nil _)) (fun r4e f5e w3 E6e=>?_) (hw:=wgT rfl e2a)
    refine sV (Aq (evb rfl e2a) rfl) ?_
    obtain rfl:=sj f5e
    exact HJ143 _ _ ⟨(.agg #[.bool x0.Lo.Man.Neg,.slice A1 (sz x0.Lo.Man.Abs) c2,.int .i64 x0.Lo.Exp,.bool x0.Hi.Man.Neg,.slice A4 (sz x0.Hi.Man.Abs) c5,.int .i64 x0.Hi.Exp]),(.agg #[.bool false,.slice none 0 0,.int .i64 0,.bool false,.slice none 0 0,.int .i64 0]),(.bool r4e),((UpdS.refl _ _).ext E6e),(by kernel_rfl)⟩
   ·refine sQ rfl e2a ?_
    refine sQ rfl e2a ?_
    refine sQ rfl e2a ?_
    refine sV (Av (evb rfl e2a) rfl) ?_
    obtain rfl:=sj f3e
    exact HJ143 _ _ ⟨uu,uu,uu,(UpdS.refl _ _),(by kernel_rfl)⟩
  ·rintro _ w3 ⟨t4b,t5b,t6b,U7e,rfl⟩ _ rfl
   have X8e:=GM X1a U7e (X1a).size al0
   refine sV (Ab rfl) ?_
   refine wh h8d<|wp_ret ?_
   exact Bq f1e X8e rfl
 ·refine cf e9a<|wp_skip<|h4d _ _<|ws fun h9e=>Ai<|sV (Ak Bk rfl q3d rfl) ?_
  obtain ⟨r3a,h0f,f1f⟩:=Ac f7d
  refine sc (Ad en_108 (by rfl)) (c_sorobanref04_FitsSpan x3 A7 c8 A6a c7a w2 (tbx X1a hT) (n9.ext X1a) (n0d.ext X1a) r3a h0f) ?_
  rintro _ w3 E7b ⟨A8b,c9b,A0c,c1c,rfl,n2f,n3f⟩
  refine nrm ?_
  have X2c:=xtr X1a E7b
  refine sal Px fun b4f w4 E5f g3c q6f=>?_
  have g4h:=nlt X2c.size g3c
  refine ss MX q6f fun w5 U7f q4c=>?_
  have F5a:=belU E5f U7f g3c
  have X4a:=xtr X2c F5a
  refine nx h9e fun h8f=>sV3 (Aa rfl) (Ag (o':=6) PN rfl rfl) (Ah DQ rfl (Bx.cell q4c rfl)) ?_
  refine sbl (BD rfl rfl) fun z5c hz5c=>?_
  refine sV (Aa rfl) ?_
  obtain ⟨m9f,h0g,f1g⟩:=Ac f1f
  refine Bw 10 (fun l l' w'=>∃(t6c:Value) (t7c:Value) (t8c:Value) (t9c:Value),UpdS [] w5 w'∧l'=(((((l.set 27 t6c).set 28 t7c).set 29 t8c).set 30 t9c).set 31 (.bool m9f))) ?_ ?_
  ·intro HJ111
   rcases zi hz5c h0g with ⟨e0a,_,f2g⟩ | ⟨e0a,_,f3g⟩
   ·have q4g:=((q1b.ext E8a).ext E7b).ext F5a
    refine sV (Ak Bk rfl q4g rfl) ?_ (hw:=wgT rfl e0a)
    refine sV (Ag (o':=0) Pv rfl rfl) ?_ (hw:=wgT rfl e0a)
    refine sV (dld Bk q4c) ?_ (hw:=wgT rfl e0a)
    refine scr f2g (Ad Nz (by rfl)) (DB x0 r3a.S A1 c2 A4 c5 A8b c9b A0c c1c w5 (tbx X4a hT) (n3.ext X4a) (n6.ext X4a) (n2f.ext F5a) (n3f.ext F5a)) (fun r5g f6g w6 E7g=>?_) (hw:=wgT rfl e0a)
    refine sV (Aq (evb rfl e0a) rfl) ?_
    obtain rfl:=sj f6g
    exact HJ111 _ _ ⟨(.agg #[.bool x0.Lo.Man.Neg,.slice A1 (sz x0.Lo.Man.Abs) c2,.int .i64 x0.Lo.Exp,.bool x0.Hi.Man.Neg,.slice A4 (sz x0.Hi.Man.Abs) c5,.int .i64 x0.Hi.Exp]),(.pointer (some ⟨b4f,0,none⟩)),(.agg #[.bool r3a.S.Lo.Man.Neg,.slice A8b (sz r3a.S.Lo.Man.Abs) c9b,.int .i64 r3a.S.Lo.Exp,.bool r3a.S.Hi.Man.Neg,.slice A0c (sz r3a.S.Hi.Man.Abs) c1c,.int .i64 r3a.S.Hi.Exp]),(.bool r5g),((UpdS.refl _ _).ext E7g),(by kernel_rfl)⟩
   ·refine sQ rfl e0a ?_
    refine sQ rfl e0a ?_
    refine sQ rfl e0a ?_
    refine sQ rfl e0a ?_
    refine sV (Av (evb rfl e0a) rfl) ?_
    obtain rfl:=sj f3g
    exact HJ111 _ _ ⟨uu,uu,uu,uu,(UpdS.refl _ _),(by kernel_rfl)⟩
  ·rintro _ w6 ⟨t6c,t7c,t8c,t9c,U8g,rfl⟩ _ rfl
   have X9g:=GM X4a U8g (X4a).size al0
   refine sV (Ab rfl) ?_
   refine wh h8f<|wp_ret ?_
   exact Bq f1g X9g rfl
theorem Jh (x0:Ae) (x1:Int) (x2:Int) (A1:OA) (c2:Nat) (w:World) (hT:TB w) (n3:RU w A1 c2 x0.Man.Abs) (r:Ae) (hr:BN x0 x1 x2=some r) :
  Calls prog 58 #[.agg #[.bool x0.Man.Neg,.slice A1 (sz x0.Man.Abs) c2,.int .i64 x0.Exp],.int .i64 x1,.int .i64 x2] w (Ret Lk w r):=by
 unfold BN at hr
 go_enter func58,ntmps58
 refine ws fun h4=>Ai<|sbx rfl rfl fun b5 w1 E6 g7 q8=>?_
 refine sal Ga fun b9 w2 E1a g9c q3b=>?_
 have g4b:=nlt E6.size g9c
 have X5a:=xtr E6 E1a
 refine nx h4 fun h0d=>sV3 (Ag (o':=0) EY rfl rfl) (Ag (o':=1) BA rfl rfl) (Ah BM rfl (Bx.cell (q8.ext E1a) rfl)) ?_
 refine scr hr (Ad LO (by rfl)) (Du x0.Man.Abs A1 c2 w2 (tbx X5a hT) (n3.ext X5a)) fun r4a f1d w3 E2a=>?_
 have X6a:=xtr X5a E2a
 refine sV3 (Aa rfl) (Bc (c:=wi64 (r4a - x1)) rfl rfl rfl) (Ab rfl) ?_
 refine wh h0d<|ws fun h2d=>ws fun h3d=>Ai<|sV (Aa rfl) ?_
 refine sbl (GL rfl rfl) fun z5b hz5b=>?_
 refine wh h3d ?_
 rcases zi hz5b f1d with ⟨e7a,_,f4d⟩ | ⟨e7a,_,f5d⟩
 ·refine ct e7a<|ws fun h6d=>Ai<|sV (Ak AH rfl ((q8.ext E1a).ext E2a) rfl) ?_
  refine ss DC (q3b.ext E2a) fun w4 U7d q8d=>?_
  have X6b:=belU X6a U7d g4b
  refine wh h6d<|wp_ret ?_
  exact Ej f4d AH q8d X6b ⟨A1,c2,rfl,(n3.ext X6b)⟩
 ·refine cf e7a<|wp_skip<|h2d _ _<|ws fun h9d=>Ai ?_
  refine scn f5d (Ad Ms (by rfl)) (Fx w3 (tbx X6a hT)) fun r0e f1e w4 A2e c3e E8a n4e=>?_
  have X7b:=xtr X6a E8a
  refine sV (Aa rfl) ?_
  refine scn f1e (Ad JR (by rfl)) (CJ r0e (wi64 (r4a - x1)) A2e c3e w4 (tbx X7b hT) n4e) fun r8b f5e w5 A9b c0c E9a n1c=>?_
  have X0b:=xtr X7b E9a
  refine sV (Ab rfl) ?_
  refine nx h9d fun h6e=>sV2 (Ag (o':=0) EY rfl rfl) (Ag (o':=1) BA rfl rfl) ?_
  have q1b:=(((q8.ext E1a).ext E2a).ext E8a).ext E9a
  refine sV2 (Ah BM rfl (Bx.cell q1b rfl)) (Aa rfl) ?_
  obtain ⟨r2b,h7e,f8e⟩:=Ac f5e
  refine sc (Ad Mx (by rfl)) (DH x0.Man.Abs r8b A1 c2 A9b c0c w5 (tbx X0b hT) (n3.ext X0b) n1c r2b h7e) ?_
  rintro _ w6 E3a ⟨A9e,c0f,A1f,c2f,rfl,n3f,n4f⟩
  refine nrm ?_
  have X2c:=xtr X0b E3a
  refine sal LL fun b6g w7 E5f g3c q6f=>?_
  have g7g:=nlt X2c.size g3c
  refine ss KC q6f fun w8 U7f q4c=>?_
  have F0a:=belU E5f U7f g3c
  have X5c:=xtr X2c F0a
  refine nx h6e fun h8f=>sV3 (Ag (o':=0) KX rfl rfl) (Ah BM rfl (Bx.cell q4c rfl)) (Ag (o':=1) LS rfl rfl) ?_
  refine sV3 (Ah BM rfl (Bx.cell q4c rfl)) (Aa rfl) (Ag (o':=0) EY rfl rfl) ?_
  refine sV3 (Ag (o':=0) Ey rfl rfl) (Ah Gy rfl (Bx.cell ((q1b.ext E3a).ext F0a) rfl)) (Aa rfl) ?_
  refine sV3 (Ag (o':=2) FS rfl rfl) (Ah Ge rfl (Bx.cell ((q1b.ext E3a).ext F0a) rfl)) (Aa rfl) ?_
  refine sV (AL (c:=wi64 (x0.Exp+(wi64 (r4a - x1)))) rfl rfl rfl) ?_
  refine scn f8e (Ad Pl (by rfl)) (Ib r2b.Q r2b.R r8b x0.Man.Neg x2 (wi64 (x0.Exp+(wi64 (r4a - x1)))) A9e c0f A1f c2f A9b c0c w8 (tbx X5c hT) (n3f.ext F0a) (n4f.ext F0a) ((n1c.ext E3a).ext F0a)) fun r8g f9f w9 A0g c1g E6c n2g=>?_
  have X3g:=xtr X5c E6c
  have q7c:=(((((q3b.ext E2a).ext E8a).ext E9a).ext E3a).ext F0a).ext E6c
  refine ss DC q7c fun w1a U8c q4g=>?_
  have X5g:=belU X3g U8c g4b
  refine wh h8f<|wp_ret ?_
  exact Ej f9f AH q4g X5g ⟨A0g,c1g,rfl,(n2g.upd U8c q7c (by decide))⟩
theorem Jp (x0:Au) (A1:OA) (c2:Nat) (w:World) (hT:TB w) (n3:RLu w A1 c2 x0.Man.Abs) (r:Bool) (hr:EE x0=some r) :
  Calls prog 44 #[.agg #[.bool x0.Man.Neg,.slice A1 x0.Man.Abs.length c2,.int .i64 x0.Exp]] w (Ret Gc w r):=by
 unfold EE at hr
 go_enter func44,ntmps44
 refine ws fun h4=>Ai<|sbx rfl rfl fun b5 w1 E6 g7 q8=>?_
 refine sV (Ab rfl) ?_
 refine nx h4 fun h9=>sV3 (Ag (o':=0) EY rfl rfl) (Ag (o':=1) BA rfl rfl) (Ah BM rfl (Bx.cell q8 rfl)) ?_
 refine sV (Az AJ rfl) ?_
 refine sbl (GL rfl rfl) fun z4b hz4b=>?_
 refine sV (Aa rfl) ?_
 obtain ⟨m9c,h0d,f1d⟩:=Ac hr
 refine Bw 20 (fun l l' w'=>∃(t5b:Value) (t6b:Value) (t7b:Value) (t8b:Value) (t9b:Value) (t0c:Value) (t1c:Value) (t2c:Value) (t3c:Value) (t4c:Value) (t5c:Value) (t6c:Value) (t7c:Value),UpdS [] w1 w'∧l'=((((((((((((((l.set 9 t5b).set 10 t6b).set 11 t7b).set 12 t8b).set 13 t9b).set 14 t0c).set 15 t1c).set 16 t2c).set 17 t3c).set 18 t4c).set 19 t5c).set 20 t6c).set 21 t7c).set 22 (.bool m9c))) ?_ ?_
 ·intro HJ85
  rcases zi hz4b h0d with ⟨e0a,_,f2d⟩ | ⟨e0a,_,f3d⟩
  ·refine sV (Ag (o':=2) FS rfl rfl) ?_ (hw:=wgT rfl e0a)
   refine sV (Ah Ge rfl (Bx.cell q8 rfl)) ?_ (hw:=wgT rfl e0a)
   refine sbl (Gp rfl rfl) (fun z3a hz3a=>?_) (hw:=wgT rfl e0a)
   refine sV (Aa rfl) ?_ (hw:=wgT rfl e0a)
   obtain ⟨m4a,h4d,f5d⟩:=Ac f2d
   refine Bw 14 (fun l l' w'=>∃(t5a:Value) (t6a:Value) (t7a:Value),w1=w'∧l'=((((l.set 13 t5a).set 14 t6a).set 15 t7a).set 16 (.bool m4a))) ?_ ?_
   ·intro HJ105
    rcases zi hz3a h4d with ⟨e1a,_,f6d⟩ | ⟨e1a,_,f7d⟩
    ·refine sV (Ag (o':=2) FS rfl rfl) ?_ (hw:=wgT rfl e1a)
     refine sV (Ah Ge rfl (Bx.cell q8 rfl)) ?_ (hw:=wgT rfl e1a)
     refine sbl (GL rfl rfl) (fun z8a hz8a=>?_) (hw:=wgT rfl e1a)
     refine sV (Aq (evb rfl e1a) rfl) ?_ (hw:=wgT rfl e0a)
     obtain rfl:z8a=decide (x0.Exp≤3000):=bz hz8a
     obtain rfl:=sj f6d
     exact HJ105 _ _ ⟨(.pointer (some ⟨b5,2,none⟩)),(.int .i64 x0.Exp),(.bool (decide (x0.Exp≤3000))),rfl,(by kernel_rfl)⟩
    ·refine sQ rfl e1a ?_
     refine sQ rfl e1a ?_
     refine sQ rfl e1a ?_
     refine sV (Av (evb rfl e1a) rfl) ?_ (hw:=wgT rfl e0a)
     obtain rfl:=sj f7d
     exact HJ105 _ _ ⟨uu,uu,uu,rfl,(by kernel_rfl)⟩
   ·rintro l' _ ⟨t5a,t6a,t7a,rfl,rfl⟩ l'' hl
    simp only [S0,S1] at hl;subst hl
    refine sV (Aa rfl) ?_ (hw:=wgT rfl e0a)
    obtain ⟨m8c,h8d,f9d⟩:=Ac f5d
    refine Bw 19 (fun l l' w'=>∃(t9a:Value) (t0b:Value) (t1b:Value),UpdS [] w1 w'∧l'=((((l.set 18 t9a).set 19 t0b).set 20 t1b).set 21 (.bool m8c))) ?_ ?_
    ·intro HJ130
     rcases zb h8d with ⟨e2a,f0e⟩ | ⟨e2a,f1e⟩
     ·refine sQ rfl e2a ?_
      refine sQ rfl e2a ?_
      refine sQ rfl e2a ?_
      refine sV (Aq (evb rfl e2a) rfl) ?_ (hw:=wgT rfl e0a)
      obtain rfl:=sj f0e
      exact HJ130 _ _ ⟨uu,uu,uu,(UpdS.refl _ _),(by kernel_rfl)⟩
     ·refine sV (Ak AH rfl q8 rfl) ?_ (hw:=wgT rfl e2a)
      refine scr f1e (Ad NL (by rfl)) (EL x0 A1 c2 w1 (tbx E6 hT) (n3.ext E6)) (fun r2b f2e w2 E3e=>?_) (hw:=wgT rfl e2a)
      refine sbl (Fj rfl) (fun z3b hz3b=>?_) (hw:=wgT rfl e2a)
      refine sV (Av (evb rfl e2a) rfl) ?_ (hw:=wgT rfl e0a)
      obtain rfl:z3b=decide (¬(r2b=true)):=bz hz3b
      obtain rfl:=sj f2e
      exact HJ130 _ _ ⟨(.agg #[.bool x0.Man.Neg,.slice A1 x0.Man.Abs.length c2,.int .i64 x0.Exp]),(.bool r2b),(.bool (decide (¬(r2b=true)))),((UpdS.refl _ _).ext E3e),(by kernel_rfl)⟩
    ·rintro l' w2 ⟨t9a,t0b,t1b,U4e,rfl⟩ l'' hl
     simp only [S0,S1] at hl;subst hl
     refine sV (Aq (evb rfl e0a) rfl) ?_
     obtain rfl:=sj f9d
     exact HJ85 _ _ ⟨(.pointer (some ⟨b5,2,none⟩)),(.int .i64 x0.Exp),(.bool z3a),(.bool z3a),t5a,t6a,t7a,(.bool m4a),(.bool m4a),t9a,t0b,t1b,(.bool m8c),((UpdS.refl _ _).updS U4e al0),(by kernel_rfl)⟩
  ·refine sQ rfl e0a ?_
   refine sQ rfl e0a ?_
   refine sQ rfl e0a ?_
   refine sQ rfl e0a ?_
   refine sP ?_
   refine sP ?_
   refine sP ?_
   refine sQ rfl e0a ?_
   refine sQ rfl e0a ?_
   refine sP ?_
   refine sP ?_
   refine sP ?_
   refine sQ rfl e0a ?_
   refine sV (Av (evb rfl e0a) rfl) ?_
   obtain rfl:=sj f3d
   exact HJ85 _ _ ⟨uu,uu,uu,uu,uu,uu,uu,uu,uu,uu,uu,uu,uu,(UpdS.refl _ _),(by kernel_rfl)⟩
 ·rintro l' w2 ⟨t5b,t6b,t7b,t8b,t9b,t0c,t1c,t2c,t3c,t4c,t5c,t6c,t7c,U5e,hq'⟩ l'' hl
  rw [hq'] at hl
  clear hq'
  simp only [S0,S1] at hl;subst hl
  have X6e:=GM E6 U5e (E6).size al0
  refine sV (Ab rfl) ?_
  refine wh h9<|wp_ret ?_
  exact Bq f1d X6e rfl
theorem Ie (x0:Am) (A1:OA) (c2:Nat) (A4:OA) (c5:Nat) (w:World) (hT:TB w) (n3:RLu w A1 c2 x0.Lo.Man.Abs) (n6:RLu w A4 c5 x0.Hi.Man.Abs) (r:Bool) (hr:Dm x0=some r) :
  Calls prog 26 #[.agg #[.bool x0.Lo.Man.Neg,.slice A1 x0.Lo.Man.Abs.length c2,.int .i64 x0.Lo.Exp,.bool x0.Hi.Man.Neg,.slice A4 x0.Hi.Man.Abs.length c5,.int .i64 x0.Hi.Exp]] w (Ret Gc w r):=by
 unfold Dm at hr
 go_enter func26,ntmps26
 refine ws fun h7=>Ai<|sbx rfl rfl fun b8 w1 E9 g9b q2a=>?_
 refine sV (Ab rfl) ?_
 refine nx h7 fun h7a=>sV2 (Ag (o':=0) Ev rfl rfl) (dld AH q2a) ?_
 refine scr hr (Ad RH (by rfl)) (Jp x0.Lo A1 c2 w1 (tbx E9 hT) (n3.ext E9)) fun r0c f8a w2 E3a=>?_
 have X1a:=xtr E9 E3a
 refine sV (Aa rfl) ?_
 obtain ⟨m9a,h0b,f1b⟩:=Ac f8a
 refine Bw 8 (fun l l' w'=>∃(t4a:Value) (t5a:Value) (t6a:Value),UpdS [] w2 w'∧l'=((((l.set 7 t4a).set 8 t5a).set 9 t6a).set 10 (.bool m9a))) ?_ ?_
 ·intro HJ35
  rcases zb h0b with ⟨e0a,f2b⟩ | ⟨e0a,f3b⟩
  ·refine sV (Ag (o':=3) Ez rfl rfl) ?_ (hw:=wgT rfl e0a)
   refine sV (dld AH (q2a.ext E3a)) ?_ (hw:=wgT rfl e0a)
   refine scr f2b (Ad RH (by rfl)) (Jp x0.Hi A4 c5 w2 (tbx X1a hT) (n6.ext X1a)) (fun r4b f5b w3 E6b=>?_) (hw:=wgT rfl e0a)
   refine sV (Aq (evb rfl e0a) rfl) ?_
   obtain rfl:=sj f5b
   exact HJ35 _ _ ⟨(.pointer (some ⟨b8,3,none⟩)),(.agg #[.bool x0.Hi.Man.Neg,.slice A4 x0.Hi.Man.Abs.length c5,.int .i64 x0.Hi.Exp]),(.bool r4b),((UpdS.refl _ _).ext E6b),(by kernel_rfl)⟩
  ·refine sQ rfl e0a ?_
   refine sQ rfl e0a ?_
   refine sQ rfl e0a ?_
   refine sV (Av (evb rfl e0a) rfl) ?_
   obtain rfl:=sj f3b
   exact HJ35 _ _ ⟨uu,uu,uu,(UpdS.refl _ _),(by kernel_rfl)⟩
 ·rintro _ w3 ⟨t4a,t5a,t6a,U7b,rfl⟩ _ rfl
  have X8b:=GM X1a U7b (X1a).size al0
  refine sV (Ab rfl) ?_
  refine wh h7a<|wp_ret ?_
  exact Bq f1b X8b rfl
theorem c_sorobanref04_Outward (x0:Aj) (x1:Int) (A1:OA) (c2:Nat) (A4:OA) (c5:Nat) (w:World) (hT:TB w) (n3:RU w A1 c2 x0.Lo.Man.Abs) (n6:RU w A4 c5 x0.Hi.Man.Abs) (r:Aj) (hr:DT x0 x1=some r) :
  Calls prog 69 #[.agg #[.bool x0.Lo.Man.Neg,.slice A1 (sz x0.Lo.Man.Abs) c2,.int .i64 x0.Lo.Exp,.bool x0.Hi.Man.Neg,.slice A4 (sz x0.Hi.Man.Abs) c5,.int .i64 x0.Hi.Exp],.int .i64 x1] w (Ret JT w r):=by
 unfold DT at hr
 go_enter func69,ntmps69
 refine ws fun h7=>Ai<|sbx rfl rfl fun b8 w1 E9 g4e q5b=>?_
 refine sal Fo fun b5e w2 E5a g0c q1c=>?_
 have g2c:=nlt E9.size g0c
 have X6a:=xtr E9 E5a
 refine nx h7 fun h3c=>sV2 (Ag (o':=0) Ev rfl rfl) (dld AH (q5b.ext E5a)) ?_
 refine sV (Aa rfl) ?_
 refine scn hr (Ad RR (by rfl)) (Jh x0.Lo x1 5 A1 c2 w2 (tbx X6a hT) (n3.ext X6a)) fun r0a f4c w3 A7a c8a E9a n5c=>?_
 have X6b:=xtr X6a E9a
 refine sal Ga fun b6e w4 E6c g7b q7c=>?_
 have g7e:=nlt X6b.size g7b
 refine ss DC q7c fun w5 U8c q9c=>?_
 have F3a:=belU E6c U8c g7b
 have X0b:=xtr X6b F3a
 refine nx h3c fun h0d=>sV (Ag (o':=3) Ez rfl rfl) ?_
 have q1d:=((q5b.ext E5a).ext E9a).ext F3a
 refine sV (dld AH q1d) ?_
 refine sV (Aa rfl) ?_
 refine scn f4c (Ad RR (by rfl)) (Jh x0.Hi x1 4 A4 c5 w5 (tbx X0b hT) (n6.ext X0b)) fun r1a f2d w6 A1b c2b E4a n3d=>?_
 have X8b:=xtr X0b E4a
 refine sal Ga fun b8e w7 E4d g9b q5d=>?_
 have g9e:=nlt X8b.size g9b
 refine ss DC q5d fun w8 U6d q7d=>?_
 have F2a:=belU E4d U6d g9b
 have X8d:=xtr X8b F2a
 refine nx h0d fun h9d=>sV3 (Ak AH rfl ((q9c.ext E4a).ext F2a) rfl) (Ak AH rfl q7d rfl) (AR (vals:=[(0,.agg #[.bool r0a.Man.Neg,.slice A7a (sz r0a.Man.Abs) c8a,.int .i64 r0a.Exp]),(1,.agg #[.bool r1a.Man.Neg,.slice A1b (sz r1a.Man.Abs) c2b,.int .i64 r1a.Exp])]) (cells:=[.bool r0a.Man.Neg,.slice A7a (sz r0a.Man.Abs) c8a,.int .i64 r0a.Exp,.bool r1a.Man.Neg,.slice A1b (sz r1a.Man.Abs) c2b,.int .i64 r1a.Exp]) (by rfl) (by kernel_rfl)) ?_
 have q3b:=(((q1c.ext E9a).ext F3a).ext E4a).ext F2a
 refine ss EM q3b fun w9 U4b q0e=>?_
 have X1e:=belU X8d U4b g2c
 refine wh h9d<|wp_ret ?_
 have n2e:=(((n5c.ext F3a).ext E4a).ext F2a).upd U4b q3b (by decide)
 have n3e:=(n3d.ext F2a).upd U4b q3b (by decide)
 exact Ej f2d Bk q0e X1e ⟨A7a,c8a,A1b,c2b,rfl,n2e,n3e⟩
theorem c_dyad_near (x0:Al) (x1:Al) (A1:OA) (c2:Nat) (A4:OA) (c5:Nat) (w:World) (hT:TB w) (n3:RU w A1 c2 x0.m.Abs) (n6:RU w A4 c5 x1.m.Abs) (r:Bool) (hr:Ji x0 x1=some r) :
  Calls prog 125 #[.agg #[.bool x0.m.Neg,.slice A1 (sz x0.m.Abs) c2,.int .i64 x0.e],.agg #[.bool x1.m.Neg,.slice A4 (sz x1.m.Abs) c5,.int .i64 x1.e]] w (Ret Gc w r):=by
 unfold Ji at hr
 go_enter func125,ntmps125
 refine ws fun h7=>Ai<|sbx rfl rfl fun b8 w1 E9 g6e q4b=>?_
 refine sbx rfl rfl fun b7e w2 E5a g7c q5b=>?_
 have g8e:=nlt E9.size g7c
 have X6a:=xtr E9 E5a
 refine sV (Ab rfl) ?_
 refine wh h7<|ws fun h8c=>ws fun h9c=>Ai<|sV (Ak Ay rfl (q4b.ext E5a) rfl) ?_
 refine scr hr (Ad IY (by rfl)) (Cy x0 A1 c2 w2 (tbx X6a hT) (n3.ext X6a)) fun r9e f0d w3 E2a=>?_
 have X3a:=xtr X6a E2a
 refine sbl (BD rfl rfl) fun z6b hz6b=>?_
 refine sV (Aa rfl) ?_
 obtain ⟨m1d,h2d,f3d⟩:=Ac f0d
 refine Bw 8 (fun l l' w'=>∃(t7b:Value) (t8b:Value) (t9b:Value),UpdS [] w3 w'∧l'=((((l.set 9 t7b).set 10 t8b).set 11 t9b).set 12 (.bool m1d))) ?_ ?_
 ·intro HJ44
  rcases zi hz6b h2d with ⟨e0a,_,f4d⟩ | ⟨e0a,_,f5d⟩
  ·refine sQ rfl e0a ?_
   refine sQ rfl e0a ?_
   refine sQ rfl e0a ?_
   refine sV (Aq (evb rfl e0a) rfl) ?_
   obtain rfl:=sj f4d
   exact HJ44 _ _ ⟨uu,uu,uu,(UpdS.refl _ _),(by kernel_rfl)⟩
  ·refine sV (Ak Ay rfl (q5b.ext E2a) rfl) ?_ (hw:=wgT rfl e0a)
   refine scr f5d (Ad IY (by rfl)) (Cy x1 A4 c5 w3 (tbx X3a hT) (n6.ext X3a)) (fun r7a f6d w4 E7d=>?_) (hw:=wgT rfl e0a)
   refine sbl (BD rfl rfl) (fun z8a hz8a=>?_) (hw:=wgT rfl e0a)
   refine sV (Av (evb rfl e0a) rfl) ?_
   obtain rfl:z8a=decide (r7a=0):=bz hz8a
   obtain rfl:=sj f6d
   exact HJ44 _ _ ⟨(.agg #[.bool x1.m.Neg,.slice A4 (sz x1.m.Abs) c5,.int .i64 x1.e]),(.int .i64 r7a),(.bool (decide (r7a=0))),((UpdS.refl _ _).ext E7d),(by kernel_rfl)⟩
 ·rintro _ w4 ⟨t7b,t8b,t9b,U9a,rfl⟩ _ rfl
  have X0c:=GM X3a U9a (X3a).size al0
  refine wh h9c ?_
  rcases zb f3d with ⟨e0b,f8d⟩ | ⟨e0b,f9d⟩
  ·refine ct e0b<|ws fun h0e=>Ai<|sV (Ab rfl) ?_
   refine wh h0e<|wp_ret ?_
   exact Bq f8d X0c rfl
  ·have q1c:=((q4b.ext E5a).ext E2a).updS U9a nm0
   refine cf e0b<|wp_skip<|h8c _ _<|ws fun h1e=>DD [] 13 mo rfl fun w5 E4a S1a=>have X1b:=xtr X0c E4a;dV 0 rfl (fun _ hw=>Ak Ay rfl ((q1c.ext E4a).ext hw) rfl) S1a ?_
   have q2c:=((q5b.ext E2a).updS U9a nm0).ext E4a
   refine dV 2 rfl (fun _ hw=>Ak Ay rfl (q2c.ext hw) rfl) S1a ?_
   refine dA 5 rfl (fun _=>Ag (o':=2) Ea rfl rfl) ?_
   refine dV 6 rfl (fun _ hw=>Ah Ge rfl (Bx.cell ((q1c.ext E4a).ext hw) rfl)) S1a ?_
   refine dA 7 rfl (fun _=>Ag (o':=2) Ea rfl rfl) ?_
   refine dV 8 rfl (fun _ hw=>Ah Ge rfl (Bx.cell (q2c.ext hw) rfl)) S1a ?_
   refine dA 9 rfl (fun _=>NF rfl rfl) ?_
   refine dcr f9d 1 rfl (by rfl) (Ad Oq (by rfl)) (IE x0 A1 c2 w5 (tbx X1b hT) (n3.ext X1b)) fun r3c f2e w6 E4c=>?_
   have X2b:=xtr X1b E4c
   have S3e:=S1a.trans E4c
   refine dcr f2e 3 rfl (by rfl) (Ad Oq (by rfl)) (IE x1 A4 c5 w6 (tbx X2b hT) (n6.ext X2b)) fun r5c f4e w7 E6c=>?_
   have X5e:=xtr X2b E6c
   have S0f:=S3e.trans E6c
   refine dA2 4 10 rfl rfl (fun _=>LF rfl rfl) (fun _=>Bc (c:=wi64 ((max r3c r5c) - (min x0.e x1.e))) rfl rfl rfl) ?_
   refine dab 11 rfl (by kernel_rfl) (fun _ _ _ h=>h) (by rfl) (fun _=>GL rfl rfl) fun z3b hz3b=>?_
   refine dnrm ?_
   refine dA 12 rfl (fun _=>Ab rfl) ?_
   refine CI (by kernel_rfl) ?_
   refine h1e _ _<|wp_ret ?_
   obtain rfl:z3b=decide ((wi64 ((max r3c r5c) - (min x0.e x1.e)))≤32770):=bz hz3b
   exact Bq f4e X5e rfl
theorem KS (x0_0:Au) (x0_1:Au) (bp0:Nat) (A1:OA) (c2:Nat) (A4:OA) (c5:Nat) (w:World) (hT:TB w) (n3:RLu w A1 c2 x0_0.Man.Abs) (n6:RLu w A4 c5 x0_1.Man.Abs) (q7:Bx w bp0 27 [.bool x0_0.Man.Neg,.slice A1 x0_0.Man.Abs.length c2,.int .i64 x0_0.Exp,.bool x0_1.Man.Neg,.slice A4 x0_1.Man.Abs.length c5,.int .i64 x0_1.Exp]) (r:Except Int (Unit)) (hr:Hr x0_0 x0_1=some r) :
  Calls prog 120 #[.slice (some ⟨bp0,0,none⟩) 2 2] w (RetE 201 Md w r):=by
 unfold Hr at hr
 go_enter func120,ntmps120
 refine ws fun h8=>Ai<|sV3 (Aa rfl) (Az Nb rfl) (Aa rfl) ?_
 refine wh h8 ?_
 apply wp_block
 refine Ip<|AW<|ws fun h9=>Ai<|sV (Ks (v:=.bool true) (Cu rfl rfl) (by rfl)) ?_
 refine wh h9<|ws fun h5b=>ct rfl<|wp_skip<|h5b _ _<|ws fun h6b=>?_
 apply wp_block
 refine ws fun h7b=>Ai<|sV (Jk (o':=0) Nb DC rfl rfl (by decide) (by decide) (by decide)) ?_
 refine sV (dld AH q7) ?_
 refine sal Ga fun b1e w1 E8b g9b q0c=>?_
 refine ss DC q0c fun w2 U1c q2c=>?_
 have F0a:=belU E8b U1c g9b
 refine wh h7b<|Ai<|sV (Ak AH rfl q2c rfl) ?_
 refine scr hr (Ad Oz (by rfl)) (IF x0_0 A1 c2 w2 (tbx F0a hT) (n3.ext F0a)) fun r0b f3c w3 E1b=>?_
 have X1a:=xtr F0a E1b
 rcases BF f3c with ⟨r4a,h5a,f4c⟩ | ⟨r4a,h5a,rfl⟩
 ·refine scO (Ad Er (by rfl)) (Bb r0b 1 w3 (tbx X1a hT)  (.ok r4a) h5a) ?_
  rintro _ w4 E2a rfl
  refine nrm ?_
  have X2b:=xtr X1a E2a
  refine wh h6b<|Ai<|sV (AL (c:=1) rfl rfl (by decide)) ?_
  refine sV (Aa rfl) ?_
  refine AE<|AW<|ws fun h5c=>Ai<|sV (Ks (v:=.bool true) (Cu rfl rfl) (by rfl)) ?_
  refine wh h5c<|ws fun h6c=>ct rfl<|wp_skip<|h6c _ _<|ws fun h7c=>?_
  apply wp_block
  refine ws fun h8c=>Ai<|sV (Jk (o':=3) Nb DC rfl rfl (by decide) (by decide) (by decide)) ?_
  refine sV (dld AH (((q7.ext F0a).ext E1b).ext E2a)) ?_
  refine sal Ga fun b2e w5 E9c g3b q0d=>?_
  have g3e:=nlt X2b.size g3b
  refine ss DC q0d fun w6 U1d q2d=>?_
  have F3d:=belU E9c U1d g3b
  have X6a:=xtr X2b F3d
  refine wh h8c<|Ai<|sV (Ak AH rfl q2d rfl) ?_
  refine scr f4c (Ad Oz (by rfl)) (IF x0_1 A4 c5 w6 (tbx X6a hT) (n6.ext X6a)) fun r4b f4d w7 E5d=>?_
  have X3a:=xtr X6a E5d
  rcases BF f4d with ⟨r7a,h8a,f6d⟩ | ⟨r7a,h8a,rfl⟩
  ·refine scO (Ad Er (by rfl)) (Bb r4b 1 w7 (tbx X3a hT)  (.ok r7a) h8a) ?_
   rintro _ w8 E9a rfl
   refine nrm ?_
   have X7d:=xtr X3a E9a
   refine wh h7c<|Ai<|sV (AL (c:=2) rfl rfl (by decide)) ?_
   refine sV (Aa rfl) ?_
   refine AE<|AW<|ws fun h8d=>Ai<|sV (Ks (v:=.bool false) (Cu rfl rfl) (by rfl)) ?_
   refine wh h8d<|ws fun h4e=>cf rfl<|wp_exit ?_
   simp only [Exit.then,Exit.inBlock,↓reduceIte,Nat.reduceEqDiff]
   obtain rfl:=sj f6d
   exact Od rfl Res.nil (GD X7d rfl)
  ·refine scP (Ad Er (by rfl)) (Bb r4b 1 w7 (tbx X3a hT)  (.error r7a) h8a) fun w8 E9a=>?_
   have X9d:=xtr X3a E9a
   exact ⟨rfl,DI X9d⟩
 ·refine scP (Ad Er (by rfl)) (Bb r0b 1 w3 (tbx X1a hT)  (.error r4a) h5a) fun w4 E2a=>?_
  have X0e:=xtr X1a E2a
  exact ⟨rfl,DI X0e⟩
theorem c_dyad_Sub_1 (x0:Al) (x1:Al) (A1:OA) (c2:Nat) (A4:OA) (c5:Nat) (w:World) (hT:TB w) (n3:RU w A1 c2 x0.m.Abs) (n6:RU w A4 c5 x1.m.Abs) (r:Al) (hr:JI x0 x1=some r) :
  Calls prog 126 #[.agg #[.bool x0.m.Neg,.slice A1 (sz x0.m.Abs) c2,.int .i64 x0.e],.agg #[.bool x1.m.Neg,.slice A4 (sz x1.m.Abs) c5,.int .i64 x1.e]] w (Ret IB w r):=by
 unfold JI at hr
 go_enter func126,ntmps126
 refine ws fun h7=>Ai<|sbx rfl rfl fun b8 w1 E9 g2d q1b=>?_
 refine sbx rfl rfl fun b3d w2 E7a g2b q3b=>?_
 have g4d:=nlt E9.size g2b
 have X8a:=xtr E9 E7a
 refine sal AQ fun b5d w3 E1a g4b q5b=>?_
 have g6b:=nlt X8a.size g4b
 have X7b:=xtr X8a E1a
 refine wh h7<|ws fun h8b=>DD [4] 5 mo rfl fun w4 E0a S2a=>have X3a:=xtr X7b E0a;dV 0 rfl (fun _ hw=>Ak Ay rfl ((((q1b.ext E7a).ext E1a).ext E0a).ext hw) rfl) S2a ?_
 refine dV 1 rfl (fun _ hw=>Ak Ay rfl (((q3b.ext E1a).ext E0a).ext hw) rfl) S2a ?_
 refine dcn hr 2 rfl (by rfl) (Ad QB (by rfl)) (Ku x1 A4 c5 w4 (tbx X3a hT) (n6.ext X3a)) fun r9b f0c w5 A1c c2c E4a n3c=>?_
 have X5a:=xtr X3a E4a
 have S4c:=S2a.trans E4a
 refine dcn f0c 3 rfl (by rfl) (Ad Ra (by rfl)) (KQ x0 r9b A1 c2 A1c c2c w5 (tbx X5a hT) (n3.ext X5a) n3c) fun r6d f5c w6 A6c c7c E6a n8c=>?_
 have X9c:=xtr X5a E6a
 have S7d:=S4c.trans E6a
 have q9a:=((q5b.ext E0a).ext E4a).ext E6a
 refine dkk 4 Ca q9a fun w7 U0b q0d=>?_
 have X1d:=belU X9c U0b g6b
 refine CI (by kernel_rfl) ?_
 refine h8b _ _<|wp_ret ?_
 exact Ej f5c Ay q0d X1d ⟨A6c,c7c,rfl,(n8c.upd U0b q9a (by decide))⟩
theorem c_dyad_exact__dyad_Sub_1__dyad_near (x0:Au) (x1:Au) (A1:OA) (c2:Nat) (A4:OA) (c5:Nat) (w:World) (hT:TB w) (n3:RLu w A1 c2 x0.Man.Abs) (n6:RLu w A4 c5 x1.Man.Abs) (r:Ae × Int) (hr:CY x0 x1=some r) :
  Calls prog 123 #[.agg #[.bool x0.Man.Neg,.slice A1 x0.Man.Abs.length c2,.int .i64 x0.Exp],.agg #[.bool x1.Man.Neg,.slice A4 x1.Man.Abs.length c5,.int .i64 x1.Exp],.agg #[.func (.func 126) #[] #[],.func (.func 125) #[] #[]]] w (Ret Ky w r):=by
 unfold CY at hr
 obtain ⟨q0,hq0,hr0⟩:=Ac hr
 unfold Ed at hq0
 go_enter_defers func123,ntmps123
 refine ws fun h7=>Ai<|sbx rfl rfl fun b8 w1 E9 g8q q8i=>?_
 refine sbx rfl rfl fun b0g w2 E2e g1g q9i=>?_
 have g9q:=nlt E9.size g1g
 have X0j:=xtr E9 E2e
 refine sbx rfl rfl fun b0r w3 E1j g1r q2r=>?_
 have g0a3:=nlt X0j.size g1r
 have X3l:=xtr X0j E1j
 refine sal Ga fun b3e w4 E2g g3r q3g=>?_
 have g4g:=nlt X3l.size g3r
 have X4l:=xtr X3l E2g
 refine sal LH fun b4e w5 E4c g4r q5g=>?_
 have g6g:=nlt X4l.size g4r
 have X5l:=xtr X4l E4c
 refine nx h7 fun h5r=>Kp (vs:=[.pointer (some ⟨b3e,0,none⟩),.pointer (some ⟨b4e,0,none⟩)]) (by rfl) (by rfl)<|nx h5r fun h6r=>have q6l:=(((q8i.ext E2e).ext E1j).ext E2g).ext E4c;sV (Ak AH rfl q6l rfl) ?_
 have q7l:=((q9i.ext E1j).ext E2g).ext E4c
 refine sV (Ak AH rfl q7l rfl) ?_
 refine DY (vals:=[(0,.agg #[.bool x0.Man.Neg,.slice A1 x0.Man.Abs.length c2,.int .i64 x0.Exp]),(1,.agg #[.bool x1.Man.Neg,.slice A4 x1.Man.Abs.length c5,.int .i64 x1.Exp])]) (cs:=[.bool x0.Man.Neg,.slice A1 x0.Man.Abs.length c2,.int .i64 x0.Exp,.bool x1.Man.Neg,.slice A4 x1.Man.Abs.length c5,.int .i64 x1.Exp]) Nb DC Ga (by rfl) (by decide) (by kernel_rfl) fun b2j w6 E9a g7r q8l=>?_
 refine nrm ?_
 have g1a3:=nlt X5l.size g7r
 have X5c:=xtr X5l E9a
 rcases BF hq0 with ⟨r7g,h3j,f8r⟩ | ⟨r7g,h3j,rfl⟩
 ·refine scO (Ad NZ (by rfl)) (KS x0 x1 b2j A1 c2 A4 c5 w6 (tbx X5c hT) (n3.ext X5c) (n6.ext X5c) q8l (.ok r7g) h3j) ?_
  rintro _ w7 E6a rfl
  refine nrm ?_
  have X9r:=xtr X5c E6a
  refine wh h6r<|ws fun h0s=>DD [6,7] 8 mo rfl fun w8 E8b S4j=>?_
  have X7a:=xtr X9r E8b
  refine dV 0 rfl (fun _ hw=>Ak AH rfl ((((q6l.ext E9a).ext E6a).ext E8b).ext hw) rfl) S4j ?_ (hQ:=fun _ _ _ h=>dq (rs:=[.cell 6 27,.cell 7 33]) rfl (by decide) h)
  refine dV 2 rfl (fun _ hw=>Ak AH rfl ((((q7l.ext E9a).ext E6a).ext E8b).ext hw) rfl) S4j ?_ (hQ:=fun _ _ _ h=>dq (rs:=[.cell 6 27,.cell 7 33]) rfl (by decide) h)
  obtain ⟨m2d,h1s,f2s⟩:=Ac f8r
  have hx3d:=Bs h1s
  have n5e:RU w8 A1 c2 m2d:=by unfold RU;rw [hx3d];exact (n3.ext X7a)
  obtain ⟨r3a,h6e,f64⟩:=Ac f2s
  obtain ⟨m0b,h3s,f4s⟩:=Ac f64
  have hx1b:=Bs h3s
  have n6b:RU w8 A4 c5 m0b:=by unfold RU;rw [hx1b];exact (n6.ext X7a)
  obtain ⟨r1a,h7b,f5s⟩:=Ac f4s
  refine Rg (tb 8 63) 2 (fun l' w'=>∃(A7c:OA) (c8c:Nat) (A9c:OA) (c0d:Nat) (b7e:Nat) (b8e:Nat),Ext w8 w'∧RU w' A7c c8c r3a.m.Abs∧RU w' A9c c0d r1a.m.Abs∧w8.heap.size≤b7e∧Bx w' b7e 119 [.bool false,.slice none 0 0,.int .i64 0]∧w8.heap.size≤b8e∧Bx w' b8e 119 [.bool false,.slice none 0 0,.int .i64 0]∧b7e≠b8e∧l'=[.agg #[.bool x0.Man.Neg,.slice A1 x0.Man.Abs.length c2,.int .i64 x0.Exp],.agg #[.bool x1.Man.Neg,.slice A4 x1.Man.Abs.length c5,.int .i64 x1.Exp],.agg #[.func (.func 126) #[] #[],.func (.func 125) #[] #[]],.pointer (some ⟨b8,0,none⟩),.pointer (some ⟨b0g,0,none⟩),.pointer (some ⟨b0r,0,none⟩),.pointer (some ⟨b3e,0,none⟩),.pointer (some ⟨b4e,0,none⟩),.pointer (some ⟨b7e,0,none⟩),.pointer (some ⟨b8e,0,none⟩),.agg #[.bool x0.Man.Neg,.slice A1 x0.Man.Abs.length c2,.int .i64 x0.Exp],.agg #[.bool x1.Man.Neg,.slice A4 x1.Man.Abs.length c5,.int .i64 x1.Exp],.slice (some ⟨b2j,0,none⟩) 2 2,.tuple #[],.agg #[.bool x0.Man.Neg,.slice A1 x0.Man.Abs.length c2,.int .i64 x0.Exp],.agg #[.bool r3a.m.Neg,.slice A7c (sz r3a.m.Abs) c8c,.int .i64 r3a.e],.agg #[.bool x1.Man.Neg,.slice A4 x1.Man.Abs.length c5,.int .i64 x1.Exp],.agg #[.bool r1a.m.Neg,.slice A9c (sz r1a.m.Abs) c0d,.int .i64 r1a.e],uu,uu,uu,uu,uu,uu,uu,uu,uu,uu,uu,uu]) ?_ ?_
  ·rintro _ w9 ⟨A7c,c8c,A9c,c0d,b7e,b8e,E3c,n6s,n7s,g8s,q9b,g9s,q0t,ne5j,rfl⟩
   have g1t:=nlt X7a.size g8s
   have g2t:=nlt X7a.size g9s
   have X3t:=xtr X7a E3c
   have S2a3:=S4j.trans E3c
   refine dkk 6 Ca q9b fun w8q U2a q9l=>?_
   have X4t:=belU X3t U2a g1t
   have q0c:=q0t.upd U2a (Ne.symm ne5j)
   refine dkk 7 Ca q0c fun w8i U2b q0m=>?_
   have X1m:=belU X4t U2b g2t
   refine CI (by kernel_rfl) ?_
   refine h0s _ _<|ws fun h5t=>Ai<|sV (Ag (o':=1) fa_146_1 rfl rfl) ?_
   have q6j:=(((((q2r.ext E2g).ext E4c).ext E9a).ext E6a).ext E8b).ext E3c
   have ne2m:=(Bx.neT q6j q9b (by decide))
   have ne6t:=(Bx.neT (q6j.upd U2a ne2m) q0c (by decide))
   have q3m:=(q6j.upd U2a ne2m).upd U2b ne6t
   refine sV3 (Ah fl_144 rfl (Bx.cell q3m rfl)) (Ak Ay rfl (q9l.upd U2b ne5j) rfl) (Ak Ay rfl q0m rfl) ?_
   have n4m:=(n6s.upd U2a q9b (by decide)).upd U2b q0c (by decide)
   have n5m:=(n7s.upd U2a q9b (by decide)).upd U2b q0c (by decide)
   refine scr f5s (Kg (first:=[]) (cap:=[]) (args:=[.agg #[.bool r3a.m.Neg,.slice A7c (sz r3a.m.Abs) c8c,.int .i64 r3a.e],.agg #[.bool r1a.m.Neg,.slice A9c (sz r1a.m.Abs) c0d,.int .i64 r1a.e]]) en_125 (by rfl) (by rfl)) (c_dyad_near r3a r1a A7c c8c A9c c0d w8i (tbx X1m hT) n4m n5m) fun r6m f7t w0g E3b=>?_
   have X8g:=xtr X1m E3b
   rcases BF f7t with ⟨r9g,h7j,f8t⟩ | ⟨r9g,h7j,rfl⟩
   ·refine scO (Ad Er (by rfl)) (Bb r6m 2 w0g (tbx X8g hT)  (.ok r9g) h7j) ?_
    rintro _ w2e E8a rfl
    refine nrm ?_
    have X7m:=xtr X8g E8a
    refine nx h5t fun h9t=>sV2 (Ag (o':=0) fa_146_0 rfl rfl) (Ah fl_143 rfl (Bx.cell ((q3m.ext E3b).ext E8a) rfl)) ?_
    have q0u:=((q9l.upd U2b ne5j).ext E3b).ext E8a
    refine sV2 (Ak Ay rfl q0u rfl) (Ak Ay rfl ((q0m.ext E3b).ext E8a) rfl) ?_
    refine scn f8t (Kg (first:=[]) (cap:=[]) (args:=[.agg #[.bool r3a.m.Neg,.slice A7c (sz r3a.m.Abs) c8c,.int .i64 r3a.e],.agg #[.bool r1a.m.Neg,.slice A9c (sz r1a.m.Abs) c0d,.int .i64 r1a.e]]) en_126 (by rfl) (by rfl)) (c_dyad_Sub_1 r3a r1a A7c c8c A9c c0d w2e (tbx X7m hT) ((n4m.ext E3b).ext E8a) ((n5m.ext E3b).ext E8a)) fun r8m f1u w1g A9m c0n E9e n1n=>?_
    have X0h:=xtr X7m E9e
    rcases BF f1u with ⟨r1h,h8j,f2u⟩ | ⟨r1h,h8j,rfl⟩
    ·refine scO (Ad Ki (by rfl)) (Eu r8m A9m c0n w1g (tbx X0h hT) n1n (.ok r1h) h8j) ?_
     rintro _ w9i E1d ⟨A3u,c4u,rfl,n5u⟩
     refine nrm ?_
     have X6u:=xtr X0h E1d
     have q9j:=((((q3g.ext E4c).ext E9a).ext E6a).ext E8b).ext E3c
     have ne2n:=(Bx.neT q9j q9b (by decide))
     have ne7u:=(Bx.neT (q9j.upd U2a ne2n) q0c (by decide))
     have q0k:=(((((q9j.upd U2a ne2n).upd U2b ne7u).ext E3b).ext E8a).ext E9e).ext E1d
     refine ss DC q0k fun w9q U1k q8u=>?_
     have X9u:=belU X6u U1k g4g
     have q2k:=(((q5g.ext E9a).ext E6a).ext E8b).ext E3c
     have ne3n:=(Bx.neT q2k q9b (by decide))
     have ne0v:=(Bx.neT (q2k.upd U2a ne3n) q0c (by decide))
     have q4n:=(((((q2k.upd U2a ne3n).upd U2b ne0v).ext E3b).ext E8a).ext E9e).ext E1d
     have ne5n:=(Bx.neT q4n q0k (by decide))
     have q6n:=q4n.upd U1k ne5n
     refine ss Jr q6n fun w0j U3k q1v=>?_
     have X2v:=belU X9u U3k g6g
     refine wh h9t<|wp_ret ?_
     have n3v:=(n5u.upd U1k q0k (by decide)).upd U3k q6n (by decide)
     obtain rfl:=sj f2u
     obtain rfl:=sj hr0
     exact MM Fm Ir rfl (Res.cellN rfl AH (q8u.upd U3k (Ne.symm ne5n)) rfl rfl (Res.cell1 rfl DQ (Bx.cell q1v rfl) Res.nil)) (Bg X2v ⟨A3u,c4u,rfl,n3v⟩)
    ·refine scP (Ad Ki (by rfl)) (Eu r8m A9m c0n w1g (tbx X0h hT) n1n (.error r1h) h8j) fun w9i E1d=>?_
     have X4v:=xtr X0h E1d
     have q4k:=((((q3g.ext E4c).ext E9a).ext E6a).ext E8b).ext E3c
     have ne7n:=(Bx.neT q4k q9b (by decide))
     have ne5v:=(Bx.neT (q4k.upd U2a ne7n) q0c (by decide))
     have q6v:=(((((q4k.upd U2a ne7n).upd U2b ne5v).ext E3b).ext E8a).ext E9e).ext E1d
     have q5k:=(((q5g.ext E9a).ext E6a).ext E8b).ext E3c
     have ne8n:=(Bx.neT q5k q9b (by decide))
     have ne7v:=(Bx.neT (q5k.upd U2a ne8n) q0c (by decide))
     have q8v:=(((((q5k.upd U2a ne8n).upd U2b ne7v).ext E3b).ext E8a).ext E9e).ext E1d
     refine Ka Ir (CL b3e b4e (.bool false:Value) (.slice none 0 0:Value) (.int .i64 0:Value) (.int .i64 0:Value) r1h q6v q8v) rfl ?_
     rintro w9 ⟨u9,q9,q9'⟩
     obtain rfl:=sj hr0
     exact ⟨_,(Res.cellN rfl AH q9 rfl rfl (Res.cell1 rfl DQ (Bx.cell q9' rfl) Res.nil)),Bg (u9.toExt X4v g4g g6g) ⟨none,0,rfl,RU.nil _⟩⟩
   ·refine scP (Ad Er (by rfl)) (Bb r6m 2 w0g (tbx X8g hT)  (.error r9g) h7j) fun w2e E8a=>?_
    have X9v:=xtr X8g E8a
    have q6k:=((((q3g.ext E4c).ext E9a).ext E6a).ext E8b).ext E3c
    have ne9n:=(Bx.neT q6k q9b (by decide))
    have ne0w:=(Bx.neT (q6k.upd U2a ne9n) q0c (by decide))
    have q1w:=(((q6k.upd U2a ne9n).upd U2b ne0w).ext E3b).ext E8a
    have q7k:=(((q5g.ext E9a).ext E6a).ext E8b).ext E3c
    have ne0o:=(Bx.neT q7k q9b (by decide))
    have ne2w:=(Bx.neT (q7k.upd U2a ne0o) q0c (by decide))
    have q3w:=(((q7k.upd U2a ne0o).upd U2b ne2w).ext E3b).ext E8a
    refine Ka Ir (CL b3e b4e (.bool false:Value) (.slice none 0 0:Value) (.int .i64 0:Value) (.int .i64 0:Value) r9g q1w q3w) rfl ?_
    rintro w9 ⟨u9,q9,q9'⟩
    obtain rfl:=sj hr0
    exact ⟨_,(Res.cellN rfl AH q9 rfl rfl (Res.cell1 rfl DQ (Bx.cell q9' rfl) Res.nil)),Bg (u9.toExt X9v g4g g6g) ⟨none,0,rfl,RU.nil _⟩⟩
  ·intro HJ87
   refine MZ 1 4 5 (by kernel_rfl) ?_ ?_ ?_
   ·have q4d:=tbx X7a hT
    refine opC 1 rfl (by rfl) (Ad FY (by simp only [sz,hx3d];rfl)) (Cw (⟨(⟨x0.Man.Neg,m2d⟩:Af),x0.Exp⟩:Ae) A1 c2 _ (tbx (Ext.refl _) q4d) (n5e.ext (Ext.refl _)) r3a h6e) ?_
    rintro _ _ E0a ⟨A5d,c6d,rfl,n7d⟩
    refine dnrm ?_
    refine MZ 3 4 5 (by kernel_rfl) ?_ ?_ ?_
    ·refine opC 3 rfl (by rfl) (Ad FY (by simp only [sz,hx1b];rfl)) (Cw (⟨(⟨x1.Man.Neg,m0b⟩:Af),x1.Exp⟩:Ae) A4 c5 _ (tbx E0a q4d) (n6b.ext E0a) r1a h7b) ?_
     rintro _ _ E6c ⟨A1o,c2o,rfl,n3o⟩
     refine dnrm ?_
     refine Gv 4 5 (by kernel_rfl) ?_ ?_
     ·refine opA 4 rfl (by rfl) (AO AQ) fun b4w _ E2h g5w q4o=>dnrm ?_
      refine Cp 5 (by kernel_rfl) ?_
      ·refine opA 5 rfl (by rfl) (AO AQ) fun b6w _ E3h g5o q7w=>dnrm ?_
       exact dls (HJ87 _ _ ⟨A5d,c6d,A1o,c2o,b4w,b6w,(((E0a.trans E6c).trans E2h).trans E3h),(((n7d.ext E6c).ext E2h).ext E3h),((n3o.ext E2h).ext E3h),(nlt (E0a.trans E6c).size g5w),(q4o.ext E3h),(nlt ((E0a.trans E6c).trans E2h).size g5o),q7w,(Bx.ne q4o g5o),rfl⟩)
     ·refine opA 5 rfl (by rfl) (AO AQ) fun b8w _ E4h g9w q6o=>dnrm ?_
      refine Cp 4 (by kernel_rfl) ?_
      ·refine opA 4 rfl (by rfl) (AO AQ) fun b0x _ E5h g7o q1x=>dnrm ?_
       exact dls (HJ87 _ _ ⟨A5d,c6d,A1o,c2o,b0x,b8w,(((E0a.trans E6c).trans E4h).trans E5h),(((n7d.ext E6c).ext E4h).ext E5h),((n3o.ext E4h).ext E5h),(nlt ((E0a.trans E6c).trans E4h).size g7o),q1x,(nlt (E0a.trans E6c).size g9w),(q6o.ext E5h),(Ne.symm (Bx.ne q6o g7o)),rfl⟩)
    ·refine opA 4 rfl (by rfl) (AO AQ) fun b8o _ E1c g9o q6h=>dnrm ?_
     refine Gv 3 5 (by kernel_rfl) ?_ ?_
     ·refine opC 3 rfl (by rfl) (Ad FY (by simp only [sz,hx1b];rfl)) (Cw (⟨(⟨x1.Man.Neg,m0b⟩:Af),x1.Exp⟩:Ae) A4 c5 _ (tbx (E0a.trans E1c) q4d) (n6b.ext (E0a.trans E1c)) r1a h7b) ?_
      rintro _ _ E0f ⟨A2x,c3x,rfl,n4x⟩
      refine dnrm ?_
      refine Cp 5 (by kernel_rfl) ?_
      ·refine opA 5 rfl (by rfl) (AO AQ) fun b5x _ E7h g0p q6x=>dnrm ?_
       exact dls (HJ87 _ _ ⟨A5d,c6d,A2x,c3x,b8o,b5x,(((E0a.trans E1c).trans E0f).trans E7h),(((n7d.ext E1c).ext E0f).ext E7h),(n4x.ext E7h),(nlt E0a.size g9o),((q6h.ext E0f).ext E7h),(nlt ((E0a.trans E1c).trans E0f).size g0p),q6x,(Bx.ne (q6h.ext E0f) g0p),rfl⟩)
     ·refine opA 5 rfl (by rfl) (AO AQ) fun b7x _ E1f g1p q8x=>dnrm ?_
      refine Cp 3 (by kernel_rfl) ?_
      ·refine opC 3 rfl (by rfl) (Ad FY (by simp only [sz,hx1b];rfl)) (Cw (⟨(⟨x1.Man.Neg,m0b⟩:Af),x1.Exp⟩:Ae) A4 c5 _ (tbx ((E0a.trans E1c).trans E1f) q4d) (n6b.ext ((E0a.trans E1c).trans E1f)) r1a h7b) ?_
       rintro _ _ E8h ⟨A9x,c0y,rfl,n1y⟩
       refine dnrm ?_
       exact dls (HJ87 _ _ ⟨A5d,c6d,A9x,c0y,b8o,b7x,(((E0a.trans E1c).trans E1f).trans E8h),(((n7d.ext E1c).ext E1f).ext E8h),n1y,(nlt E0a.size g9o),((q6h.ext E1f).ext E8h),(nlt (E0a.trans E1c).size g1p),(q8x.ext E8h),(Bx.ne q6h g1p),rfl⟩)
    ·refine opA 5 rfl (by rfl) (AO AQ) fun b2p _ E2c g3p q9h=>dnrm ?_
     refine Gv 3 4 (by kernel_rfl) ?_ ?_
     ·refine opC 3 rfl (by rfl) (Ad FY (by simp only [sz,hx1b];rfl)) (Cw (⟨(⟨x1.Man.Neg,m0b⟩:Af),x1.Exp⟩:Ae) A4 c5 _ (tbx (E0a.trans E2c) q4d) (n6b.ext (E0a.trans E2c)) r1a h7b) ?_
      rintro _ _ E2f ⟨A2y,c3y,rfl,n4y⟩
      refine dnrm ?_
      refine Cp 4 (by kernel_rfl) ?_
      ·refine opA 4 rfl (by rfl) (AO AQ) fun b5y _ E0i g4p q6y=>dnrm ?_
       exact dls (HJ87 _ _ ⟨A5d,c6d,A2y,c3y,b5y,b2p,(((E0a.trans E2c).trans E2f).trans E0i),(((n7d.ext E2c).ext E2f).ext E0i),(n4y.ext E0i),(nlt ((E0a.trans E2c).trans E2f).size g4p),q6y,(nlt E0a.size g3p),((q9h.ext E2f).ext E0i),(Ne.symm (Bx.ne (q9h.ext E2f) g4p)),rfl⟩)
     ·refine opA 4 rfl (by rfl) (AO AQ) fun b7y _ E3f g5p q8y=>dnrm ?_
      refine Cp 3 (by kernel_rfl) ?_
      ·refine opC 3 rfl (by rfl) (Ad FY (by simp only [sz,hx1b];rfl)) (Cw (⟨(⟨x1.Man.Neg,m0b⟩:Af),x1.Exp⟩:Ae) A4 c5 _ (tbx ((E0a.trans E2c).trans E3f) q4d) (n6b.ext ((E0a.trans E2c).trans E3f)) r1a h7b) ?_
       rintro _ _ E1i ⟨A9y,c0z,rfl,n1z⟩
       refine dnrm ?_
       exact dls (HJ87 _ _ ⟨A5d,c6d,A9y,c0z,b7y,b2p,(((E0a.trans E2c).trans E3f).trans E1i),(((n7d.ext E2c).ext E3f).ext E1i),n1z,(nlt (E0a.trans E2c).size g5p),(q8y.ext E1i),(nlt E0a.size g3p),((q9h.ext E3f).ext E1i),(Ne.symm (Bx.ne q9h g5p)),rfl⟩)
   ·refine opA 4 rfl (by rfl) (AO AQ) fun b8k _ E4a g9k q8d=>dnrm ?_
    refine Gv 1 5 (by kernel_rfl) ?_ ?_
    ·have q0l:=tbx X7a hT
     refine opC 1 rfl (by rfl) (Ad FY (by simp only [sz,hx3d];rfl)) (Cw (⟨(⟨x0.Man.Neg,m2d⟩:Af),x0.Exp⟩:Ae) A1 c2 _ (tbx E4a q0l) (n5e.ext E4a) r3a h6e) ?_
     rintro _ _ E4b ⟨A6p,c7p,rfl,n8p⟩
     refine dnrm ?_
     refine Gv 3 5 (by kernel_rfl) ?_ ?_
     ·refine opC 3 rfl (by rfl) (Ad FY (by simp only [sz,hx1b];rfl)) (Cw (⟨(⟨x1.Man.Neg,m0b⟩:Af),x1.Exp⟩:Ae) A4 c5 _ (tbx (E4a.trans E4b) q0l) (n6b.ext (E4a.trans E4b)) r1a h7b) ?_
      rintro _ _ E4f ⟨A2z,c3z,rfl,n4z⟩
      refine dnrm ?_
      refine Cp 5 (by kernel_rfl) ?_
      ·refine opA 5 rfl (by rfl) (AO AQ) fun b5z _ E2i g9p q6z=>dnrm ?_
       exact dls (HJ87 _ _ ⟨A6p,c7p,A2z,c3z,b8k,b5z,(((E4a.trans E4b).trans E4f).trans E2i),((n8p.ext E4f).ext E2i),(n4z.ext E2i),g9k,(((q8d.ext E4b).ext E4f).ext E2i),(nlt ((E4a.trans E4b).trans E4f).size g9p),q6z,(Bx.ne ((q8d.ext E4b).ext E4f) g9p),rfl⟩)
     ·refine opA 5 rfl (by rfl) (AO AQ) fun b7z _ E5f g0q q8z=>dnrm ?_
      refine Cp 3 (by kernel_rfl) ?_
      ·refine opC 3 rfl (by rfl) (Ad FY (by simp only [sz,hx1b];rfl)) (Cw (⟨(⟨x1.Man.Neg,m0b⟩:Af),x1.Exp⟩:Ae) A4 c5 _ (tbx ((E4a.trans E4b).trans E5f) q0l) (n6b.ext ((E4a.trans E4b).trans E5f)) r1a h7b) ?_
       rintro _ _ E3i ⟨A9z,c0a0,rfl,n1a0⟩
       refine dnrm ?_
       exact dls (HJ87 _ _ ⟨A6p,c7p,A9z,c0a0,b8k,b7z,(((E4a.trans E4b).trans E5f).trans E3i),((n8p.ext E5f).ext E3i),n1a0,g9k,(((q8d.ext E4b).ext E5f).ext E3i),(nlt (E4a.trans E4b).size g0q),(q8z.ext E3i),(Bx.ne (q8d.ext E4b) g0q),rfl⟩)
    ·refine opA 5 rfl (by rfl) (AO AQ) fun b2a0 _ E9d g1q q3a0=>dnrm ?_
     refine Cp 1 (by kernel_rfl) ?_
     ·refine opC 1 rfl (by rfl) (Ad FY (by simp only [sz,hx3d];rfl)) (Cw (⟨(⟨x0.Man.Neg,m2d⟩:Af),x0.Exp⟩:Ae) A1 c2 _ (tbx (E4a.trans E9d) (tbx X7a hT)) (n5e.ext (E4a.trans E9d)) r3a h6e) ?_
      rintro _ _ E6f ⟨A4a0,c5a0,rfl,n6a0⟩
      refine dnrm ?_
      refine Cp 3 (by kernel_rfl) ?_
      ·refine opC 3 rfl (by rfl) (Ad FY (by simp only [sz,hx1b];rfl)) (Cw (⟨(⟨x1.Man.Neg,m0b⟩:Af),x1.Exp⟩:Ae) A4 c5 _ (tbx ((E4a.trans E9d).trans E6f) (tbx X7a hT)) (n6b.ext ((E4a.trans E9d).trans E6f)) r1a h7b) ?_
       rintro _ _ E4i ⟨A7a0,c8a0,rfl,n9a0⟩
       refine dnrm ?_
       exact dls (HJ87 _ _ ⟨A4a0,c5a0,A7a0,c8a0,b8k,b2a0,(((E4a.trans E9d).trans E6f).trans E4i),(n6a0.ext E4i),n9a0,g9k,(((q8d.ext E9d).ext E6f).ext E4i),(nlt E4a.size g1q),((q3a0.ext E6f).ext E4i),(Bx.ne q8d g1q),rfl⟩)
   ·refine opA 5 rfl (by rfl) (AO AQ) fun b1l _ E5a g2l q0e=>dnrm ?_
    refine Gv 1 4 (by kernel_rfl) ?_ ?_
    ·refine opC 1 rfl (by rfl) (Ad FY (by simp only [sz,hx3d];rfl)) (Cw (⟨(⟨x0.Man.Neg,m2d⟩:Af),x0.Exp⟩:Ae) A1 c2 _ (tbx E5a (tbx X7a hT)) (n5e.ext E5a) r3a h6e) ?_
     rintro _ _ E5b ⟨A2q,c3q,rfl,n4q⟩
     refine dnrm ?_
     refine Gv 3 4 (by kernel_rfl) ?_ ?_
     ·refine opC 3 rfl (by rfl) (Ad FY (by simp only [sz,hx1b];rfl)) (Cw (⟨(⟨x1.Man.Neg,m0b⟩:Af),x1.Exp⟩:Ae) A4 c5 _ (tbx (E5a.trans E5b) (tbx X7a hT)) (n6b.ext (E5a.trans E5b)) r1a h7b) ?_
      rintro _ _ E7f ⟨A0a1,c1a1,rfl,n2a1⟩
      refine dnrm ?_
      refine Cp 4 (by kernel_rfl) ?_
      ·refine opA 4 rfl (by rfl) (AO AQ) fun b3a1 _ E5i g5q q4a1=>dnrm ?_
       exact dls (HJ87 _ _ ⟨A2q,c3q,A0a1,c1a1,b3a1,b1l,(((E5a.trans E5b).trans E7f).trans E5i),((n4q.ext E7f).ext E5i),(n2a1.ext E5i),(nlt ((E5a.trans E5b).trans E7f).size g5q),q4a1,g2l,(((q0e.ext E5b).ext E7f).ext E5i),(Ne.symm (Bx.ne ((q0e.ext E5b).ext E7f) g5q)),rfl⟩)
     ·refine opA 4 rfl (by rfl) (AO AQ) fun b5a1 _ E8f g6q q6a1=>dnrm ?_
      refine Cp 3 (by kernel_rfl) ?_
      ·refine opC 3 rfl (by rfl) (Ad FY (by simp only [sz,hx1b];rfl)) (Cw (⟨(⟨x1.Man.Neg,m0b⟩:Af),x1.Exp⟩:Ae) A4 c5 _ (tbx ((E5a.trans E5b).trans E8f) (tbx X7a hT)) (n6b.ext ((E5a.trans E5b).trans E8f)) r1a h7b) ?_
       rintro _ _ E6i ⟨A7a1,c8a1,rfl,n9a1⟩
       refine dnrm ?_
       exact dls (HJ87 _ _ ⟨A2q,c3q,A7a1,c8a1,b5a1,b1l,(((E5a.trans E5b).trans E8f).trans E6i),((n4q.ext E8f).ext E6i),n9a1,(nlt (E5a.trans E5b).size g6q),(q6a1.ext E6i),g2l,(((q0e.ext E5b).ext E8f).ext E6i),(Ne.symm (Bx.ne (q0e.ext E5b) g6q)),rfl⟩)
    ·refine opA 4 rfl (by rfl) (AO AQ) fun b0a2 _ E1e g7q q1a2=>dnrm ?_
     refine Cp 1 (by kernel_rfl) ?_
     ·refine opC 1 rfl (by rfl) (Ad FY (by simp only [sz,hx3d];rfl)) (Cw (⟨(⟨x0.Man.Neg,m2d⟩:Af),x0.Exp⟩:Ae) A1 c2 _ (tbx (E5a.trans E1e) (tbx X7a hT)) (n5e.ext (E5a.trans E1e)) r3a h6e) ?_
      rintro _ _ E9f ⟨A2a2,c3a2,rfl,n4a2⟩
      refine dnrm ?_
      refine Cp 3 (by kernel_rfl) ?_
      ·refine opC 3 rfl (by rfl) (Ad FY (by simp only [sz,hx1b];rfl)) (Cw (⟨(⟨x1.Man.Neg,m0b⟩:Af),x1.Exp⟩:Ae) A4 c5 _ (tbx ((E5a.trans E1e).trans E9f) (tbx X7a hT)) (n6b.ext ((E5a.trans E1e).trans E9f)) r1a h7b) ?_
       rintro _ _ E7i ⟨A5a2,c6a2,rfl,n7a2⟩
       refine dnrm ?_
       exact dls (HJ87 _ _ ⟨A2a2,c3a2,A5a2,c6a2,b0a2,b1l,(((E5a.trans E1e).trans E9f).trans E7i),(n4a2.ext E7i),n7a2,(nlt E5a.size g7q),((q1a2.ext E9f).ext E7i),g2l,(((q0e.ext E1e).ext E9f).ext E7i),(Ne.symm (Bx.ne q0e g7q)),rfl⟩)
 ·refine scP (Ad NZ (by rfl)) (KS x0 x1 b2j A1 c2 A4 c5 w6 (tbx X5c hT) (n3.ext X5c) (n6.ext X5c) q8l (.error r7g) h3j) fun w7 E6a=>?_
  have X8a2:=xtr X5c E6a
  have q9a2:=((q3g.ext E4c).ext E9a).ext E6a
  refine Ka Ir (CL b3e b4e (.bool false:Value) (.slice none 0 0:Value) (.int .i64 0:Value) (.int .i64 0:Value) r7g q9a2 ((q5g.ext E9a).ext E6a)) rfl ?_
  rintro w9 ⟨u9,q9,q9'⟩
  obtain rfl:=sj hr0
  exact ⟨_,(Res.cellN rfl AH q9 rfl rfl (Res.cell1 rfl DQ (Bx.cell q9' rfl) Res.nil)),Bg (u9.toExt X8a2 g4g g6g) ⟨none,0,rfl,RU.nil _⟩⟩
theorem c_dyad_Sub (x0:Au) (x1:Au) (A1:OA) (c2:Nat) (A4:OA) (c5:Nat) (w:World) (hT:TB w) (n3:RLu w A1 c2 x0.Man.Abs) (n6:RLu w A4 c5 x1.Man.Abs) (r:Ae × Int) (hr:JW x0 x1=some r) :
  Calls prog 40 #[.agg #[.bool x0.Man.Neg,.slice A1 x0.Man.Abs.length c2,.int .i64 x0.Exp],.agg #[.bool x1.Man.Neg,.slice A4 x1.Man.Abs.length c5,.int .i64 x1.Exp]] w (Ret Ky w r):=by
 unfold JW at hr
 go_enter func40,ntmps40
 refine ws fun h7=>Ai<|sbx rfl rfl fun b8 w1 E9 g1c q7a=>?_
 refine sbx rfl rfl fun b2c w2 E3a g8a q9a=>?_
 have g3c:=nlt E9.size g8a
 have X4a:=xtr E9 E3a
 refine sal Ga fun b4c w3 E1a g0b q5a=>?_
 have g1b:=nlt X4a.size g0b
 have X0a:=xtr X4a E1a
 refine sV (Ab rfl) ?_
 refine nx h7 fun h2b=>sV3 (Ak AH rfl ((q7a.ext E3a).ext E1a) rfl) (Ak AH rfl (q9a.ext E1a) rfl) (AR (vals:=[(0,.func (.func 126) #[] #[]),(1,.func (.func 125) #[] #[])]) (cells:=[.func (.func 126) #[] #[],.func (.func 125) #[] #[]]) (by rfl) (by kernel_rfl)) ?_
 refine scn hr (Ad en_123 (by rfl)) (c_dyad_exact__dyad_Sub_1__dyad_near x0 x1 A1 c2 A4 c5 w3 (tbx X0a hT) (n3.ext X0a) (n6.ext X0a)) fun r5c f3b w4 A4b c5b E2a n6b=>?_
 have X7b:=xtr X0a E2a
 refine sV2 (Aw rfl rfl) (Aw rfl rfl) ?_
 refine ss DC (q5a.ext E2a) fun w5 U6a q8b=>?_
 have X9b:=belU X7b U6a g1b
 refine sV (Ab rfl) ?_
 refine wh h2b<|wp_ret ?_
 have n0c:=n6b.upd U6a (q5a.ext E2a) (by decide)
 exact IJ f3b rfl (Res.cellN rfl AH q8b rfl rfl (Res.tmp rfl Res.nil)) (Bg X9b ⟨A4b,c5b,rfl,n0c⟩)
theorem c_sorobanref04_Fits (x0:Ae) (A1:OA) (c2:Nat) (w:World) (hT:TB w) (n3:RU w A1 c2 x0.Man.Abs) (r:GE) (hr:GO x0=some r) :
  Calls prog 134 #[.agg #[.bool x0.Man.Neg,.slice A1 (sz x0.Man.Abs) c2,.int .i64 x0.Exp]] w (Ret rep_154 w r):=by
 unfold GO at hr
 go_enter func134,ntmps134
 refine ws fun h4=>Ai<|sbx rfl rfl fun b5 w1 E6 g7 q8=>?_
 refine sal QD fun b9 w2 E1a g9a q4a=>?_
 have g5a:=nlt E6.size g9a
 have X2a:=xtr E6 E1a
 refine wh h4<|ws fun h0b=>ws fun h1b=>Ai<|sV (Ak AH rfl (q8.ext E1a) rfl) ?_
 refine scr hr (Ad NL (by rfl)) (EL (⟨(⟨x0.Man.Neg,(limbs x0.Man.Abs)⟩:AK),x0.Exp⟩:Au) A1 c2 w2 (tbx X2a hT) (n3.ext X2a)) fun r2c f2b w3 E0a=>?_
 have X6a:=xtr X2a E0a
 refine sbl (Fj rfl) fun z7a hz7a=>?_
 refine wh h1b ?_
 rcases zi hz7a f2b with ⟨e3a,_,f3b⟩ | ⟨e3a,_,f4b⟩
 ·refine ct e3a<|ws fun h5b=>Ai<|sV (AR (vals:=[(1,.int .i64 2)]) (cells:=[.bool false,.slice none 0 0,.int .i64 0,.int .i64 2]) (by rfl) (by kernel_rfl)) ?_
  refine ss Pk (q4a.ext E0a) fun w4 U6b q7b=>?_
  have X8b:=belU X6a U6b g5a
  refine wh h5b<|wp_ret ?_
  exact Ej f3b Rb q7b X8b ⟨none,0,rfl,(RU.nil _)⟩
 ·refine cf e3a<|wp_skip<|h0b _ _<|ws fun h9b=>Ai<|sV2 (Ak AH rfl ((q8.ext E1a).ext E0a) rfl) (AR (vals:=[(0,.agg #[.bool x0.Man.Neg,.slice A1 (sz x0.Man.Abs) c2,.int .i64 x0.Exp])]) (cells:=[.bool x0.Man.Neg,.slice A1 (sz x0.Man.Abs) c2,.int .i64 x0.Exp,.int .i64 0]) (by rfl) (by kernel_rfl)) ?_
  refine ss Pk (q4a.ext E0a) fun w4 U0c q1c=>?_
  have X8a:=belU X6a U0c g5a
  refine wh h9b<|wp_ret ?_
  exact Ej f4b Rb q1c X8a ⟨A1,c2,rfl,(n3.ext X8a)⟩
theorem idle_nat_caught:RC prog 222:=by
 intro b w
 refine KN func222 rfl [.pointer (some ⟨b,0,none⟩),uu,uu,uu,uu,uu,uu,uu,uu,uu,uu,uu,uu,uu,uu,uu,uu,uu,uu,uu] (by simp [ntmps222]) fun c₀ cs hu=>?_
 apply wpS_seq
 refine QF hu rfl ?_
 simp only [S0,S1]
 refine wpS_of_wp<|ws fun h1=>Ai<|sV2 (Aa rfl) (KB Ml rfl) ?_
 refine wh h1<|cf rfl<|wp_skip ?_
 try simp only [Exit.inBlock]
 exact QX hu (by kernel_rfl) ⟨rfl,rfl,rfl⟩
theorem LI (x0:Nat) (A1:OA) (c2:Nat) (w:World) (hT:TB w) (n3:RU w A1 c2 x0) (r:Bool) (hr:Ic x0=some r) :
  Calls prog 255 #[.slice A1 (sz x0) c2] w (Ret Gc w r):=by
 unfold Ic at hr
 go_enter func255,ntmps255
 refine ws fun h4=>Ai<|sV (Ab rfl) ?_
 refine nx h4 fun h5=>sV (Aa rfl) ?_
 refine scr hr (Ad Pj (by rfl)) (Jj (limbs x0) A1 c2 w hT n3) fun r6 f8 w1 E9=>?_
 refine sbl (Fj rfl) fun z0a hz0a=>?_
 refine sV (Ab rfl) ?_
 refine wh h5<|wp_ret ?_
 obtain rfl:z0a=decide (¬(r6=true)):=bz hz0a
 exact Bq f8 E9 rfl
theorem KI (x0:Bool) (x1:Int) (w:World) (hT:TB w) (r:Except Int (Unit)) (hr:JO x0 x1=some r) :
  Calls prog 224 #[.bool x0,.int .i64 x1] w (RetE 258 Md w r):=by
 unfold JO at hr
 go_enter func224,ntmps224
 refine ws fun h1=>Ai<|sV (Aa rfl) ?_
 refine sbl (Fj rfl) fun z2 hz2=>?_
 refine wh h1 ?_
 rcases zi hz2 hr with ⟨e8,_,f0a⟩ | ⟨e8,_,f1a⟩
 ·refine ct e8<|Ai<|sV2 (Aa rfl) (AR (vals:=[(0,.int .i64 x1)]) (cells:=[.int .i64 x1]) (by rfl) (by kernel_rfl)) ?_
  refine sV (MH ni_258 rfl) ?_
  refine QT rfl ?_
  obtain rfl:=sj f0a
  exact ⟨rfl,DI (Ext.refl _)⟩
 ·refine cf e8<|wp_skip ?_
  obtain rfl:=sj f1a
  exact Od rfl Res.nil (GD (Ext.refl _) rfl)
theorem MB (x0:Nat) (A1:OA) (c2:Nat) (w:World) (hT:TB w) (n3:RU w A1 c2 x0) (r:Except Int (Nat)) (hr:Jo x0=some r) :
  Calls prog 225 #[.slice A1 (sz x0) c2] w (RetE 258 Kj w r):=by
 unfold Jo at hr
 go_enter func225,ntmps225
 refine ws fun h4=>Ai<|sV (Ab rfl) ?_
 refine nx h4 fun h5=>sV2 (Aa rfl) (Az Bf rfl) ?_
 refine sbl (GL rfl rfl) fun z6 hz6=>?_
 obtain rfl:z6=decide ((sz x0:Int)≤1024):=bz hz6
 rcases BF hr with ⟨r7,h8,f9⟩ | ⟨r7,h8,rfl⟩
 ·refine scO (Ad NR (by rfl)) (KI (decide ((sz x0:Int)≤1024)) 2 w hT  (.ok r7) h8) ?_
  rintro _ w1 E0a rfl
  refine nrm ?_
  refine nx h5 fun h1a=>sV (Aa rfl) ?_
  refine scn f9 (Ad en_256 (by rfl)) (c_slices_Clone_nat_limbs x0 A1 c2 w1 (tbx E0a hT) (n3.ext E0a)) fun r8a f2a w2 A3a c4a E5a n6a=>?_
  have X7a:=xtr E0a E5a
  refine sV (Ab rfl) ?_
  refine wh h1a<|wp_ret ?_
  exact IJ f2a rfl (Res.tmp rfl Res.nil) (GD X7a ⟨A3a,c4a,rfl,n6a⟩)
 ·refine scP (Ad NR (by rfl)) (KI (decide ((sz x0:Int)≤1024)) 2 w hT  (.error r7) h8) fun w1 E0a=>?_
  exact ⟨rfl,DI E0a⟩
theorem c_slices_IndexFunc_Nat__2__nat_taken_1 (x0_0:Nat) (x0_1:Nat) (bp0:Nat) (A1:OA) (c2:Nat) (A4:OA) (c5:Nat) (w:World) (hT:TB w) (n3:RU w A1 c2 x0_0) (n6:RU w A4 c5 x0_1) (q7:Bx w bp0 23 [.slice A1 (sz x0_0) c2,.slice A4 (sz x0_1) c5]) (r:Int) (hr:CD x0_0 x0_1=some r) :
  Calls prog 274 #[.slice (some ⟨bp0,0,none⟩) 2 2,.func (.func 255) #[] #[]] w (Ret Gl w r):=by
 unfold CD at hr
 go_enter func274,ntmps274
 refine ws fun h8=>Ai<|sV (Ab rfl) ?_
 refine wh h8<|ws fun h9=>ws fun h4a=>Ai<|sV3 (Aa rfl) (Az NQ rfl) (Aa rfl) ?_
 refine wh h4a ?_
 apply wp_block
 refine Ip<|AW<|ws fun h5a=>Ai<|sV (Ks (v:=.bool true) (Cu rfl rfl) (by rfl)) ?_
 refine wh h5a<|ws fun h6a=>ct rfl<|wp_skip<|h6a _ _<|ws fun h7a=>?_
 apply wp_block
 refine ws fun h8a=>Ai<|sV2 (Aa rfl) (Ab rfl) ?_
 refine nx h8a fun h9a=>sV3 (Aa rfl) (Aa rfl) (Aa rfl) ?_
 refine sV (Jk (o':=0) NQ QC rfl rfl (by decide) (by decide) (by decide)) ?_
 refine sV (Ah BM rfl (Bx.cell q7 rfl)) ?_
 refine scr hr (Kg (first:=[]) (cap:=[]) (args:=[.slice A1 (sz x0_0) c2]) QR (by rfl) (by rfl)) (LI x0_0 A1 c2 w hT n3) fun r6c f0b w1 E0a=>?_
 refine wh h9a ?_
 rcases zb f0b with ⟨e1a,f1b⟩ | ⟨e1a,f2b⟩
 ·refine ct e1a<|ws fun h3b=>Ai<|sV2 (Aa rfl) (Ab rfl) ?_
  refine wh h3b<|wp_ret ?_
  exact Bq f1b E0a rfl
 ·refine cf e1a<|wp_skip<|h7a _ _<|Ai<|sV (AL (c:=1) rfl rfl (by decide)) ?_
  refine sV (Aa rfl) ?_
  refine AE<|AW<|ws fun h4b=>Ai<|sV (Ks (v:=.bool true) (Cu rfl rfl) (by rfl)) ?_
  refine wh h4b<|ws fun h5b=>ct rfl<|wp_skip<|h5b _ _<|ws fun h6b=>?_
  apply wp_block
  refine ws fun h7b=>Ai<|sV2 (Aa rfl) (Ab rfl) ?_
  refine nx h7b fun h8b=>sV3 (Aa rfl) (Aa rfl) (Aa rfl) ?_
  refine sV (Jk (o':=1) NQ QC rfl rfl (by decide) (by decide) (by decide)) ?_
  refine sV (Ah BM rfl (Bx.cell (q7.ext E0a) rfl)) ?_
  refine scr f2b (Kg (first:=[]) (cap:=[]) (args:=[.slice A4 (sz x0_1) c5]) QR (by rfl) (by rfl)) (LI x0_1 A4 c5 w1 (tbx E0a hT) (n6.ext E0a)) fun r7c f9b w2 E0c=>?_
  have X3a:=xtr E0a E0c
  refine wh h8b ?_
  rcases zb f9b with ⟨e2a,f1c⟩ | ⟨e2a,f2c⟩
  ·refine ct e2a<|ws fun h3c=>Ai<|sV2 (Aa rfl) (Ab rfl) ?_
   refine wh h3c<|wp_ret ?_
   exact Bq f1c X3a rfl
  ·refine cf e2a<|wp_skip<|h6b _ _<|Ai<|sV (AL (c:=2) rfl rfl (by decide)) ?_
   refine sV (Aa rfl) ?_
   refine AE<|AW<|ws fun h4c=>Ai<|sV (Ks (v:=.bool false) (Cu rfl rfl) (by rfl)) ?_
   refine wh h4c<|ws fun h8c=>cf rfl<|wp_exit ?_
   simp only [Exit.then,Exit.inBlock,↓reduceIte,Nat.reduceEqDiff]
   refine h9 _ _<|ws fun h5c=>Ai<|sV (Ab rfl) ?_
   refine wh h5c<|wp_ret ?_
   exact Bq f2c X3a rfl
theorem c_slices_ContainsFunc_Nat__2__nat_taken_1 (x0_0:Nat) (x0_1:Nat) (bp0:Nat) (A1:OA) (c2:Nat) (A4:OA) (c5:Nat) (w:World) (hT:TB w) (n3:RU w A1 c2 x0_0) (n6:RU w A4 c5 x0_1) (q7:Bx w bp0 23 [.slice A1 (sz x0_0) c2,.slice A4 (sz x0_1) c5]) (r:Bool) (hr:Cf x0_0 x0_1=some r) :
  Calls prog 254 #[.slice (some ⟨bp0,0,none⟩) 2 2,.func (.func 255) #[] #[]] w (Ret Gc w r):=by
 unfold Cf at hr
 go_enter func254,ntmps254
 refine ws fun h8=>Ai<|sV (Ab rfl) ?_
 refine nx h8 fun h9=>sV2 (Aa rfl) (Aa rfl) ?_
 refine scr hr (Ad en_274 (by rfl)) (c_slices_IndexFunc_Nat__2__nat_taken_1 x0_0 x0_1 bp0 A1 c2 A4 c5 w hT n3 n6 q7) fun r1a f2a w1 E3a=>?_
 refine sbl (Gp rfl rfl) fun z0a hz0a=>?_
 refine sV (Ab rfl) ?_
 refine wh h9<|wp_ret ?_
 obtain rfl:z0a=decide (0≤r1a):=bz hz0a
 exact Bq f2a E3a rfl
theorem KZ (x0_0:Nat) (x0_1:Nat) (bp0:Nat) (A1:OA) (c2:Nat) (A4:OA) (c5:Nat) (w:World) (hT:TB w) (n3:RU w A1 c2 x0_0) (n6:RU w A4 c5 x0_1) (q7:Bx w bp0 23 [.slice A1 (sz x0_0) c2,.slice A4 (sz x0_1) c5]) (r:Except Int (Unit)) (hr:HI x0_0 x0_1=some r) :
  Calls prog 223 #[.slice (some ⟨bp0,0,none⟩) 2 2] w (RetE 258 Md w r):=by
 unfold HI at hr
 go_enter func223,ntmps223
 refine Ai<|sV (Aa rfl) ?_
 refine scr hr (Ad en_254 (by rfl)) (c_slices_ContainsFunc_Nat__2__nat_taken_1 x0_0 x0_1 bp0 A1 c2 A4 c5 w hT n3 n6 q7) fun r8 f5a w1 E0a=>?_
 refine sbl (Fj rfl) fun z1a hz1a=>?_
 obtain rfl:z1a=decide (¬(r8=true)):=bz hz1a
 rcases BF f5a with ⟨r2a,h3a,f6a⟩ | ⟨r2a,h3a,rfl⟩
 ·refine scO (Ad NR (by rfl)) (KI (decide (¬(r8=true))) 1 w1 (tbx E0a hT)  (.ok r2a) h3a) ?_
  rintro _ w2 E4a rfl
  refine nrm ?_
  have X7a:=xtr E0a E4a
  refine AE ?_
  obtain rfl:=sj f6a
  exact Od rfl Res.nil (GD X7a rfl)
 ·refine scP (Ad NR (by rfl)) (KI (decide (¬(r8=true))) 1 w1 (tbx E0a hT)  (.error r2a) h3a) fun w2 E4a=>?_
  have X8a:=xtr E0a E4a
  exact ⟨rfl,DI X8a⟩
theorem c_sorobanlaw04_agrees (x0:Ae) (x1:Int) (x2:Int) (x3:Ae) (A1:OA) (c2:Nat) (A4:OA) (c5:Nat) (w:World) (hT:TB w) (n3:RU w A1 c2 x0.Man.Abs) (n6:RU w A4 c5 x3.Man.Abs) (r:Bool) (hr:Fl x0 x1 x2 x3=some r) :
  Calls prog 50 #[.agg #[.bool x0.Man.Neg,.slice A1 (sz x0.Man.Abs) c2,.int .i64 x0.Exp],.int .i64 x1,.int .i64 x2,.agg #[.bool x3.Man.Neg,.slice A4 (sz x3.Man.Abs) c5,.int .i64 x3.Exp]] w (Ret Gc w r):=by
 unfold Fl at hr
 go_enter func50,ntmps50
 refine ws fun h7=>Ai<|sbx rfl rfl fun b8 w1 E9 g1g q8a=>?_
 refine sbx rfl rfl fun b2g w2 E5a g5c q6c=>?_
 have g3g:=nlt E9.size g5c
 have X2a:=xtr E9 E5a
 refine sV (Ab rfl) ?_
 refine wh h7<|ws fun h7c=>ws fun h8c=>Ai<|sV (Aa rfl) ?_
 refine sbl (IW rfl rfl) fun z9a hz9a=>?_
 refine wh h8c ?_
 rcases zi hz9a hr with ⟨e6a,_,f9c⟩ | ⟨e6a,_,f0d⟩
 ·refine ct e6a<|ws fun h1d=>Ai<|sV2 (Aa rfl) (Aa rfl) ?_
  refine sbl (BD rfl rfl) fun z0b hz0b=>?_
  refine sV (Aa rfl) ?_
  obtain ⟨m2d,h3d,f4d⟩:=Ac f9c
  refine Bw 8 (fun l l' w'=>∃(t1b:Value) (t2b:Value) (t3b:Value),UpdS [] w2 w'∧l'=((((l.set 16 t1b).set 17 t2b).set 18 t3b).set 19 (.bool m2d))) ?_ ?_
  ·intro HJ134
   rcases zi hz0b h3d with ⟨e1a,_,f5d⟩ | ⟨e1a,_,f6d⟩
   ·refine sV (Ak AH rfl (q8a.ext E5a) rfl) ?_ (hw:=wgT rfl e1a)
    refine sV (AR (vals:=[]) (cells:=[.bool false,.slice none 0 0,.int .i64 0]) (by rfl) (by kernel_rfl)) ?_ (hw:=wgT rfl e1a)
    refine scr f5d (Ad MD (by rfl)) (Ds x0 (⟨(⟨false,0⟩:Af),0⟩:Ae) A1 c2 none 0 w2 (tbx X2a hT) (n3.ext X2a) (RU.nil _)) (fun r7d f8d w3 E9d=>?_) (hw:=wgT rfl e1a)
    refine sV (Aq (evb rfl e1a) rfl) ?_
    obtain rfl:=sj f8d
    exact HJ134 _ _ ⟨(.agg #[.bool x0.Man.Neg,.slice A1 (sz x0.Man.Abs) c2,.int .i64 x0.Exp]),(.agg #[.bool false,.slice none 0 0,.int .i64 0]),(.bool r7d),((UpdS.refl _ _).ext E9d),(by kernel_rfl)⟩
   ·refine sQ rfl e1a ?_
    refine sQ rfl e1a ?_
    refine sQ rfl e1a ?_
    refine sV (Av (evb rfl e1a) rfl) ?_
    obtain rfl:=sj f6d
    exact HJ134 _ _ ⟨uu,uu,uu,(UpdS.refl _ _),(by kernel_rfl)⟩
  ·rintro _ w3 ⟨t1b,t2b,t3b,U0e,rfl⟩ _ rfl
   have X1e:=GM X2a U0e (X2a).size al0
   refine sV (Ab rfl) ?_
   refine wh h1d<|wp_ret ?_
   exact Bq f4d X1e rfl
 ·refine cf e6a<|wp_skip<|h7c _ _<|ws fun h2e=>Ai<|sV (Ak AH rfl q6c rfl) ?_
  refine scn f0d (Ad en_134 (by rfl)) (c_sorobanref04_Fits x3 A4 c5 w2 (tbx X2a hT) (n6.ext X2a)) fun r3a f3e w3 A4b c5b E6b n4e=>?_
  have X7b:=xtr X2a E6b
  refine sal QD fun b5e w4 E6e g8b q7e=>?_
  have g4g:=nlt X7b.size g8b
  refine ss Pk q7e fun w5 U8e q9b=>?_
  have F7a:=belU E6e U8e g8b
  have X4a:=xtr X7b F7a
  refine nx h2e fun h9e=>sV3 (Aa rfl) (Ag (o':=3) fa_154_1 rfl rfl) (Ah DQ rfl (Bx.cell q9b rfl)) ?_
  refine sbl (BD rfl rfl) fun z0c hz0c=>?_
  refine sV (Aa rfl) ?_
  obtain ⟨m0f,h1f,f2f⟩:=Ac f3e
  refine Bw 10 (fun l l' w'=>∃(t1c:Value) (t2c:Value) (t3c:Value) (t4c:Value),UpdS [] w5 w'∧l'=(((((l.set 27 t1c).set 28 t2c).set 29 t3c).set 30 t4c).set 31 (.bool m0f))) ?_ ?_
  ·intro HJ102
   rcases zi hz0c h1f with ⟨e0a,_,f3f⟩ | ⟨e0a,_,f4f⟩
   ·have q5f:=((q8a.ext E5a).ext E6b).ext F7a
    refine sV (Ak AH rfl q5f rfl) ?_ (hw:=wgT rfl e0a)
    refine sV (Ag (o':=0) fa_154_0 rfl rfl) ?_ (hw:=wgT rfl e0a)
    refine sV (dld AH q9b) ?_ (hw:=wgT rfl e0a)
    refine scr f3f (Ad MD (by rfl)) (Ds x0 r3a.D A1 c2 A4b c5b w5 (tbx X4a hT) (n3.ext X4a) (n4e.ext F7a)) (fun r6f f7f w6 E8f=>?_) (hw:=wgT rfl e0a)
    refine sV (Aq (evb rfl e0a) rfl) ?_
    obtain rfl:=sj f7f
    exact HJ102 _ _ ⟨(.agg #[.bool x0.Man.Neg,.slice A1 (sz x0.Man.Abs) c2,.int .i64 x0.Exp]),(.pointer (some ⟨b5e,0,none⟩)),(.agg #[.bool r3a.D.Man.Neg,.slice A4b (sz r3a.D.Man.Abs) c5b,.int .i64 r3a.D.Exp]),(.bool r6f),((UpdS.refl _ _).ext E8f),(by kernel_rfl)⟩
   ·refine sQ rfl e0a ?_
    refine sQ rfl e0a ?_
    refine sQ rfl e0a ?_
    refine sQ rfl e0a ?_
    refine sV (Av (evb rfl e0a) rfl) ?_
    obtain rfl:=sj f4f
    exact HJ102 _ _ ⟨uu,uu,uu,uu,(UpdS.refl _ _),(by kernel_rfl)⟩
  ·rintro _ w6 ⟨t1c,t2c,t3c,t4c,U9f,rfl⟩ _ rfl
   have X0g:=GM X4a U9f (X4a).size al0
   refine sV (Ab rfl) ?_
   refine wh h9e<|wp_ret ?_
   exact Bq f2f X0g rfl
theorem c_sorobanref03_Whole (x0:Af) (A1:OA) (c2:Nat) (w:World) (hT:TB w) (n3:RU w A1 c2 x0.Abs) (r:BG) (hr:HD x0=some r) :
  Calls prog 159 #[.agg #[.bool x0.Neg,.slice A1 (sz x0.Abs) c2]] w (Ret OR w r):=by
 unfold HD at hr
 go_enter func159,ntmps159
 refine ws fun h4=>Ai<|sbx rfl rfl fun b5 w1 E6 g7 q8=>?_
 refine sal Qf fun b9 w2 E4a g1b q2b=>?_
 have g3b:=nlt E6.size g1b
 have X4b:=xtr E6 E4a
 refine wh h4<|ws fun h5b=>DD [3] 4 mo rfl fun w3 E0a S5a=>have X6a:=xtr X4b E0a;dV 0 rfl (fun _ hw=>Ak GK rfl (((q8.ext E4a).ext E0a).ext hw) rfl) S5a ?_
 refine dcn hr 1 rfl (by rfl) (Ad Ms (by rfl)) (Fx w3 (tbx X6a hT)) fun r7a f6b w4 A1a c2a E3a n7b=>?_
 have X8b:=xtr X6a E3a
 have S1c:=S5a.trans E3a
 refine dA 2 rfl (fun _=>AR (vals:=[(0,.agg #[.bool x0.Neg,.slice A1 (sz x0.Abs) c2]),(1,.slice A1a (sz r7a) c2a)]) (cells:=[.bool x0.Neg,.slice A1 (sz x0.Abs) c2,.slice A1a (sz r7a) c2a]) (by rfl) (by kernel_rfl)) ?_
 have q8a:=(q2b.ext E0a).ext E3a
 refine dkk 3 OH q8a fun w5 U9a q9b=>?_
 have X0b:=belU X8b U9a g3b
 refine CI (by kernel_rfl) ?_
 refine h5b _ _<|wp_ret ?_
 have n0c:=n7b.upd U9a q8a (by decide)
 exact Ej f6b HW q9b X0b ⟨A1,c2,A1a,c2a,rfl,(n3.ext X0b),n0c⟩
theorem c_sorobanref04_Value (x0:Ae) (A1:OA) (c2:Nat) (w:World) (hT:TB w) (n3:RU w A1 c2 x0.Man.Abs) (r:BG) (hr:FR x0=some r) :
  Calls prog 67 #[.agg #[.bool x0.Man.Neg,.slice A1 (sz x0.Man.Abs) c2,.int .i64 x0.Exp]] w (Ret OR w r):=by
 unfold FR at hr
 go_enter func67,ntmps67
 refine ws fun h4=>Ai<|sbx rfl rfl fun b5 w1 E6 g7 q8=>?_
 refine sal Qf fun b9 w2 E0a g8c q1c=>?_
 have g2c:=nlt E6.size g8c
 have X3c:=xtr E6 E0a
 refine wh h4<|ws fun h9c=>ws fun h0d=>Ai<|sV2 (Ag (o':=2) FS rfl rfl) (Ah Ge rfl (Bx.cell (q8.ext E0a) rfl)) ?_
 refine sbl (Gp rfl rfl) fun z4c hz4c=>?_
 refine wh h0d ?_
 rcases zi hz4c hr with ⟨e3a,_,f1d⟩ | ⟨e3a,_,f2d⟩
 ·refine ct e3a<|ws fun h3d=>DD [11] 12 mo rfl fun w3 E4a S1a=>have X5a:=xtr X3c E4a;dA 0 rfl (fun _=>Ag (o':=0) EY rfl rfl) ?_
  refine dA 1 rfl (fun _=>Ag (o':=0) Ey rfl rfl) ?_
  have q6a:=(q8.ext E0a).ext E4a
  refine dV 2 rfl (fun _ hw=>Ah Gy rfl (Bx.cell (q6a.ext hw) rfl)) S1a ?_
  refine dA2 3 4 rfl rfl (fun _=>Ag (o':=0) EY rfl rfl) (fun _=>Ag (o':=1) BA rfl rfl) ?_
  refine dV 5 rfl (fun _ hw=>Ah BM rfl (Bx.cell (q6a.ext hw) rfl)) S1a ?_
  refine dA 6 rfl (fun _=>Ag (o':=2) FS rfl rfl) ?_
  refine dV 7 rfl (fun _ hw=>Ah Ge rfl (Bx.cell (q6a.ext hw) rfl)) S1a ?_
  refine dcn f1d 8 rfl (by rfl) (Ad JR (by rfl)) (CJ x0.Man.Abs x0.Exp A1 c2 w3 (tbx X5a hT) (n3.ext X5a)) fun r7a f4d w4 A8a c9a E0b n5d=>?_
  have X5c:=xtr X5a E0b
  have S6d:=S1a.trans E0b
  refine dA 9 rfl (fun _=>AR (vals:=[(0,.bool x0.Man.Neg),(1,.slice A8a (sz r7a) c9a)]) (cells:=[.bool x0.Man.Neg,.slice A8a (sz r7a) c9a]) (by rfl) (by kernel_rfl)) ?_
  obtain ⟨r7d,h8d,f9d⟩:=Ac f4d
  refine dc 10 rfl (by kernel_rfl) (by rfl) (Ad en_159 (by rfl)) (c_sorobanref03_Whole (⟨x0.Man.Neg,r7a⟩:Af) A8a c9a w4 (tbx X5c hT) n5d r7d h8d) ?_
  rintro _ w5 E1b ⟨A0e,c1e,A2e,c3e,rfl,n4e,n5e⟩
  refine dnrm ?_
  have X6e:=xtr X5c E1b
  have S4h:=S6d.trans E1b
  have q2b:=((q1c.ext E4a).ext E0b).ext E1b
  refine dkk 11 OH q2b fun w6 U3b q7e=>?_
  have X8e:=belU X6e U3b g2c
  refine CI (by kernel_rfl) ?_
  refine h3d _ _<|wp_ret ?_
  exact Ej f9d HW q7e X8e ⟨A0e,c1e,A2e,c3e,rfl,(n4e.upd U3b q2b (by decide)),(n5e.upd U3b q2b (by decide))⟩
 ·refine cf e3a<|wp_skip<|h9c _ _<|ws fun h9e=>DD [8] 9 mo rfl fun w3 E2a S4b=>have X6c:=xtr X3c E2a;dA 0 rfl (fun _=>Ag (o':=0) EY rfl rfl) ?_
  refine dV 1 rfl (fun _ hw=>dld GK (((q8.ext E0a).ext E2a).ext hw)) S4b ?_
  refine dA 3 rfl (fun _=>Ag (o':=2) FS rfl rfl) ?_
  refine dV 4 rfl (fun _ hw=>Ah Ge rfl (Bx.cell (((q8.ext E0a).ext E2a).ext hw) rfl)) S4b ?_
  refine dA 5 rfl (fun _=>Bc (c:=wi64 (0 - x0.Exp)) rfl rfl rfl) ?_
  refine dcn f2d 2 rfl (by rfl) (Ad Ms (by rfl)) (Fx w3 (tbx X6c hT)) fun r0f f1f w4 A2f c3f E5b n4f=>?_
  have X7c:=xtr X6c E5b
  have S5f:=S4b.trans E5b
  refine dcn f1f 6 rfl (by rfl) (Ad JR (by rfl)) (CJ r0f (wi64 (0 - x0.Exp)) A2f c3f w4 (tbx X7c hT) n4f) fun r6f f7f w5 A8f c9f E6b n0g=>?_
  have X7b:=xtr X7c E6b
  have S1g:=S5f.trans E6b
  obtain ⟨r2g,h3g,f4g⟩:=Ac f7f
  refine dc 7 rfl (by kernel_rfl) (by rfl) (Ad en_160 (by rfl)) (c_sorobanref03_Of x0.Man r6f A1 c2 A8f c9f w5 (tbx X7b hT) (n3.ext X7b) n0g r2g h3g) ?_
  rintro _ w6 E8b ⟨A5g,c6g,A7g,c8g,rfl,n9g,n0h⟩
  refine dnrm ?_
  have X1h:=xtr X7b E8b
  have S5h:=S1g.trans E8b
  have q9b:=(((q1c.ext E2a).ext E5b).ext E6b).ext E8b
  refine dkk 8 OH q9b fun w7 U0c q2h=>?_
  have X3h:=belU X1h U0c g2c
  refine CI (by kernel_rfl) ?_
  refine h9e _ _<|wp_ret ?_
  exact Ej f4g HW q2h X3h ⟨A5g,c6g,A7g,c8g,rfl,(n9g.upd U0c q9b (by decide)),(n0h.upd U0c q9b (by decide))⟩
theorem c_sorobanlaw04_lightRat (x0:Et) (A1:OA) (c2:Nat) (A4:OA) (c5:Nat) (w:World) (hT:TB w) (n3:RLu w A1 c2 x0.Num.Abs) (n6:RLu w A4 c5 x0.Den) (r:Bool) (hr:EI x0=some r) :
  Calls prog 53 #[.agg #[.bool x0.Num.Neg,.slice A1 x0.Num.Abs.length c2,.slice A4 x0.Den.length c5]] w (Ret Gc w r):=by
 unfold EI at hr
 go_enter func53,ntmps53
 refine ws fun h7=>Ai<|sbx rfl rfl fun b8 w1 E9 g4b q2a=>?_
 refine sV (Ab rfl) ?_
 refine nx h7 fun h8a=>sV3 (Ag (o':=0) HC rfl rfl) (Ag (o':=1) BA rfl rfl) (Ah BM rfl (Bx.cell q2a rfl)) ?_
 refine sV (Az AJ rfl) ?_
 refine sbl (GL rfl rfl) fun z3a hz3a=>?_
 refine sV (Aa rfl) ?_
 obtain ⟨m9a,h0b,f1b⟩:=Ac hr
 refine Bw 11 (fun l l' w'=>∃(t4a:Value) (t5a:Value) (t6a:Value) (t7a:Value),w1=w'∧l'=(((((l.set 9 t4a).set 10 t5a).set 11 t6a).set 12 t7a).set 13 (.bool m9a))) ?_ ?_
 ·intro HJ28
  rcases zi hz3a h0b with ⟨e0a,_,f2b⟩ | ⟨e0a,_,f3b⟩
  ·refine sV (Ag (o':=2) HS rfl rfl) ?_ (hw:=wgT rfl e0a)
   refine sV (Ah BM rfl (Bx.cell q2a rfl)) ?_ (hw:=wgT rfl e0a)
   refine sV (Az AJ rfl) ?_ (hw:=wgT rfl e0a)
   refine sbl (GL rfl rfl) (fun z1a hz1a=>?_) (hw:=wgT rfl e0a)
   refine sV (Aq (evb rfl e0a) rfl) ?_
   obtain rfl:z1a=decide ((x0.Den.length:Int)≤60):=bz hz1a
   obtain rfl:=sj f2b
   exact HJ28 _ _ ⟨(.pointer (some ⟨b8,2,none⟩)),(.slice A4 x0.Den.length c5),(.int .i64 (x0.Den.length:Int)),(.bool (decide ((x0.Den.length:Int)≤60))),rfl,(by kernel_rfl)⟩
  ·refine sQ rfl e0a ?_
   refine sQ rfl e0a ?_
   refine sQ rfl e0a ?_
   refine sQ rfl e0a ?_
   refine sV (Av (evb rfl e0a) rfl) ?_
   obtain rfl:=sj f3b
   exact HJ28 _ _ ⟨uu,uu,uu,uu,rfl,(by kernel_rfl)⟩
 ·rintro _ _ ⟨t4a,t5a,t6a,t7a,rfl,rfl⟩ _ rfl
  refine sV (Ab rfl) ?_
  refine wh h8a<|wp_ret ?_
  exact Bq f1b E9 rfl
theorem c_nat_Gcd_1 (x0:Nat) (x1:Nat) (A1:OA) (c2:Nat) (A4:OA) (c5:Nat) (w:World) (hT:TB w) (n3:RU w A1 c2 x0) (n6:RU w A4 c5 x1) (r:Nat) (hr:Jn x0 x1=some r) :
  Calls prog 243 #[.slice A1 (sz x0) c2,.slice A4 (sz x1) c5] w (Ret MS w r):=by
 unfold Jn at hr
 go_enter func243,ntmps243
 refine ws fun h7=>Ai<|sV (Ab rfl) ?_
 refine wh h7<|ws fun h8=>?_
 obtain ⟨m8a,h0c,f1c⟩:=Ac hr
 refine BJ (fun l l' w'=>∃(A6a:OA) (c7a:Nat),Ext w w'∧RU w' A6a c7a m8a∧Fr l' (fun t1b=>.slice A6a (sz m8a) c7a::gp t1b 1 18 [])) ?_ ?_
 ·apply wp_block
  refine AV (fun l n2b l' w'=>∃(v1a:Nat) (v0a:Nat) (A2a:OA) (c3a:Nat) (A4a:OA) (c5a:Nat),Ext w w'∧RU w' A2a c3a v1a∧RU w' A4a c5a v0a∧FC x0 x1 n2b v1a v0a=some m8a∧Fr l' (fun t3b=>.slice A2a (sz v1a) c3a::.slice A4a (sz v0a) c5a::gp t3b 2 17 [])) 18446744073709551616 ?_ ?_ ?_
  ·exact ⟨x0,x1,A1,c2,A4,c5,(Ext.refl _),n3,n6,h0c,(Fr.mk (by kernel_rfl))⟩
  ·rintro l' w' ⟨v1a,v0a,A2a,c3a,A4a,c5a,_,_,_,hz,_⟩
   exact nomatch hz
  ·rintro n2b ih2c _ w1 ⟨v1a,v0a,A2a,c3a,A4a,c5a,U9a,n4b,n5b,hr6b,⟨t3b,rfl⟩⟩ l'' hl
   simp only [gp,Nat.reduceAdd] at hl
   subst hl
   unfold FC at hr6b
   refine AW<|ws fun h3c=>ws fun h4c=>Ai<|sV2 (Aa rfl) (Az Bf rfl) ?_
   refine sbl (ES rfl rfl) fun z7b hz7b=>?_
   refine wh h4c ?_
   rcases zi hz7b hr6b with ⟨e0b,_,f5c⟩ | ⟨e0b,_,f6c⟩
   ·refine ct e0b<|wp_skip<|h3c _ _ ?_
    apply wp_block
    refine ws fun h7c=>Ai<|sV2 (Aa rfl) (Aa rfl) ?_
    obtain ⟨r8b,h8c,f9c⟩:=Ac f5c
    refine sc (Ad en_244 (by rfl)) (IX v1a v0a A2a c3a A4a c5a w1 (tbx U9a hT) n4b n5b r8b h8c) ?_
    rintro _ w2 E9b ⟨A6d,c7d,A0d,c1d,rfl,n8d,n2d⟩
    refine nrm ?_
    refine sV3 (Aa rfl) (Aw rfl rfl) (Aw rfl rfl) ?_
    refine sV2 (Ab rfl) (Ab rfl) ?_
    refine wh h7c<|Ai<|sV3 (Aa rfl) (Aa rfl) (Ab rfl) ?_
    refine sV (Ab rfl) ?_
    refine AE ?_
    exact ih2c _ _ ⟨v0a,r8b.2,A4a,c5a,A0d,c1d,(U9a.trans E9b),(n5b.ext E9b),n2d,f9c,(Fr.mk (by kernel_rfl))⟩
   ·refine cf e0b<|wp_exit ?_
    simp only [Exit.then,Exit.inBlock,↓reduceIte,Nat.reduceEqDiff]
    obtain rfl:=sj f6c
    exact ⟨_,rfl,A2a,c3a,U9a,n4b,(Fr.mk (by kernel_rfl))⟩
 ·rintro _ w1 ⟨A6a,c7a,U3d,n4d,⟨t1b,rfl⟩⟩ l'' hl
  simp only [gp,Nat.reduceAdd] at hl
  subst hl
  refine h8 _ _<|ws fun h5d=>Ai<|sV2 (Aa rfl) (Ab rfl) ?_
  refine wh h5d<|wp_ret ?_
  exact Bq f1c U3d ⟨A6a,c7a,rfl,n4d⟩
theorem c_nat_multiplied__nat_Gcd_1__nil (x0:Nat) (x1:Nat) (A1:OA) (c2:Nat) (A4:OA) (c5:Nat) (w:World) (hT:TB w) (n3:RU w A1 c2 x0) (n6:RU w A4 c5 x1) (r:Nat × Int) (hr:Dx x0 x1=some r) :
  Calls prog 242 #[.slice A1 (sz x0) c2,.slice A4 (sz x1) c5,.agg #[.func (.func 243) #[] #[],.nilFunc]] w (Ret ND w r):=by
 unfold Dx at hr
 obtain ⟨q0,hq0,hr0⟩:=Ac hr
 unfold EQ at hq0
 go_enter_defers func242,ntmps242
 refine ws fun h7=>Ai<|sbx rfl rfl fun b8 w1 E9 g0e q1c=>?_
 refine sV (Ab rfl) ?_
 refine sal LH fun b2c w2 E0b g3c q4c=>?_
 have g5c:=nlt E9.size g3c
 have X1b:=xtr E9 E0b
 refine nx h7 fun h6c=>Kp (vs:=[.pointer (some ⟨b2c,0,none⟩)]) (by rfl) (by rfl)<|nx h6c fun h7c=>sV2 (Aa rfl) (Aa rfl) ?_
 refine DY (vals:=[(0,.slice A1 (sz x0) c2),(1,.slice A4 (sz x1) c5)]) (cs:=[.slice A1 (sz x0) c2,.slice A4 (sz x1) c5]) NQ QC zt_23 (by rfl) (by decide) (by kernel_rfl) fun b2b w3 E3a g8c q3b=>?_
 refine nrm ?_
 have g1e:=nlt X1b.size g8c
 have X0a:=xtr X1b E3a
 rcases BF hq0 with ⟨r4a,h5a,f9c⟩ | ⟨r4a,h5a,rfl⟩
 ·refine scO (Ad PY (by rfl)) (KZ x0 x1 b2b A1 c2 A4 c5 w3 (tbx X0a hT) (n3.ext X0a) (n6.ext X0a) q3b (.ok r4a) h5a) ?_
  rintro _ w4 E1a rfl
  refine nrm ?_
  have X2a:=xtr X0a E1a
  refine nx h7c fun h0d=>sV (Ag (o':=0) fa_252_0 rfl rfl) ?_
  have q1d:=((q1c.ext E0b).ext E3a).ext E1a
  refine sV3 (Ah fl_249 rfl (Bx.cell q1d rfl)) (Aa rfl) (Aa rfl) ?_
  refine scn f9c (Kg (first:=[]) (cap:=[]) (args:=[.slice A1 (sz x0) c2,.slice A4 (sz x1) c5]) en_243 (by rfl) (by rfl)) (c_nat_Gcd_1 x0 x1 A1 c2 A4 c5 w4 (tbx X2a hT) (n3.ext X2a) (n6.ext X2a)) fun r4b f2d w5 A5b c6b E7b n8b=>?_
  have X6a:=xtr X2a E7b
  rcases BF f2d with ⟨r7a,h8a,f3d⟩ | ⟨r7a,h8a,rfl⟩
  ·refine scO (Ad Rh (by rfl)) (MB r4b A5b c6b w5 (tbx X6a hT) n8b (.ok r7a) h8a) ?_
   rintro _ w6 E9a ⟨A4d,c5d,rfl,n6d⟩
   refine nrm ?_
   have X7d:=xtr X6a E9a
   refine sV (Ab rfl) ?_
   have q9b:=(((q4c.ext E3a).ext E1a).ext E7b).ext E9a
   refine ss Jr q9b fun w7 U0c q8d=>?_
   have X9d:=belU X7d U0c g5c
   refine wh h0d<|wp_ret ?_
   obtain rfl:=sj f3d
   obtain rfl:=sj hr0
   exact finD1 idle_nat_caught en_222 rfl (Res.tmp rfl (Res.cell1 rfl DQ (Bx.cell q8d rfl) Res.nil)) (Bg X9d ⟨A4d,c5d,rfl,(n6d.upd U0c q9b (by decide))⟩)
  ·refine scP (Ad Rh (by rfl)) (MB r4b A5b c6b w5 (tbx X6a hT) n8b (.error r7a) h8a) fun w6 E9a=>?_
   cases hr0
 ·refine scP (Ad PY (by rfl)) (KZ x0 x1 b2b A1 c2 A4 c5 w3 (tbx X0a hT) (n3.ext X0a) (n6.ext X0a) q3b (.error r4a) h5a) fun w4 E1a=>?_
  cases hr0
theorem c_nat_Gcd (x0:Nat) (x1:Nat) (A1:OA) (c2:Nat) (A4:OA) (c5:Nat) (w:World) (hT:TB w) (n3:RU w A1 c2 x0) (n6:RU w A4 c5 x1) (r:Nat × Int) (hr:Kw x0 x1=some r) :
  Calls prog 209 #[.slice A1 (sz x0) c2,.slice A4 (sz x1) c5] w (Ret ND w r):=by
 unfold Kw at hr
 go_enter func209,ntmps209
 refine ws fun h7=>Ai<|sV2 (Ab rfl) (Ab rfl) ?_
 refine nx h7 fun h8=>sV3 (Aa rfl) (Aa rfl) (AR (vals:=[(0,.func (.func 243) #[] #[])]) (cells:=[.func (.func 243) #[] #[],.nilFunc]) (by rfl) (by kernel_rfl)) ?_
 refine scn hr (Ad en_242 (by rfl)) (c_nat_multiplied__nat_Gcd_1__nil x0 x1 A1 c2 A4 c5 w hT n3 n6) fun r9 f0a w1 A1a c2a E3a n4a=>?_
 refine sV3 (Aw rfl rfl) (Aw rfl rfl) (Ab rfl) ?_
 refine sV (Ab rfl) ?_
 refine wh h8<|wp_ret ?_
 exact IJ f0a rfl (Res.tmp rfl (Res.tmp rfl Res.nil)) (Bg E3a ⟨A1a,c2a,rfl,n4a⟩)
theorem LD (x0:Et) (A1:OA) (c2:Nat) (A4:OA) (c5:Nat) (w:World) (hT:TB w) (n3:RLu w A1 c2 x0.Num.Abs) (n6:RLu w A4 c5 x0.Den) (r:Bool) (hr:DP x0=some r) :
  Calls prog 141 #[.agg #[.bool x0.Num.Neg,.slice A1 x0.Num.Abs.length c2,.slice A4 x0.Den.length c5]] w (Ret Gc w r):=by
 unfold DP at hr
 go_enter func141,ntmps141
 refine ws fun h7=>Ai<|sbx rfl rfl fun b8 w1 E9 g5i q4a=>?_
 refine sV (Ab rfl) ?_
 refine wh h7<|ws fun h0e=>ws fun h1e=>Ai<|sV2 (Ag (o':=0) HC rfl rfl) (dld GK q4a) ?_
 refine scr hr (Ad Pc (by rfl)) (Km x0.Num A1 c2 w1 (tbx E9 hT) (n3.ext E9)) fun r6i f2e w2 E5a=>?_
 have X8a:=xtr E9 E5a
 refine sbl (Fj rfl) fun z7b hz7b=>?_
 refine sV (Aa rfl) ?_
 obtain ⟨m3e,h4e,f5e⟩:=Ac f2e
 refine Bw 10 (fun l l' w'=>∃(t8b:Value) (t9b:Value) (t0c:Value) (t1c:Value),UpdS [] w2 w'∧l'=(((((l.set 10 t8b).set 11 t9b).set 12 t0c).set 13 t1c).set 14 (.bool m3e))) ?_ ?_
 ·intro HJ39
  rcases zi hz7b h4e with ⟨e0a,_,f6e⟩ | ⟨e0a,_,f7e⟩
  ·refine sQ rfl e0a ?_
   refine sQ rfl e0a ?_
   refine sQ rfl e0a ?_
   refine sQ rfl e0a ?_
   refine sV (Aq (evb rfl e0a) rfl) ?_
   obtain rfl:=sj f6e
   exact HJ39 _ _ ⟨uu,uu,uu,uu,(UpdS.refl _ _),(by kernel_rfl)⟩
  ·refine sV (Ag (o':=2) HS rfl rfl) ?_ (hw:=wgT rfl e0a)
   refine sV (Ah BM rfl (Bx.cell (q4a.ext E5a) rfl)) ?_ (hw:=wgT rfl e0a)
   refine scr f7e (Ad Pj (by rfl)) (Jj x0.Den A4 c5 w2 (tbx X8a hT) (n6.ext X8a)) (fun r0b f8e w3 E9e=>?_) (hw:=wgT rfl e0a)
   refine sbl (Fj rfl) (fun z1b hz1b=>?_) (hw:=wgT rfl e0a)
   refine sV (Av (evb rfl e0a) rfl) ?_
   obtain rfl:z1b=decide (¬(r0b=true)):=bz hz1b
   obtain rfl:=sj f8e
   exact HJ39 _ _ ⟨(.pointer (some ⟨b8,2,none⟩)),(.slice A4 x0.Den.length c5),(.bool r0b),(.bool (decide (¬(r0b=true)))),((UpdS.refl _ _).ext E9e),(by kernel_rfl)⟩
 ·rintro l' w3 ⟨t8b,t9b,t0c,t1c,U9a,rfl⟩ l'' hl
  simp only [S0,S1] at hl;subst hl
  have X6a:=GM X8a U9a (X8a).size al0
  refine sV (Aa rfl) ?_
  obtain ⟨m0f,h1f,f2f⟩:=Ac f5e
  refine Bw 16 (fun l l' w'=>∃(t2c:Value) (t3c:Value) (t4c:Value) (t5c:Value),w3=w'∧l'=(((((l.set 16 t2c).set 17 t3c).set 18 t4c).set 19 t5c).set 20 (.bool m0f))) ?_ ?_
  ·intro HJ66
   rcases zb h1f with ⟨e1a,f3f⟩ | ⟨e1a,f4f⟩
   ·refine sQ rfl e1a ?_
    refine sQ rfl e1a ?_
    refine sQ rfl e1a ?_
    refine sQ rfl e1a ?_
    refine sV (Aq (evb rfl e1a) rfl) ?_
    obtain rfl:=sj f3f
    exact HJ66 _ _ ⟨uu,uu,uu,uu,rfl,(by kernel_rfl)⟩
   ·refine sV (Ag (o':=2) HS rfl rfl) ?_ (hw:=wgT rfl e1a)
    refine sV (Ah BM rfl (Bx.cell ((q4a.ext E5a).updS U9a nm0) rfl)) ?_ (hw:=wgT rfl e1a)
    refine sV (Az AJ rfl) ?_ (hw:=wgT rfl e1a)
    refine sbl (BD rfl rfl) (fun z2b hz2b=>?_) (hw:=wgT rfl e1a)
    refine sV (Av (evb rfl e1a) rfl) ?_
    obtain rfl:z2b=decide ((x0.Den.length:Int)=0):=bz hz2b
    obtain rfl:=sj f4f
    exact HJ66 _ _ ⟨(.pointer (some ⟨b8,2,none⟩)),(.slice A4 x0.Den.length c5),(.int .i64 (x0.Den.length:Int)),(.bool (decide ((x0.Den.length:Int)=0))),rfl,(by kernel_rfl)⟩
  ·rintro l' _ ⟨t2c,t3c,t4c,t5c,rfl,rfl⟩ l'' hl
   simp only [S0,S1] at hl;subst hl
   refine wh h1e ?_
   rcases zb f2f with ⟨e3b,f5f⟩ | ⟨e3b,f6f⟩
   ·refine ct e3b<|ws fun h7f=>Ai<|sV (Ab rfl) ?_
    refine wh h7f<|wp_ret ?_
    exact Bq f5f X6a rfl
   ·refine cf e3b<|wp_skip<|h0e _ _<|ws fun h8f=>Ai<|sV3 (Ag (o':=0) HC rfl rfl) (Ag (o':=1) BA rfl rfl) (Ah BM rfl (Bx.cell ((q4a.ext E5a).updS U9a nm0) rfl)) ?_
    refine sV2 (Ag (o':=2) HS rfl rfl) (Ah BM rfl (Bx.cell ((q4a.ext E5a).updS U9a nm0) rfl)) ?_
    obtain ⟨m6c,h9f,f0g⟩:=Ac f6f
    have hx7c:=Bs h9f
    have n1g:RU w3 A1 c2 m6c:=by unfold RU;rw [hx7c];exact (n3.ext X6a)
    obtain ⟨m8c,h2g,f3g⟩:=Ac f0g
    have hx9c:=Bs h2g
    have n4g:RU w3 A4 c5 m8c:=by unfold RU;rw [hx9c];exact (n6.ext X6a)
    refine scn f3g (Ad en_209 (by simp only [sz,hx7c,hx9c];rfl)) (c_nat_Gcd m6c m8c A1 c2 A4 c5 w3 (tbx X6a hT) n1g n4g) fun r7a f5g w4 A0d c1d E6g n7g=>?_
    have X8g:=xtr X6a E6g
    refine sV3 (Aa rfl) (Aw rfl rfl) (Aw rfl rfl) ?_
    refine sV2 (Ab rfl) (Ab rfl) ?_
    refine nx h8f fun h9g=>sV (Aa rfl) ?_
    refine sbl (BD rfl rfl) fun z2d hz2d=>?_
    refine sV (Aa rfl) ?_
    obtain ⟨m0h,h1h,f2h⟩:=Ac f5g
    refine Bw 7 (fun l l' w'=>∃(t3d:Value) (t4d:Value) (t5d:Value),w4=w'∧l'=((((l.set 33 t3d).set 34 t4d).set 35 t5d).set 36 (.bool m0h))) ?_ ?_
    ·intro HJ118
     rcases zi hz2d h1h with ⟨e3a,_,f3h⟩ | ⟨e3a,_,f4h⟩
     ·refine sV (Aa rfl) ?_ (hw:=wgT rfl e3a)
      refine sV (Az AJ rfl) ?_ (hw:=wgT rfl e3a)
      refine sbl (BD rfl rfl) (fun z4b hz4b=>?_) (hw:=wgT rfl e3a)
      refine sV (Aq (evb rfl e3a) rfl) ?_
      obtain rfl:z4b=decide ((sz r7a.1:Int)=1):=bz hz4b
      obtain rfl:=sj f3h
      exact HJ118 _ _ ⟨(.slice A0d (sz r7a.1) c1d),(.int .i64 (sz r7a.1:Int)),(.bool (decide ((sz r7a.1:Int)=1))),rfl,(by kernel_rfl)⟩
     ·refine sQ rfl e3a ?_
      refine sQ rfl e3a ?_
      refine sQ rfl e3a ?_
      refine sV (Av (evb rfl e3a) rfl) ?_
      obtain rfl:=sj f4h
      exact HJ118 _ _ ⟨uu,uu,uu,rfl,(by kernel_rfl)⟩
    ·rintro l' _ ⟨t3d,t4d,t5d,rfl,rfl⟩ l'' hl
     simp only [S0,S1] at hl;subst hl
     refine sV (Aa rfl) ?_
     obtain ⟨m5h,h6h,f7h⟩:=Ac f2h
     refine Bw 13 (fun l l' w'=>∃(t6d:Value) (t7d:Value) (t8d:Value) (t9d:Value),w4=w'∧l'=(((((l.set 38 t6d).set 39 t7d).set 40 t8d).set 41 t9d).set 42 (.bool m5h))) ?_ ?_
     ·intro HJ149
      rcases zb h6h with ⟨e2a,f8h⟩ | ⟨e2a,f9h⟩
      ·refine sV (Aa rfl) ?_ (hw:=wgT rfl e2a)
       obtain ⟨u5b,h0i,f1i⟩:=Ac f8h
       obtain ⟨bb158,oo159,hA2i,ia3i,ib4i,hc161⟩:=RL.nth n7g h0i
       refine sV (As AJ Ao rfl rfl hA2i ia3i ib4i) ?_ (hw:=wgT rfl e2a)
       refine sV (Ah AP rfl hc161) ?_ (hw:=wgT rfl e2a)
       refine sbl (BD rfl rfl) (fun z6b hz6b=>?_) (hw:=wgT rfl e2a)
       refine sV (Aq (evb rfl e2a) rfl) ?_
       obtain rfl:z6b=decide (u5b=1):=bz hz6b
       obtain rfl:=sj f1i
       exact HJ149 _ _ ⟨(.slice A0d (sz r7a.1) c1d),(.pointer (some ⟨bb158,oo159+(0:Int).toNat,none⟩)),(.int .u32 u5b),(.bool (decide (u5b=1))),rfl,(by kernel_rfl)⟩
      ·refine sQ rfl e2a ?_
       refine sQ rfl e2a ?_
       refine sQ rfl e2a ?_
       refine sQ rfl e2a ?_
       refine sV (Av (evb rfl e2a) rfl) ?_
       obtain rfl:=sj f9h
       exact HJ149 _ _ ⟨uu,uu,uu,uu,rfl,(by kernel_rfl)⟩
     ·rintro l' _ ⟨t6d,t7d,t8d,t9d,rfl,rfl⟩ l'' hl
      simp only [S0,S1] at hl;subst hl
      refine sV (Ab rfl) ?_
      refine wh h9g<|wp_ret ?_
      exact Bq f7h X8g rfl
theorem Mn (x0:BG) (A1:OA) (c2:Nat) (A4:OA) (c5:Nat) (w:World) (hT:TB w) (n3:RU w A1 c2 x0.Num.Abs) (n6:RU w A4 c5 x0.Den) (r:Al × Al) (hr:HT x0=some r) :
  Calls prog 142 #[.agg #[.bool x0.Num.Neg,.slice A1 (sz x0.Num.Abs) c2,.slice A4 (sz x0.Den) c5]] w (Ret rep_119_119 w r):=by
 unfold HT at hr
 go_enter func142,ntmps142
 refine ws fun h7=>Ai<|sbx rfl rfl fun b8 w1 E9 g8e q9b=>?_
 refine sal AQ fun b9e w2 E2b g0c q3b=>?_
 have g1c:=nlt E9.size g0c
 have X4b:=xtr E9 E2b
 refine sal AQ fun b0f w3 E6a g5b q2c=>?_
 have g3c:=nlt X4b.size g5b
 have X4c:=xtr X4b E6a
 refine wh h7<|ws fun h5c=>DD [8,9] 10 mo rfl fun w4 E1a S7a=>have X8a:=xtr X4c E1a;dA 0 rfl (fun _=>Ag (o':=0) HC rfl rfl) ?_
 have q6b:=((q9b.ext E2b).ext E6a).ext E1a
 refine dV 1 rfl (fun _ hw=>dld GK (q6b.ext hw)) S7a ?_
 refine dA 4 rfl (fun _=>Ag (o':=2) HS rfl rfl) ?_
 refine dV 5 rfl (fun _ hw=>Ah BM rfl (Bx.cell (q6b.ext hw) rfl)) S7a ?_
 refine dA 6 rfl (fun _=>AR (vals:=[(1,.slice A4 (sz x0.Den) c5)]) (cells:=[.bool false,.slice A4 (sz x0.Den) c5]) (by rfl) (by kernel_rfl)) ?_
 refine dcn hr 2 rfl (by rfl) (Ad OO (by rfl)) (Lh x0.Num A1 c2 w4 (tbx X8a hT) (n3.ext X8a)) fun r6c f7c w5 A8c c9c E2a n0d=>?_
 have X7b:=xtr X8a E2a
 have S1d:=S7a.trans E2a
 refine dcn f7c 3 rfl (by rfl) (Ad LP (by rfl)) (GI r6c 0 A8c c9c w5 (tbx X7b hT) n0d) fun r1f f2d w6 A3d c4d E3a n5d=>?_
 have X9a:=xtr X7b E3a
 have S6d:=S1d.trans E3a
 refine dcn f2d 7 rfl (by rfl) (Ad LP (by rfl)) (GI (⟨false,x0.Den⟩:Af) 0 A4 c5 w6 (tbx X9a hT) (n6.ext X9a)) fun r2f f7d w7 A8d c9d E0a n0e=>?_
 have X1e:=xtr X9a E0a
 have S3f:=S6d.trans E0a
 have q0b:=((((q3b.ext E6a).ext E1a).ext E2a).ext E3a).ext E0a
 refine dkk 8 Ca q0b fun w8 U4a q2e=>?_
 have X3e:=belU X1e U4a g1c
 have ne8b:=(Bx.ne q3b g5b).symm
 have q1b:=((((q2c.ext E1a).ext E2a).ext E3a).ext E0a).upd U4a ne8b
 refine dkk 9 Ca q1b fun w9 U5a q4e=>?_
 have X5e:=belU X3e U5a g3c
 refine CI (by kernel_rfl) ?_
 refine h5c _ _<|wp_ret ?_
 have n6e:=((n5d.ext E0a).upd U4a q0b (by decide)).upd U5a q1b (by decide)
 have n7e:=(n0e.upd U4a q0b (by decide)).upd U5a q1b (by decide)
 exact IJ f7d rfl (Res.cellN rfl Ay (q2e.upd U5a (Ne.symm ne8b)) rfl rfl (Res.cellN rfl Ay q4e rfl rfl Res.nil)) (Bg X5e ⟨A3d,c4d,A8d,c9d,rfl,n6e,n7e⟩)
theorem HP (x0:Et) (A1:OA) (c2:Nat) (A4:OA) (c5:Nat) (w:World) (hT:TB w) (n3:RLu w A1 c2 x0.Num.Abs) (n6:RLu w A4 c5 x0.Den) (r:Bool) (hr:DN x0=some r) :
  Calls prog 57 #[.agg #[.bool x0.Num.Neg,.slice A1 x0.Num.Abs.length c2,.slice A4 x0.Den.length c5]] w (Ret Gc w r):=by
 unfold DN at hr
 go_enter func57,ntmps57
 refine ws fun h7=>Ai<|sbx rfl rfl fun b8 w1 E9 g6g q2a=>?_
 refine sV (Ab rfl) ?_
 refine wh h7<|ws fun h7c=>ws fun h8c=>Ai<|sV2 (Ag (o':=0) HC rfl rfl) (dld GK q2a) ?_
 refine scr hr (Ad RK (by rfl)) (Iv x0.Num A1 c2 w1 (tbx E9 hT) (n3.ext E9)) fun r7g f9c w2 E3a=>?_
 have X5a:=xtr E9 E3a
 refine sbl (Fj rfl) fun z1b hz1b=>?_
 refine sV (Aa rfl) ?_
 obtain ⟨m0d,h1d,f2d⟩:=Ac f9c
 refine Bw 10 (fun l l' w'=>∃(t2b:Value) (t3b:Value) (t4b:Value) (t5b:Value),UpdS [] w2 w'∧l'=(((((l.set 8 t2b).set 9 t3b).set 10 t4b).set 11 t5b).set 12 (.bool m0d))) ?_ ?_
 ·intro HJ39
  rcases zi hz1b h1d with ⟨e0a,_,f3d⟩ | ⟨e0a,_,f4d⟩
  ·refine sQ rfl e0a ?_
   refine sQ rfl e0a ?_
   refine sQ rfl e0a ?_
   refine sQ rfl e0a ?_
   refine sV (Aq (evb rfl e0a) rfl) ?_
   obtain rfl:=sj f3d
   exact HJ39 _ _ ⟨uu,uu,uu,uu,(UpdS.refl _ _),(by kernel_rfl)⟩
  ·refine sV (Ag (o':=2) HS rfl rfl) ?_ (hw:=wgT rfl e0a)
   refine sV (Ah BM rfl (Bx.cell (q2a.ext E3a) rfl)) ?_ (hw:=wgT rfl e0a)
   refine scr f4d (Ad Qj (by rfl)) (GF x0.Den A4 c5 w2 (tbx X5a hT) (n6.ext X5a)) (fun r7a f5d w3 E6d=>?_) (hw:=wgT rfl e0a)
   refine sbl (Fj rfl) (fun z8a hz8a=>?_) (hw:=wgT rfl e0a)
   refine sV (Av (evb rfl e0a) rfl) ?_
   obtain rfl:z8a=decide (¬(r7a=true)):=bz hz8a
   obtain rfl:=sj f5d
   exact HJ39 _ _ ⟨(.pointer (some ⟨b8,2,none⟩)),(.slice A4 x0.Den.length c5),(.bool r7a),(.bool (decide (¬(r7a=true)))),((UpdS.refl _ _).ext E6d),(by kernel_rfl)⟩
 ·rintro _ w3 ⟨t2b,t3b,t4b,t5b,U6a,rfl⟩ _ rfl
  have X4a:=GM X5a U6a (X5a).size al0
  refine sV (Aa rfl) ?_
  obtain ⟨m7d,h8d,f9d⟩:=Ac f2d
  refine Bw 16 (fun l l' w'=>∃(t6b:Value) (t7b:Value) (t8b:Value) (t9b:Value),w3=w'∧l'=(((((l.set 14 t6b).set 15 t7b).set 16 t8b).set 17 t9b).set 18 (.bool m7d))) ?_ ?_
  ·intro HJ66
   rcases zb h8d with ⟨e1a,f0e⟩ | ⟨e1a,f1e⟩
   ·refine sQ rfl e1a ?_
    refine sQ rfl e1a ?_
    refine sQ rfl e1a ?_
    refine sQ rfl e1a ?_
    refine sV (Aq (evb rfl e1a) rfl) ?_
    obtain rfl:=sj f0e
    exact HJ66 _ _ ⟨uu,uu,uu,uu,rfl,(by kernel_rfl)⟩
   ·refine sV (Ag (o':=2) HS rfl rfl) ?_ (hw:=wgT rfl e1a)
    refine sV (Ah BM rfl (Bx.cell ((q2a.ext E3a).updS U6a nm0) rfl)) ?_ (hw:=wgT rfl e1a)
    refine sV (Az AJ rfl) ?_ (hw:=wgT rfl e1a)
    refine sbl (BD rfl rfl) (fun z9a hz9a=>?_) (hw:=wgT rfl e1a)
    refine sV (Av (evb rfl e1a) rfl) ?_
    obtain rfl:z9a=decide ((x0.Den.length:Int)=0):=bz hz9a
    obtain rfl:=sj f1e
    exact HJ66 _ _ ⟨(.pointer (some ⟨b8,2,none⟩)),(.slice A4 x0.Den.length c5),(.int .i64 (x0.Den.length:Int)),(.bool (decide ((x0.Den.length:Int)=0))),rfl,(by kernel_rfl)⟩
  ·rintro _ _ ⟨t6b,t7b,t8b,t9b,rfl,rfl⟩ _ rfl
   refine wh h8c ?_
   rcases zb f9d with ⟨e0b,f2e⟩ | ⟨e0b,f3e⟩
   ·refine ct e0b<|ws fun h4e=>Ai<|sV (Ab rfl) ?_
    refine wh h4e<|wp_ret ?_
    exact Bq f2e X4a rfl
   ·refine cf e0b<|wp_skip<|h7c _ _<|ws fun h5e=>Ai<|sV3 (Ag (o':=0) HC rfl rfl) (Ag (o':=1) BA rfl rfl) (Ah BM rfl (Bx.cell ((q2a.ext E3a).updS U6a nm0) rfl)) ?_
    refine sV2 (Ag (o':=2) HS rfl rfl) (Ah BM rfl (Bx.cell ((q2a.ext E3a).updS U6a nm0) rfl)) ?_
    obtain ⟨m0c,h6e,f7e⟩:=Ac f3e
    have hx1c:=Bs h6e
    have n8e:RU w3 A1 c2 m0c:=by unfold RU;rw [hx1c];exact (n3.ext X4a)
    obtain ⟨m2c,h9e,f0f⟩:=Ac f7e
    have hx3c:=Bs h9e
    have n1f:RU w3 A4 c5 m2c:=by unfold RU;rw [hx3c];exact (n6.ext X4a)
    refine scn f0f (Ad QK (by simp only [sz,hx1c,hx3c];rfl)) (JP m0c m2c A1 c2 A4 c5 w3 (tbx X4a hT) n8e n1f) fun r2f f3f w4 A4f c5f E6f n7f=>?_
    have X4c:=xtr X4a E6f
    refine scn f3f (Ad Ms (by rfl)) (Fx w4 (tbx X4c hT)) fun r8f f9f w5 A0g c1g E5c n2g=>?_
    have X6c:=xtr X4c E5c
    refine scr f9f (Ad OQ (by rfl)) (FZ (limbs r2f) (limbs r8f) A4f c5f A0g c1g w5 (tbx X6c hT) (n7f.ext E5c) n2g) fun r8g f3g w6 E4g=>?_
    have X5g:=xtr X6c E4g
    refine sV (Ab rfl) ?_
    refine wh h5e<|wp_ret ?_
    exact Bq f3g X5g rfl
theorem k_dyad_caught_int (b b':Nat) (v0:Value) (u:Value) (n:Int) {w:World} (qa:Bx w b 3 [v0]) (qb:Bx w b' 33 [u]) :
  CallsD prog 119 #[.pointer (some ⟨b,0,none⟩),.pointer (some ⟨b',0,none⟩)] (.panicking [entry 201 n]) w fun e u' w'=>e = .returned (.tuple #[])∧u' = .panicking [{ entry 201 n with recovered:=true }]∧(Upd2 b b' w w'∧Bx w' b 3 [.int .i64 0]∧Bx w' b' 33 [.int .i64 n]):=by
 refine KN func119 rfl [.pointer (some ⟨b,0,none⟩),.pointer (some ⟨b',0,none⟩),uu,uu,uu,uu,uu,uu,uu,uu,uu,uu,uu,uu,uu,uu,uu,uu,uu,uu,uu,uu,uu,uu,uu,uu] (by simp [ntmps119]) fun c₀ cs hu=>?_
 apply wpS_seq
 refine Ry hu rfl ?_
 simp only [S0,S1]
 refine wpS_of_wp<|ws fun h1=>Ai<|sV2 (Aa rfl) (Mb Ml rfl) ?_
 refine wh h1<|ct rfl<|ws fun h2=>Ai<|sV3 (Aa rfl) (Ly Nc rfl) (Aa rfl) ?_
 refine sV2 (Aw rfl rfl) (Aw rfl rfl) ?_
 refine sal NT fun b3 w1 E4 g5 q6=>?_
 have X7:=(Upd2.refl b b' w).ext E4
 refine ss Oi q6 fun w2 U8 q9=>?_
 have X7a:=X7.upd U8 (.inl g5)
 refine sV (Ab rfl) ?_
 refine wh h2<|ws fun h8a=>ws fun h9a=>Ai<|sV2 (Aa rfl) (Mq rfl rfl rfl) ?_
 refine wh h9a<|cf rfl<|wp_skip<|h8a _ _<|ws fun h0b=>Ai<|sV (Ab rfl) ?_
 refine wh h0b<|DD [6,8] 9 mo rfl fun w3 E0a S2c=>have X1b:=X7a.ext E0a;dA 0 rfl (fun _=>Aa rfl) ?_
 refine dA2 1 2 rfl rfl (fun _=>Aa rfl) (fun _=>Aa rfl) ?_
 refine dA2 3 5 rfl rfl (fun _=>Ag (o':=0) LU rfl rfl) (fun _=>BO rfl) ?_
 refine GZ (tb 9 127) 2 (fun l l' w'=>UpdS [b] w3 w'∧Bx w' b 3 [.int .i64 0]∧l'=(l.set 23 (.int .i64 n))) ?_ ?_
 ·intro HJ31
  refine Gv 4 6 (by kernel_rfl) ?_ ?_
  ·refine opV 4 rfl (by rfl) (Ah DQ rfl (Bx.cell (q9.ext E0a) rfl)) (dnrm ?_)
   refine Cp 6 (by kernel_rfl) ?_
   ·have F2b:=belU E4 U8 g5
    refine opK 6 rfl (by decide) (by rfl) Rw rfl rfl ((qa.ext F2b).ext E0a) rfl rfl rfl rfl (by simp only [SP0,SP1,S0,S1,Nat.reduceAdd];rfl) fun w4 U3b q4b=>?_
    exact dls (HJ31 _ _ ⟨((UpdS.refl _ _).upd U3b (.inl im0)),q4b,(by kernel_rfl)⟩)
  ·have F2a:=belU E4 U8 g5
   refine opK 6 rfl (by decide) (by rfl) Rw rfl rfl ((qa.ext F2a).ext E0a) rfl rfl rfl rfl (by simp only [SP0,SP1,S0,S1,Nat.reduceAdd];rfl) fun w4 U3a q5b=>?_
   refine Cp 4 (by kernel_rfl) ?_
   ·have ne6b:=(Bx.neT (q9.ext E0a) ((qa.ext F2a).ext E0a) (by decide))
    refine opV 4 rfl (by rfl) (Ah DQ rfl (Bx.cell ((q9.ext E0a).upd U3a ne6b) rfl)) (dnrm ?_)
    exact dls (HJ31 _ _ ⟨((UpdS.refl _ _).upd U3a (.inl im0)),q5b,(by kernel_rfl)⟩)
 ·rintro _ w4 ⟨U4a,q7b,rfl⟩ _ rfl
  have X8b:=X1b.updS U4a (alc (.inr (.inl rfl)) al0)
  refine dA 7 rfl (fun _=>BO rfl) ?_
  have F1a:=belU E4 U8 g5
  have ne5a:=(Bx.neT ((qb.ext F1a).ext E0a) ((qa.ext F1a).ext E0a) (by decide))
  have q9b:=((qb.ext F1a).ext E0a).updS U4a (nmc ne5a nm0)
  refine dkk 8 Jr q9b fun w5 U6a q0c=>?_
  have X1c:=X8b.upd U6a (.inr (.inr rfl))
  refine CI (by kernel_rfl) ?_
  exact Rz (by kernel_rfl) ⟨rfl,rfl,X1c,(q7b.upd U6a (Ne.symm ne5a)),q0c⟩
theorem Jt:Rf prog 119:=by
 intro ar b b' w ha
 subst ha
 refine KN func119 rfl [.pointer (some ⟨b,0,none⟩),.pointer (some ⟨b',0,none⟩),uu,uu,uu,uu,uu,uu,uu,uu,uu,uu,uu,uu,uu,uu,uu,uu,uu,uu,uu,uu,uu,uu,uu,uu] (by simp [ntmps119]) fun c₀ cs hu=>?_
 apply wpS_seq
 refine QF hu rfl ?_
 simp only [S0,S1]
 refine wpS_of_wp<|ws fun h1=>Ai<|sV2 (Aa rfl) (KB Ml rfl) ?_
 refine wh h1<|cf rfl<|wp_skip ?_
 exact QX hu (by kernel_rfl) ⟨rfl,rfl,rfl⟩
theorem HX (x0:Ae) (x1:BG) (A1:OA) (c2:Nat) (A4:OA) (c5:Nat) (A7:OA) (c8:Nat) (w:World) (hT:TB w) (n3:RU w A1 c2 x0.Man.Abs) (n6:RU w A4 c5 x1.Num.Abs) (n9:RU w A7 c8 x1.Den) (r:Int) (hr:BY x0 x1=some r) :
  Calls prog 84 #[.agg #[.bool x0.Man.Neg,.slice A1 (sz x0.Man.Abs) c2,.int .i64 x0.Exp],.agg #[.bool x1.Num.Neg,.slice A4 (sz x1.Num.Abs) c5,.slice A7 (sz x1.Den) c8]] w (Ret Gl w r):=by
 unfold BY at hr
 go_enter func84,ntmps84
 refine ws fun h9a=>Ai<|sbx rfl rfl fun b6c w1 E4a g7c q0b=>?_
 refine sbx rfl rfl fun b8c w2 E5a g1b q2b=>?_
 have g9c:=nlt E4a.size g1b
 have X3b:=xtr E4a E5a
 refine sV (Ab rfl) ?_
 refine wh h9a<|ws fun h4b=>DD [] 5 mo rfl fun w3 E1a S2a=>have X3a:=xtr X3b E1a;dV 0 rfl (fun _ hw=>Ak AH rfl (((q0b.ext E5a).ext E1a).ext hw) rfl) S2a ?_
 refine dV 2 rfl (fun _ hw=>Ak HW rfl ((q2b.ext E1a).ext hw) rfl) S2a ?_
 obtain ⟨r6a,h5b,f6b⟩:=Ac hr
 refine dc 1 rfl (by kernel_rfl) (by rfl) (Ad en_67 (by rfl)) (c_sorobanref04_Value x0 A1 c2 w3 (tbx X3a hT) (n3.ext X3a) r6a h5b) ?_
 rintro _ w4 E7a ⟨A7b,c8b,A9b,c0c,rfl,n1c,n2c⟩
 refine dnrm ?_
 have X0a:=xtr X3a E7a
 have S3c:=S2a.trans E7a
 refine dcr f6b 3 rfl (by rfl) (Ad en_99 (by rfl)) (c_sorobanref03_Compare r6a x1 A7b c8b A9b c0c A4 c5 A7 c8 w4 (tbx X0a hT) n1c n2c (n6.ext X0a) (n9.ext X0a)) fun r0d f4c w5 E8a=>?_
 have X5c:=xtr X0a E8a
 have S1d:=S3c.trans E8a
 refine dA 4 rfl (fun _=>Ab rfl) ?_
 refine CI (by kernel_rfl) ?_
 refine h4b _ _<|wp_ret ?_
 exact Bq f4c X5c rfl
theorem c_dyad_Hull_1 (x0:An) (x1:An) (x2:Int) (A1:OA) (c2:Nat) (A4:OA) (c5:Nat) (A7:OA) (c8:Nat) (A7a:OA) (c8a:Nat) (w:World) (hT:TB w) (n3:RU w A1 c2 x0.lo.m.Abs) (n6:RU w A4 c5 x0.hi.m.Abs) (n9:RU w A7 c8 x1.lo.m.Abs) (n0d:RU w A7a c8a x1.hi.m.Abs) (r:Except Int (Aj)) (hr:GJ x0 x1 x2=some r) :
  Calls prog 164 #[.agg #[.bool x0.lo.m.Neg,.slice A1 (sz x0.lo.m.Abs) c2,.int .i64 x0.lo.e,.bool x0.hi.m.Neg,.slice A4 (sz x0.hi.m.Abs) c5,.int .i64 x0.hi.e],.agg #[.bool x1.lo.m.Neg,.slice A7 (sz x1.lo.m.Abs) c8,.int .i64 x1.lo.e,.bool x1.hi.m.Neg,.slice A7a (sz x1.hi.m.Abs) c8a,.int .i64 x1.hi.e],.int .i64 x2] w (RetE 201 JT w r):=by
 unfold GJ at hr
 go_enter func164,ntmps164
 refine ws fun h2f=>Ai<|sbx rfl rfl fun b6a w1 E1d g2b q2d=>?_
 refine sbx rfl rfl fun b3d w2 E4d g5d q1c=>?_
 have g0j:=nlt E1d.size g5d
 have X6d:=xtr E1d E4d
 refine sal Fo fun b1j w3 E9a g3f q7d=>?_
 have g4f:=nlt X6d.size g3f
 have X3b:=xtr X6d E9a
 refine wh h2f<|ws fun h5f=>ws fun h6f=>Ai<|sV2 (Ag (o':=0) Da rfl rfl) (dld Ay (q1c.ext E9a)) ?_
 have q4b:=(q2d.ext E4d).ext E9a
 refine sV2 (Ag (o':=0) Da rfl rfl) (dld Ay q4b) ?_
 refine scr hr (Ad HZ (by rfl)) (BZ x1.lo x0.lo A7 c8 A1 c2 w3 (tbx X3b hT) (n9.ext X3b) (n3.ext X3b)) fun r2j f7f w4 E2a=>?_
 have X5b:=xtr X3b E2a
 refine sbl (Cu rfl rfl) fun z8d hz8d=>?_
 refine wh h6f ?_
 obtain ⟨m0a,h8f,f9f⟩:=Ac f7f
 refine BJ (fun l l' w'=>∃(t9d:Value) (t0e:Value) (t1e:Value) (A3a:OA) (c4a:Nat),UpdS [b6a] w4 w'∧Bx w' b6a 121 [.bool m0a.1,.slice A3a (sz m0a.2.1) c4a,.int .i64 m0a.2.2,.bool x0.hi.m.Neg,.slice A4 (sz x0.hi.m.Abs) c5,.int .i64 x0.hi.e]∧RU w' A3a c4a m0a.2.1∧l'=(((l.set 13 t9d).set 14 t0e).set 15 t1e)) ?_ ?_
 ·rcases zi hz8d h8f with ⟨e2c,_,f0g⟩ | ⟨e2c,_,f1g⟩
  ·refine ct e2c<|Ai<|sV2 (Ag (o':=0) Da rfl rfl) (dld Ay ((q1c.ext E9a).ext E2a)) ?_
   refine sV (Ag (o':=0) Da rfl rfl) ?_
   have q2g:=q4b.ext E2a
   refine ss Ca q2g fun w5 U2e q3g=>?_
   have X4g:=belU X5b U2e g2b
   refine AE ?_
   obtain rfl:=sj f0g
   exact ⟨_,rfl,(.pointer (some ⟨b3d,0,none⟩)),(.agg #[.bool x1.lo.m.Neg,.slice A7 (sz x1.lo.m.Abs) c8,.int .i64 x1.lo.e]),(.pointer (some ⟨b6a,0,none⟩)),A7,c8,((UpdS.refl _ _).upd U2e (.inl im0)),q3g,(n9.ext X4g),(by kernel_rfl)⟩
  ·refine cf e2c<|wp_skip ?_
   have q5g:=q4b.ext E2a
   obtain rfl:=sj f1g
   exact ⟨_,rfl,uu,uu,uu,A1,c2,(UpdS.refl _ _),q5g,(n3.ext X5b),(by kernel_rfl)⟩
 ·rintro _ w5 ⟨t9d,t0e,t1e,A3a,c4a,U3c,q6b,n6g,rfl⟩ _ rfl
  have X7b:=GM X5b U3c (X5b).size (alc g2b al0)
  refine h5f _ _<|ws fun h7g=>ws fun h8g=>Ai<|sV (Ag (o':=3) Dj rfl rfl) ?_
  have ne9g:=(Bx.ne q2d g5d).symm
  have q3e:=((q1c.ext E9a).ext E2a).updS U3c (nmc ne9g nm0)
  refine sV (dld Ay q3e) ?_
  refine sV2 (Ag (o':=3) Dj rfl rfl) (dld Ay q6b) ?_
  refine scr f9f (Ad HZ (by rfl)) (BZ x1.hi x0.hi A7a c8a A4 c5 w5 (tbx X7b hT) (n0d.ext X7b) (n6.ext X7b)) fun r3j f0h w6 E5a=>?_
  have X8b:=xtr X7b E5a
  refine sbl (ES rfl rfl) fun z4e hz4e=>?_
  refine wh h8g ?_
  obtain ⟨m1a,h1h,f2h⟩:=Ac f0h
  refine BJ (fun l l' w'=>∃(t5e:Value) (t6e:Value) (t7e:Value) (A0b:OA) (c1b:Nat),UpdS [b6a] w6 w'∧Bx w' b6a 121 [.bool m0a.1,.slice A3a (sz m0a.2.1) c4a,.int .i64 m0a.2.2,.bool m1a.1,.slice A0b (sz m1a.2.1) c1b,.int .i64 m1a.2.2]∧RU w' A0b c1b m1a.2.1∧l'=(((l.set 22 t5e).set 23 t6e).set 24 t7e)) ?_ ?_
  ·rcases zi hz4e h1h with ⟨e4c,_,f3h⟩ | ⟨e4c,_,f4h⟩
   ·refine ct e4c<|Ai<|sV2 (Ag (o':=3) Dj rfl rfl) (dld Ay (q3e.ext E5a)) ?_
    refine sV (Ag (o':=3) Dj rfl rfl) ?_
    refine ss Ca (q6b.ext E5a) fun w7 U8e q5h=>?_
    have X6h:=belU X8b U8e g2b
    refine AE ?_
    obtain rfl:=sj f3h
    exact ⟨_,rfl,(.pointer (some ⟨b3d,3,none⟩)),(.agg #[.bool x1.hi.m.Neg,.slice A7a (sz x1.hi.m.Abs) c8a,.int .i64 x1.hi.e]),(.pointer (some ⟨b6a,3,none⟩)),A7a,c8a,((UpdS.refl _ _).upd U8e (.inl im0)),q5h,(n0d.ext X6h),(by kernel_rfl)⟩
   ·refine cf e4c<|wp_skip ?_
    obtain rfl:=sj f4h
    exact ⟨_,rfl,uu,uu,uu,A4,c5,(UpdS.refl _ _),(q6b.ext E5a),(n6.ext X8b),(by kernel_rfl)⟩
  ·rintro _ w7 ⟨t5e,t6e,t7e,A0b,c1b,U5c,q7h,n9e,rfl⟩ _ rfl
   have X9b:=GM X8b U5c (X8b).size (alc g2b al0)
   refine h7g _ _<|ws fun h8h=>Ai<|sV (Ak Kl rfl q7h rfl) ?_
   have n0f:RU w7 A3a c4a m0a.2.1:=(n6g.ext E5a).updS U5c (alc ⟨_,_,by decide,q6b.ext E5a⟩ al0)
   rcases BF f2h with ⟨r6c,h7c,f9h⟩ | ⟨r6c,h7c,rfl⟩
   ·refine scO (Ad IR (by rfl)) (Cg (⟨(⟨(⟨m0a.1,m0a.2.1⟩:Af),m0a.2.2⟩:Al),(⟨(⟨m1a.1,m1a.2.1⟩:Af),m1a.2.2⟩:Al)⟩:An) A3a c4a A0b c1b w7 (tbx X9b hT) n0f n9e (.ok r6c) h7c) ?_
    rintro _ w8 E0c ⟨A0i,c1i,A2i,c3i,rfl,n4i,n5i⟩
    refine nrm ?_
    have X6i:=xtr X9b E0c
    have ne1f:=(Bx.neT (q7d.ext E2a) (q4b.ext E2a) (by decide))
    have q8c:=((((q7d.ext E2a).updS U3c (nmc ne1f nm0)).ext E5a).updS U5c (nmc ne1f nm0)).ext E0c
    refine ss EM q8c fun w9 U9c q7i=>?_
    have X8i:=belU X6i U9c g4f
    refine wh h8h<|wp_ret ?_
    exact IJ f9h rfl (Res.cellN rfl Bk q7i rfl rfl Res.nil) (GD X8i ⟨A0i,c1i,A2i,c3i,rfl,(n4i.upd U9c q8c (by decide)),(n5i.upd U9c q8c (by decide))⟩)
   ·refine scP (Ad IR (by rfl)) (Cg (⟨(⟨(⟨m0a.1,m0a.2.1⟩:Af),m0a.2.2⟩:Al),(⟨(⟨m1a.1,m1a.2.1⟩:Af),m1a.2.2⟩:Al)⟩:An) A3a c4a A0b c1b w7 (tbx X9b hT) n0f n9e (.error r6c) h7c) fun w8 E0c=>?_
    have X9i:=xtr X9b E0c
    exact ⟨rfl,DI X9i⟩
theorem c_dyad_made_Span__dyad_Hull_1 (x0:Am) (x1:Am) (x2:Int) (A1:OA) (c2:Nat) (A4:OA) (c5:Nat) (A7:OA) (c8:Nat) (A0a:OA) (c1a:Nat) (w:World) (hT:TB w) (n3:RLu w A1 c2 x0.Lo.Man.Abs) (n6:RLu w A4 c5 x0.Hi.Man.Abs) (n9:RLu w A7 c8 x1.Lo.Man.Abs) (n2a:RLu w A0a c1a x1.Hi.Man.Abs) (r:Aj × Int) (hr:Eg x0 x1 x2=some r) :
  Calls prog 100 #[.agg #[.bool x0.Lo.Man.Neg,.slice A1 x0.Lo.Man.Abs.length c2,.int .i64 x0.Lo.Exp,.bool x0.Hi.Man.Neg,.slice A4 x0.Hi.Man.Abs.length c5,.int .i64 x0.Hi.Exp],.agg #[.bool x1.Lo.Man.Neg,.slice A7 x1.Lo.Man.Abs.length c8,.int .i64 x1.Lo.Exp,.bool x1.Hi.Man.Neg,.slice A0a x1.Hi.Man.Abs.length c1a,.int .i64 x1.Hi.Exp],.int .i64 x2,.func (.func 164) #[] #[]] w (Ret Gh w r):=Nh GJ en_164 c_dyad_Hull_1 x0 x1 x2 A1 c2 A4 c5 A7 c8 A0a c1a w hT n3 n6 n9 n2a r hr
theorem c_dyad_Hull (x0:Am) (x1:Am) (A1:OA) (c2:Nat) (A4:OA) (c5:Nat) (A7:OA) (c8:Nat) (A2a:OA) (c3a:Nat) (w:World) (hT:TB w) (n3:RLu w A1 c2 x0.Lo.Man.Abs) (n6:RLu w A4 c5 x0.Hi.Man.Abs) (n9:RLu w A7 c8 x1.Lo.Man.Abs) (n0b:RLu w A2a c3a x1.Hi.Man.Abs) (r:Aj × Int) (hr:GC x0 x1=some r) :
  Calls prog 74 #[.agg #[.bool x0.Lo.Man.Neg,.slice A1 x0.Lo.Man.Abs.length c2,.int .i64 x0.Lo.Exp,.bool x0.Hi.Man.Neg,.slice A4 x0.Hi.Man.Abs.length c5,.int .i64 x0.Hi.Exp],.agg #[.bool x1.Lo.Man.Neg,.slice A7 x1.Lo.Man.Abs.length c8,.int .i64 x1.Lo.Exp,.bool x1.Hi.Man.Neg,.slice A2a x1.Hi.Man.Abs.length c3a,.int .i64 x1.Hi.Exp]] w (Ret Gh w r):=by
 unfold GC at hr
 go_enter func74,ntmps74
 refine ws fun h1b=>Ai<|sbx rfl rfl fun b2d w1 E7a g3d q2b=>?_
 refine sbx rfl rfl fun b4d w2 E8a g3b q4b=>?_
 have g5d:=nlt E7a.size g3b
 have X9a:=xtr E7a E8a
 refine sal Fo fun b6d w3 E4a g5b q5a=>?_
 have g6b:=nlt X9a.size g5b
 have X0a:=xtr X9a E4a
 refine sV (Ab rfl) ?_
 refine nx h1b fun h7b=>sV2 (Ak Bk rfl ((q2b.ext E8a).ext E4a) rfl) (Ak Bk rfl (q4b.ext E4a) rfl) ?_
 obtain ⟨r8b,h9b,f0c⟩:=Ac hr
 refine sc (Ad MV (by rfl)) (c_dyad_made_Span__dyad_Hull_1 x0 x1 1 A1 c2 A4 c5 A7 c8 A2a c3a w3 (tbx X0a hT) (n3.ext X0a) (n6.ext X0a) (n9.ext X0a) (n0b.ext X0a) r8b h9b) ?_
 rintro _ w4 E1a ⟨A1c,c2c,A3c,c4c,rfl,n5c,n6c⟩
 refine nrm ?_
 have X7c:=xtr X0a E1a
 refine sV2 (Aw rfl rfl) (Aw rfl rfl) ?_
 refine ss EM (q5a.ext E1a) fun w5 U6a q8c=>?_
 have X9c:=belU X7c U6a g6b
 refine sV (Ab rfl) ?_
 refine wh h7b<|wp_ret ?_
 have n0d:=n5c.upd U6a (q5a.ext E1a) (by decide)
 have n1d:=n6c.upd U6a (q5a.ext E1a) (by decide)
 exact IJ f0c rfl (Res.cellN rfl Bk q8c rfl rfl (Res.tmp rfl Res.nil)) (Bg X9c ⟨A1c,c2c,A3c,c4c,rfl,n0d,n1d⟩)
theorem c_dyad_Meet_1 (x0:An) (x1:An) (x2:Int) (A1:OA) (c2:Nat) (A4:OA) (c5:Nat) (A7:OA) (c8:Nat) (A6a:OA) (c9a:Nat) (w:World) (hT:TB w) (n3:RU w A1 c2 x0.lo.m.Abs) (n6:RU w A4 c5 x0.hi.m.Abs) (n9:RU w A7 c8 x1.lo.m.Abs) (n0e:RU w A6a c9a x1.hi.m.Abs) (r:Except Int (Aj)) (hr:ET x0 x1 x2=some r) :
  Calls prog 165 #[.agg #[.bool x0.lo.m.Neg,.slice A1 (sz x0.lo.m.Abs) c2,.int .i64 x0.lo.e,.bool x0.hi.m.Neg,.slice A4 (sz x0.hi.m.Abs) c5,.int .i64 x0.hi.e],.agg #[.bool x1.lo.m.Neg,.slice A7 (sz x1.lo.m.Abs) c8,.int .i64 x1.lo.e,.bool x1.hi.m.Neg,.slice A6a (sz x1.hi.m.Abs) c9a,.int .i64 x1.hi.e],.int .i64 x2] w (RetE 201 JT w r):=by
 unfold ET at hr
 go_enter func165,ntmps165
 refine ws fun h1g=>Ai<|sbx rfl rfl fun b0b w1 E1e g4b q2e=>?_
 refine sbx rfl rfl fun b3e w2 E4e g5e q4c=>?_
 have g2k:=nlt E1e.size g5e
 have X6e:=xtr E1e E4e
 refine sal Fo fun b3k w3 E3b g2g q7e=>?_
 have g3g:=nlt X6e.size g2g
 have X5b:=xtr X6e E3b
 refine wh h1g<|ws fun h4g=>ws fun h5g=>Ai<|sV2 (Ag (o':=0) Da rfl rfl) (dld Ay (q4c.ext E3b)) ?_
 have q6b:=(q2e.ext E4e).ext E3b
 refine sV2 (Ag (o':=0) Da rfl rfl) (dld Ay q6b) ?_
 refine scr hr (Ad HZ (by rfl)) (BZ x1.lo x0.lo A7 c8 A1 c2 w3 (tbx X5b hT) (n9.ext X5b) (n3.ext X5b)) fun r4k f6g w4 E3a=>?_
 have X7b:=xtr X5b E3a
 refine sbl (ES rfl rfl) fun z8e hz8e=>?_
 refine wh h5g ?_
 obtain ⟨m0a,h7g,f8g⟩:=Ac f6g
 refine BJ (fun l l' w'=>∃(t9e:Value) (t0f:Value) (t1f:Value) (A4a:OA) (c5a:Nat),UpdS [b0b] w4 w'∧Bx w' b0b 121 [.bool m0a.1,.slice A4a (sz m0a.2.1) c5a,.int .i64 m0a.2.2,.bool x0.hi.m.Neg,.slice A4 (sz x0.hi.m.Abs) c5,.int .i64 x0.hi.e]∧RU w' A4a c5a m0a.2.1∧l'=(((l.set 13 t9e).set 14 t0f).set 15 t1f)) ?_ ?_
 ·rcases zi hz8e h7g with ⟨e5c,_,f9g⟩ | ⟨e5c,_,f0h⟩
  ·refine ct e5c<|Ai<|sV2 (Ag (o':=0) Da rfl rfl) (dld Ay ((q4c.ext E3b).ext E3a)) ?_
   refine sV (Ag (o':=0) Da rfl rfl) ?_
   have q1h:=q6b.ext E3a
   refine ss Ca q1h fun w5 U2f q2h=>?_
   have X3h:=belU X7b U2f g4b
   refine AE ?_
   obtain rfl:=sj f9g
   exact ⟨_,rfl,(.pointer (some ⟨b3e,0,none⟩)),(.agg #[.bool x1.lo.m.Neg,.slice A7 (sz x1.lo.m.Abs) c8,.int .i64 x1.lo.e]),(.pointer (some ⟨b0b,0,none⟩)),A7,c8,((UpdS.refl _ _).upd U2f (.inl im0)),q2h,(n9.ext X3h),(by kernel_rfl)⟩
  ·refine cf e5c<|wp_skip ?_
   have q4h:=q6b.ext E3a
   obtain rfl:=sj f0h
   exact ⟨_,rfl,uu,uu,uu,A1,c2,(UpdS.refl _ _),q4h,(n3.ext X7b),(by kernel_rfl)⟩
 ·rintro _ w5 ⟨t9e,t0f,t1f,A4a,c5a,U6c,q8b,n5h,rfl⟩ _ rfl
  have X9b:=GM X7b U6c (X7b).size (alc g4b al0)
  refine h4g _ _<|ws fun h6h=>ws fun h7h=>Ai<|sV (Ag (o':=3) Dj rfl rfl) ?_
  have ne8h:=(Bx.ne q2e g5e).symm
  have q3f:=((q4c.ext E3b).ext E3a).updS U6c (nmc ne8h nm0)
  refine sV (dld Ay q3f) ?_
  refine sV2 (Ag (o':=3) Dj rfl rfl) (dld Ay q8b) ?_
  refine scr f8g (Ad HZ (by rfl)) (BZ x1.hi x0.hi A6a c9a A4 c5 w5 (tbx X9b hT) (n0e.ext X9b) (n6.ext X9b)) fun r5k f9h w6 E7a=>?_
  have X0c:=xtr X9b E7a
  refine sbl (Cu rfl rfl) fun z4f hz4f=>?_
  refine wh h7h ?_
  obtain ⟨m1a,h0i,f1i⟩:=Ac f9h
  refine BJ (fun l l' w'=>∃(t5f:Value) (t6f:Value) (t7f:Value) (A1b:OA) (c2b:Nat),UpdS [b0b] w6 w'∧Bx w' b0b 121 [.bool m0a.1,.slice A4a (sz m0a.2.1) c5a,.int .i64 m0a.2.2,.bool m1a.1,.slice A1b (sz m1a.2.1) c2b,.int .i64 m1a.2.2]∧RU w' A1b c2b m1a.2.1∧l'=(((l.set 22 t5f).set 23 t6f).set 24 t7f)) ?_ ?_
  ·rcases zi hz4f h0i with ⟨e7c,_,f2i⟩ | ⟨e7c,_,f3i⟩
   ·refine ct e7c<|Ai<|sV2 (Ag (o':=3) Dj rfl rfl) (dld Ay (q3f.ext E7a)) ?_
    refine sV (Ag (o':=3) Dj rfl rfl) ?_
    refine ss Ca (q8b.ext E7a) fun w7 U8f q4i=>?_
    have X5i:=belU X0c U8f g4b
    refine AE ?_
    obtain rfl:=sj f2i
    exact ⟨_,rfl,(.pointer (some ⟨b3e,3,none⟩)),(.agg #[.bool x1.hi.m.Neg,.slice A6a (sz x1.hi.m.Abs) c9a,.int .i64 x1.hi.e]),(.pointer (some ⟨b0b,3,none⟩)),A6a,c9a,((UpdS.refl _ _).upd U8f (.inl im0)),q4i,(n0e.ext X5i),(by kernel_rfl)⟩
   ·refine cf e7c<|wp_skip ?_
    obtain rfl:=sj f3i
    exact ⟨_,rfl,uu,uu,uu,A4,c5,(UpdS.refl _ _),(q8b.ext E7a),(n6.ext X0c),(by kernel_rfl)⟩
  ·rintro _ w7 ⟨t5f,t6f,t7f,A1b,c2b,U8c,q9c,n0d,rfl⟩ _ rfl
   have X9f:=GM X0c U8c (X0c).size (alc g4b al0)
   refine h6h _ _<|ws fun h6i=>Ai<|sV2 (Ag (o':=0) Da rfl rfl) (dld Ay q9c) ?_
   refine sV2 (Ag (o':=3) Dj rfl rfl) (dld Ay q9c) ?_
   have n1d:RU w7 A4a c5a m0a.2.1:=(n5h.ext E7a).updS U8c (alc ⟨_,_,by decide,q8b.ext E7a⟩ al0)
   refine scr f1i (Ad HZ (by rfl)) (BZ (⟨(⟨m0a.1,m0a.2.1⟩:Af),m0a.2.2⟩:Al) (⟨(⟨m1a.1,m1a.2.1⟩:Af),m1a.2.2⟩:Al) A4a c5a A1b c2b w7 (tbx X9f hT) n1d n0d) fun r2d f7i w8 E8a=>?_
   have X1c:=xtr X9f E8a
   refine sbl (GL rfl rfl) fun z3d hz3d=>?_
   obtain rfl:z3d=decide (r2d≤0):=bz hz3d
   rcases BF f7i with ⟨r4d,h5d,f8i⟩ | ⟨r4d,h5d,rfl⟩
   ·refine scO (Ad Er (by rfl)) (Bb (decide (r2d≤0)) 5 w8 (tbx X1c hT)  (.ok r4d) h5d) ?_
    rintro _ w9 E2a rfl
    refine nrm ?_
    have X2c:=xtr X1c E2a
    refine nx h6i fun h9i=>sV (Ak Kl rfl ((q9c.ext E8a).ext E2a) rfl) ?_
    rcases BF f8i with ⟨r6d,h7d,f0j⟩ | ⟨r6d,h7d,rfl⟩
    ·refine scO (Ad IR (by rfl)) (Cg (⟨(⟨(⟨m0a.1,m0a.2.1⟩:Af),m0a.2.2⟩:Al),(⟨(⟨m1a.1,m1a.2.1⟩:Af),m1a.2.2⟩:Al)⟩:An) A4a c5a A1b c2b w9 (tbx X2c hT) ((n1d.ext E8a).ext E2a) ((n0d.ext E8a).ext E2a) (.ok r6d) h7d) ?_
     rintro _ w6a E3c ⟨A1j,c2j,A3j,c4j,rfl,n5j,n6j⟩
     refine nrm ?_
     have X7j:=xtr X2c E3c
     have ne0g:=(Bx.neT (q7e.ext E3a) (q6b.ext E3a) (by decide))
     have q8d:=((((((q7e.ext E3a).updS U6c (nmc ne0g nm0)).ext E7a).updS U8c (nmc ne0g nm0)).ext E8a).ext E2a).ext E3c
     refine ss EM q8d fun w9a U9d q8j=>?_
     have X9j:=belU X7j U9d g3g
     refine wh h9i<|wp_ret ?_
     exact IJ f0j rfl (Res.cellN rfl Bk q8j rfl rfl Res.nil) (GD X9j ⟨A1j,c2j,A3j,c4j,rfl,(n5j.upd U9d q8d (by decide)),(n6j.upd U9d q8d (by decide))⟩)
    ·refine scP (Ad IR (by rfl)) (Cg (⟨(⟨(⟨m0a.1,m0a.2.1⟩:Af),m0a.2.2⟩:Al),(⟨(⟨m1a.1,m1a.2.1⟩:Af),m1a.2.2⟩:Al)⟩:An) A4a c5a A1b c2b w9 (tbx X2c hT) ((n1d.ext E8a).ext E2a) ((n0d.ext E8a).ext E2a) (.error r6d) h7d) fun w6a E3c=>?_
     have X0k:=xtr X2c E3c
     exact ⟨rfl,DI X0k⟩
   ·refine scP (Ad Er (by rfl)) (Bb (decide (r2d≤0)) 5 w8 (tbx X1c hT)  (.error r4d) h5d) fun w9 E2a=>?_
    have X1k:=xtr X1c E2a
    exact ⟨rfl,DI X1k⟩
end Go.Proofs

