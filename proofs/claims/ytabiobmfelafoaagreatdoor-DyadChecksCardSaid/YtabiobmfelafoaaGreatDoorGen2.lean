import Derived.Test.YtabiobmfelafoaaGreatDoorGen1
namespace Go.Proofs
set_option linter.unusedVariables false
set_option linter.unusedSimpArgs false
set_option maxHeartbeats 4000000
open Go.RowKit Go.Sb Go.Proofs.Sbn
theorem c_sorobanref03_AddInt (x0:Ai) (x1:Ai) (A1:Option Addr) (c2:Nat) (A4:Option Addr) (c5:Nat) (w:World) (hT:TB w) (n3:RU w A1 c2 x0.Abs) (n6:RU w A4 c5 x1.Abs) (r:Ai) (hr:EN x0 x1=some r) :
  Calls Tryz.prog 129 #[.agg #[.bool x0.Neg,.slice A1 (sz x0.Abs) c2],.agg #[.bool x1.Neg,.slice A4 (sz x1.Abs) c5]] w (Ret IH w r):=by
 unfold EN at hr
 go_enter Tryz.func129,Tryz.ntmps129
 refine wp_seq_k fun K7 h7=>Af<|BH rfl rfl fun b8 w1 E9 g6k q3a=>?_
 refine nrm ?_
 refine BH rfl rfl fun b7k w2 E2a g9e q4a=>?_
 refine nrm ?_
 have g8k:=nlt E9.size g9e
 have X7c:=xtr E9 E2a
 refine Aw IE fun b9k w3 E0a g0f q9b=>?_
 refine nrm ?_
 have g0c:=nlt X7c.size g0f
 have X5a:=xtr X7c E0a
 refine Ad<|h7 _ _<|wp_seq_k fun K8c h8c=>wp_seq_k fun K9c h9c=>Af<|sV (Ag (o':=0) Et rfl rfl) ?_
 refine sV (Ah Gf rfl (Bx.cell ((q3a.ext E2a).ext E0a) rfl)) ?_
 refine sV (Ag (o':=0) Et rfl rfl) ?_
 refine sV (Ah Gf rfl (Bx.cell (q4a.ext E0a) rfl)) ?_
 refine sb (MB Mx rfl rfl) fun z1b hz1b=>?_
 refine nrm ?_
 refine Ad<|h9c _ _ ?_
 rcases bft z1b with e6a | e6a
 ·have p1f:=zP hz1b e6a
  have f2f:=ifP p1f hr
  refine wp_cond_true (Aj (evb rfl e6a))<|wp_seq_k fun K0d h0d=>DH [8] 9 mo rfl fun w4 E7a S2b=>have X3b:=xtr X5a E7a;dA 0 rfl (fun _=>Ag (o':=0) Et rfl rfl) ?_
  refine dV 1 rfl (fun _ hw=>Ah Gf rfl (Bx.cell ((((q3a.ext E2a).ext E0a).ext E7a).ext hw) rfl)) S2b ?_
  refine dA 2 rfl (fun _=>Ag (o':=1) BB rfl rfl) ?_
  refine dV 3 rfl (fun _ hw=>Ah Dp rfl (Bx.cell ((((q3a.ext E2a).ext E0a).ext E7a).ext hw) rfl)) S2b ?_
  refine dA 4 rfl (fun _=>Ag (o':=1) BB rfl rfl) ?_
  refine dV 5 rfl (fun _ hw=>Ah Dp rfl (Bx.cell (((q4a.ext E0a).ext E7a).ext hw) rfl)) S2b ?_
  obtain ⟨r1d,h3f,f4f⟩:=Ab f2f
  refine dc 6 rfl (by kernel_rfl) (by rfl) (Ae en_189 (by rfl)) (GJ x0.Abs x1.Abs A1 c2 A4 c5 w4 (tbx X3b hT) (n3.ext X3b) (n6.ext X3b) r1d h3f) ?_
  rintro _ w5 E1c ⟨A5f,c6f,rfl,n7f⟩
  refine dnrm ?_
  have X2d:=xtr X3b E1c
  have S8f:=S2b.trans E1c
  obtain ⟨r9f,h0g,f1g⟩:=Ab f4f
  refine dc 7 rfl (by kernel_rfl) (by rfl) (Ae JL (by rfl)) (CF x0.Neg r1d A5f c6f w5 (tbx X2d hT) n7f r9f h0g) ?_
  rintro _ w6 E2c ⟨A2g,c3g,rfl,n4g⟩
  refine dnrm ?_
  have X5g:=xtr X2d E2c
  have S0l:=S8f.trans E2c
  have q3d:=((q9b.ext E7a).ext E1c).ext E2c
  refine dk 8 rfl (by kernel_rfl) (by decide) (by rfl) GY rfl rfl q3d rfl rfl rfl rfl (by simp only [SP0,SP1,S0,S1,Nat.reduceAdd];rfl) fun w7 U4d q6g=>?_
  have X7g:=AV X5g U4d g0c
  refine Ct (by kernel_rfl) ?_
  refine h0d _ _<|wp_ret ?_
  obtain rfl:=sj f1g
  exact fin rfl (Res.cellN rfl DK q6g rfl rfl Res.nil) (Al X7g ⟨A2g,c3g,rfl,(n4g.upd U4d q3d (by decide))⟩)
 ·have p8g:=zN hz1b e6a
  have f9g:=ifN p8g hr
  refine wp_cond_false (Aj (evb rfl e6a))<|wp_skip<|h8c _ _<|wp_seq_k fun K5d h5d=>wp_seq_k fun K6d h6d=>Af<|sV (Ag (o':=1) BB rfl rfl) ?_
  refine sV (Ah Dp rfl (Bx.cell ((q3a.ext E2a).ext E0a) rfl)) ?_
  refine sV (Ag (o':=1) BB rfl rfl) ?_
  refine sV (Ah Dp rfl (Bx.cell (q4a.ext E0a) rfl)) ?_
  obtain ⟨r0h,h1h,f7d⟩:=Ab f9g
  refine sc (Ae MK (by rfl)) (FH x0.Abs x1.Abs A1 c2 A4 c5 w3 (tbx X5a hT) (n3.ext X5a) (n6.ext X5a) r0h h1h) ?_
  rintro _ w4 E1a rfl
  refine nrm ?_
  have X8d:=xtr X5a E1a
  refine sb (Fh rfl rfl) fun z4b hz4b=>?_
  refine nrm ?_
  refine Ad<|h6d _ _ ?_
  rcases bft z4b with e8a | e8a
  ·have p2h:=zP hz4b e8a
   have f3h:=ifP p2h f7d
   refine wp_cond_true (Aj (evb rfl e8a))<|wp_seq_k fun K9d h9d=>DH [8] 9 mo rfl fun w5 E9a S5b=>have X6b:=xtr X8d E9a;dA 0 rfl (fun _=>Ag (o':=0) Et rfl rfl) ?_
   refine dV 1 rfl (fun _ hw=>Ah Gf rfl (Bx.cell (((((q3a.ext E2a).ext E0a).ext E1a).ext E9a).ext hw) rfl)) S5b ?_
   refine dA 2 rfl (fun _=>Ag (o':=1) BB rfl rfl) ?_
   refine dV 3 rfl (fun _ hw=>Ah Dp rfl (Bx.cell (((((q3a.ext E2a).ext E0a).ext E1a).ext E9a).ext hw) rfl)) S5b ?_
   refine dA 4 rfl (fun _=>Ag (o':=1) BB rfl rfl) ?_
   refine dV 5 rfl (fun _ hw=>Ah Dp rfl (Bx.cell ((((q4a.ext E0a).ext E1a).ext E9a).ext hw) rfl)) S5b ?_
   obtain ⟨r0e,h4h,f5h⟩:=Ab f3h
   refine dc 6 rfl (by kernel_rfl) (by rfl) (Ae Np (by rfl)) (FI x0.Abs x1.Abs A1 c2 A4 c5 w5 (tbx X6b hT) (n3.ext X6b) (n6.ext X6b) r0e h4h) ?_
   rintro _ w6 E3c ⟨A6h,c7h,rfl,n8h⟩
   refine dnrm ?_
   have X1e:=xtr X6b E3c
   have S9h:=S5b.trans E3c
   obtain ⟨r0i,h1i,f2i⟩:=Ab f5h
   refine dc 7 rfl (by kernel_rfl) (by rfl) (Ae JL (by rfl)) (CF x0.Neg r0e A6h c7h w6 (tbx X1e hT) n8h r0i h1i) ?_
   rintro _ w7 E4c ⟨A3i,c4i,rfl,n5i⟩
   refine dnrm ?_
   have X6i:=xtr X1e E4c
   have S1l:=S9h.trans E4c
   have q2e:=(((q9b.ext E1a).ext E9a).ext E3c).ext E4c
   refine dk 8 rfl (by kernel_rfl) (by decide) (by rfl) GY rfl rfl q2e rfl rfl rfl rfl (by simp only [SP0,SP1,S0,S1,Nat.reduceAdd];rfl) fun w8 U3e q7i=>?_
   have X8i:=AV X6i U3e g0c
   refine Ct (by kernel_rfl) ?_
   refine h9d _ _<|wp_ret ?_
   obtain rfl:=sj f2i
   exact fin rfl (Res.cellN rfl DK q7i rfl rfl Res.nil) (Al X8i ⟨A3i,c4i,rfl,(n5i.upd U3e q2e (by decide))⟩)
  ·have p9i:=zN hz4b e8a
   have f0j:=ifN p9i f7d
   refine wp_cond_false (Aj (evb rfl e8a))<|wp_skip<|h5d _ _<|wp_seq_k fun K4e h4e=>DH [8] 9 mo rfl fun w5 E0b S7b=>have X8b:=xtr X8d E0b;dA 0 rfl (fun _=>Ag (o':=0) Et rfl rfl) ?_
   refine dV 1 rfl (fun _ hw=>Ah Gf rfl (Bx.cell ((((q4a.ext E0a).ext E1a).ext E0b).ext hw) rfl)) S7b ?_
   refine dA 2 rfl (fun _=>Ag (o':=1) BB rfl rfl) ?_
   refine dV 3 rfl (fun _ hw=>Ah Dp rfl (Bx.cell ((((q4a.ext E0a).ext E1a).ext E0b).ext hw) rfl)) S7b ?_
   refine dA 4 rfl (fun _=>Ag (o':=1) BB rfl rfl) ?_
   refine dV 5 rfl (fun _ hw=>Ah Dp rfl (Bx.cell (((((q3a.ext E2a).ext E0a).ext E1a).ext E0b).ext hw) rfl)) S7b ?_
   obtain ⟨r5e,h1j,f2j⟩:=Ab f0j
   refine dc 6 rfl (by kernel_rfl) (by rfl) (Ae Np (by rfl)) (FI x1.Abs x0.Abs A4 c5 A1 c2 w5 (tbx X8b hT) (n6.ext X8b) (n3.ext X8b) r5e h1j) ?_
   rintro _ w6 E5c ⟨A3j,c4j,rfl,n5j⟩
   refine dnrm ?_
   have X6e:=xtr X8b E5c
   have S6j:=S7b.trans E5c
   obtain ⟨r7j,h8j,f9j⟩:=Ab f2j
   refine dc 7 rfl (by kernel_rfl) (by rfl) (Ae JL (by rfl)) (CF x1.Neg r5e A3j c4j w6 (tbx X6e hT) n5j r7j h8j) ?_
   rintro _ w7 E6c ⟨A0k,c1k,rfl,n2k⟩
   refine dnrm ?_
   have X3k:=xtr X6e E6c
   have S2l:=S6j.trans E6c
   have q7e:=(((q9b.ext E1a).ext E0b).ext E5c).ext E6c
   refine dk 8 rfl (by kernel_rfl) (by decide) (by rfl) GY rfl rfl q7e rfl rfl rfl rfl (by simp only [SP0,SP1,S0,S1,Nat.reduceAdd];rfl) fun w8 U8e q4k=>?_
   have X5k:=AV X3k U8e g0c
   refine Ct (by kernel_rfl) ?_
   refine h4e _ _<|wp_ret ?_
   obtain rfl:=sj f9j
   exact fin rfl (Res.cellN rfl DK q4k rfl rfl Res.nil) (Al X5k ⟨A0k,c1k,rfl,(n2k.upd U8e q7e (by decide))⟩)
theorem c_sorobanref04_Sum (x0:Ak) (x1:Ak) (A1:Option Addr) (c2:Nat) (A4:Option Addr) (c5:Nat) (w:World) (hT:TB w) (n3:RU w A1 c2 x0.Man.Abs) (n6:RU w A4 c5 x1.Man.Abs) (r:Ak) (hr:Dw x0 x1=some r) :
  Calls Tryz.prog 46 #[.agg #[.bool x0.Man.Neg,.slice A1 (sz x0.Man.Abs) c2,.int .i64 x0.Exp],.agg #[.bool x1.Man.Neg,.slice A4 (sz x1.Man.Abs) c5,.int .i64 x1.Exp]] w (Ret KW w r):=by
 unfold Dw at hr
 go_enter Tryz.func46,Tryz.ntmps46
 refine wp_seq_k fun K7 h7=>Af<|BH rfl rfl fun b8 w1 E9 g0i q3a=>?_
 refine nrm ?_
 refine BH rfl rfl fun b1i w2 E1a g7d q4a=>?_
 refine nrm ?_
 have g2i:=nlt E9.size g7d
 have X8a:=xtr E9 E1a
 refine Aw GB fun b3i w3 E0a g2b q3b=>?_
 refine nrm ?_
 have g8d:=nlt X8a.size g2b
 have X9d:=xtr X8a E0a
 refine Ad<|h7 _ _<|wp_seq_k fun K9b h9b=>wp_seq_k fun K0c h0c=>Af<|sV (Ag (o':=0) DM rfl rfl) ?_
 refine sV (Ag (o':=1) BB rfl rfl) ?_
 refine sV (Ah Dp rfl (Bx.cell ((q3a.ext E1a).ext E0a) rfl)) ?_
 refine sV (AF AJ rfl) ?_
 refine sb (Cc rfl rfl) fun z9a hz9a=>?_
 refine nrm ?_
 refine Ad<|h0c _ _ ?_
 rcases bft z9a with e5a | e5a
 ·have p0e:=zP hz9a e5a
  have f1e:=ifP p0e hr
  refine wp_cond_true (Aj (evb rfl e5a))<|wp_seq_k fun K1c h1c=>Af<|sV (Am BC rfl (q4a.ext E0a) rfl) ?_
  refine Ay EU rfl rfl q3b rfl rfl rfl rfl (by simp only [SP0,SP1,S0,S1,Nat.reduceAdd];rfl) fun w4 U2e q3e=>?_
  have F4e:=AV E0a U2e g2b
  have X2c:=xtr X8a F4e
  refine Ad<|h1c _ _<|wp_ret ?_
  obtain rfl:=sj f1e
  exact fin rfl (Res.cellN rfl BC q3e rfl rfl Res.nil) (Al X2c ⟨A4,c5,rfl,(n6.ext X2c)⟩)
 ·have p5e:=zN hz9a e5a
  have f3c:=ifN p5e hr
  refine wp_cond_false (Aj (evb rfl e5a))<|wp_skip<|h9b _ _<|wp_seq_k fun K4c h4c=>wp_seq_k fun K5c h5c=>Af<|sV (Ag (o':=0) DM rfl rfl) ?_
  refine sV (Ag (o':=1) BB rfl rfl) ?_
  refine sV (Ah Dp rfl (Bx.cell (q4a.ext E0a) rfl)) ?_
  refine sV (AF AJ rfl) ?_
  refine sb (Cc rfl rfl) fun z0b hz0b=>?_
  refine nrm ?_
  refine Ad<|h5c _ _ ?_
  rcases bft z0b with e6a | e6a
  ·have p6e:=zP hz0b e6a
   have f7e:=ifP p6e f3c
   refine wp_cond_true (Aj (evb rfl e6a))<|wp_seq_k fun K6c h6c=>Af<|sV (Am BC rfl ((q3a.ext E1a).ext E0a) rfl) ?_
   refine Ay EU rfl rfl q3b rfl rfl rfl rfl (by simp only [SP0,SP1,S0,S1,Nat.reduceAdd];rfl) fun w4 U8e q9e=>?_
   have F0f:=AV E0a U8e g2b
   have X7c:=xtr X8a F0f
   refine Ad<|h6c _ _<|wp_ret ?_
   obtain rfl:=sj f7e
   exact fin rfl (Res.cellN rfl BC q9e rfl rfl Res.nil) (Al X7c ⟨A1,c2,rfl,(n3.ext X7c)⟩)
  ·have p1f:=zN hz0b e6a
   have f2f:=ifN p1f f3c
   refine wp_cond_false (Aj (evb rfl e6a))<|wp_skip<|h4c _ _<|wp_seq_k fun K8c h8c=>Af<|sV (Ag (o':=2) DV rfl rfl) ?_
   refine sV (Ah EA rfl (Bx.cell ((q3a.ext E1a).ext E0a) rfl)) ?_
   refine sV (Ag (o':=2) DV rfl rfl) ?_
   refine sV (Ah EA rfl (Bx.cell (q4a.ext E0a) rfl)) ?_
   refine sV (MZ rfl rfl) ?_
   refine sV (Ac rfl) ?_
   refine Ad<|h8c _ _<|wp_seq_k fun K9c h9c=>DH [17] 18 mo rfl fun w4 E2a S7a=>have X4b:=xtr X9d E2a;dA 0 rfl (fun _=>Ag (o':=0) DM rfl rfl) ?_
   refine dV 1 rfl (fun _ hw=>AE DK rfl ((((q3a.ext E1a).ext E0a).ext E2a).ext hw) (by simp only [List.drop_zero,List.take_succ_cons,List.take_zero];rfl) rfl) S7a ?_
   refine dA 2 rfl (fun _=>Ag (o':=2) DV rfl rfl) ?_
   refine dV 3 rfl (fun _ hw=>Ah EA rfl (Bx.cell ((((q3a.ext E1a).ext E0a).ext E2a).ext hw) rfl)) S7a ?_
   refine dA 4 rfl (fun _=>Aa rfl) ?_
   refine dA 5 rfl (fun _=>Bs (c:=wi64 (x0.Exp - (min x0.Exp x1.Exp))) rfl rfl rfl) ?_
   refine dA 7 rfl (fun _=>Ag (o':=0) DM rfl rfl) ?_
   refine dV 8 rfl (fun _ hw=>AE DK rfl (((q4a.ext E0a).ext E2a).ext hw) (by simp only [List.drop_zero,List.take_succ_cons,List.take_zero];rfl) rfl) S7a ?_
   refine dA 9 rfl (fun _=>Ag (o':=2) DV rfl rfl) ?_
   refine dV 10 rfl (fun _ hw=>Ah EA rfl (Bx.cell (((q4a.ext E0a).ext E2a).ext hw) rfl)) S7a ?_
   refine dA 11 rfl (fun _=>Aa rfl) ?_
   refine dA 12 rfl (fun _=>Bs (c:=wi64 (x1.Exp - (min x0.Exp x1.Exp))) rfl rfl rfl) ?_
   refine dA 15 rfl (fun _=>Aa rfl) ?_
   obtain ⟨r0d,h3f,f4f⟩:=Ab f2f
   refine dc 6 rfl (by kernel_rfl) (by rfl) (Ae NE (by rfl)) (Hg x0.Man (wi64 (x0.Exp - (min x0.Exp x1.Exp))) A1 c2 w4 (tbx X4b hT) (n3.ext X4b) r0d h3f) ?_
   rintro _ w5 E5b ⟨A5f,c6f,rfl,n7f⟩
   refine dnrm ?_
   have X6b:=xtr X4b E5b
   have S8f:=S7a.trans E5b
   obtain ⟨r1d,h9f,f0g⟩:=Ab f4f
   refine dc 13 rfl (by kernel_rfl) (by rfl) (Ae NE (by rfl)) (Hg x1.Man (wi64 (x1.Exp - (min x0.Exp x1.Exp))) A4 c5 w5 (tbx X6b hT) (n6.ext X6b) r1d h9f) ?_
   rintro _ w6 E1b ⟨A1g,c2g,rfl,n3g⟩
   refine dnrm ?_
   have X2d:=xtr X6b E1b
   have S4g:=S8f.trans E1b
   obtain ⟨r3d,h5g,f6g⟩:=Ab f0g
   refine dc 14 rfl (by kernel_rfl) (by rfl) (Ae en_129 (by rfl)) (c_sorobanref03_AddInt r0d r1d A5f c6f A1g c2g w6 (tbx X2d hT) (n7f.ext E1b) n3g r3d h5g) ?_
   rintro _ w7 E7b ⟨A7g,c8g,rfl,n9g⟩
   refine dnrm ?_
   have X4d:=xtr X2d E7b
   have S0h:=S4g.trans E7b
   obtain ⟨r1h,h2h,f3h⟩:=Ab f6g
   refine dc 16 rfl (by kernel_rfl) (by rfl) (Ae NX (by rfl)) (He r3d (min x0.Exp x1.Exp) A7g c8g w7 (tbx X4d hT) n9g r1h h2h) ?_
   rintro _ w8 E8b ⟨A4h,c5h,rfl,n6h⟩
   refine dnrm ?_
   have X7h:=xtr X4d E8b
   have S4i:=S0h.trans E8b
   have q5d:=((((q3b.ext E2a).ext E5b).ext E1b).ext E7b).ext E8b
   refine dk 17 rfl (by kernel_rfl) (by decide) (by rfl) EU rfl rfl q5d rfl rfl rfl rfl (by simp only [SP0,SP1,S0,S1,Nat.reduceAdd];rfl) fun w9 U6d q8h=>?_
   have X9h:=AV X7h U6d g8d
   refine Ct (by kernel_rfl) ?_
   refine h9c _ _<|wp_ret ?_
   obtain rfl:=sj f3h
   exact fin rfl (Res.cellN rfl BC q8h rfl rfl Res.nil) (Al X9h ⟨A4h,c5h,rfl,(n6h.upd U6d q5d (by decide))⟩)
theorem c_sorobanref04_Sign (x0:Ak) (A1:Option Addr) (c2:Nat) (w:World) (hT:TB w) (n3:RU w A1 c2 x0.Man.Abs) (r:Int) (hr:DR x0=some r) :
  Calls Tryz.prog 23 #[.agg #[.bool x0.Man.Neg,.slice A1 (sz x0.Man.Abs) c2,.int .i64 x0.Exp]] w (Ret Gc w r):=by
 unfold DR at hr
 go_enter Tryz.func23,Tryz.ntmps23
 refine wp_seq_k fun K4 h4=>Af<|BH rfl rfl fun b5 w1 E6 g7 q8=>?_
 refine nrm ?_
 refine sV (Ac rfl) ?_
 refine Ad<|h4 _ _<|wp_seq_k fun K9 h9=>wp_seq_k fun K3a h3a=>Af<|sV (Ag (o':=0) DM rfl rfl) ?_
 refine sV (Ag (o':=1) BB rfl rfl) ?_
 refine sV (Ah Dp rfl (Bx.cell q8 rfl)) ?_
 refine sV (AF AJ rfl) ?_
 refine sb (Cc rfl rfl) fun z2a hz2a=>?_
 refine nrm ?_
 refine Ad<|h3a _ _ ?_
 rcases bft z2a with e0a | e0a
 ·have p0b:=zP hz2a e0a
  have f1b:=ifP p0b hr
  refine wp_cond_true (Aj (evb rfl e0a))<|wp_seq_k fun K4a h4a=>Af<|sV (Ac rfl) ?_
  refine Ad<|h4a _ _<|wp_ret ?_
  obtain rfl:=sj f1b
  exact fin rfl (Res.tmp rfl Res.nil) (Al E6 rfl)
 ·have p2b:=zN hz2a e0a
  have f5a:=ifN p2b hr
  refine wp_cond_false (Aj (evb rfl e0a))<|wp_skip<|h9 _ _<|wp_seq_k fun K6a h6a=>wp_seq_k fun K7a h7a=>Af<|sV (Ag (o':=0) DM rfl rfl) ?_
  refine sV (Ag (o':=0) Et rfl rfl) ?_
  refine sV (Ah Gf rfl (Bx.cell q8 rfl)) ?_
  refine Ad<|h7a _ _ ?_
  rcases bft x0.Man.Neg with e1a | e1a
  ·have p3b:=e1a
   have f4b:=ifP p3b f5a
   refine wp_cond_true (Aj (evb rfl e1a))<|wp_seq_k fun K8a h8a=>Af<|sV (Ac rfl) ?_
   refine Ad<|h8a _ _<|wp_ret ?_
   obtain rfl:=sj f4b
   exact fin rfl (Res.tmp rfl Res.nil) (Al E6 rfl)
  ·have p5b:=bF e1a
   have f6b:=ifN p5b f5a
   refine wp_cond_false (Aj (evb rfl e1a))<|wp_skip<|h6a _ _<|wp_seq_k fun K9a h9a=>Af<|sV (Ac rfl) ?_
   refine Ad<|h9a _ _<|wp_ret ?_
   obtain rfl:=sj f6b
   exact fin rfl (Res.tmp rfl Res.nil) (Al E6 rfl)
theorem c_sorobanref04_Compare (x0:Ak) (x1:Ak) (A1:Option Addr) (c2:Nat) (A4:Option Addr) (c5:Nat) (w:World) (hT:TB w) (n3:RU w A1 c2 x0.Man.Abs) (n6:RU w A4 c5 x1.Man.Abs) (r:Int) (hr:DJ x0 x1=some r) :
  Calls Tryz.prog 83 #[.agg #[.bool x0.Man.Neg,.slice A1 (sz x0.Man.Abs) c2,.int .i64 x0.Exp],.agg #[.bool x1.Man.Neg,.slice A4 (sz x1.Man.Abs) c5,.int .i64 x1.Exp]] w (Ret Gc w r):=by
 unfold DJ at hr
 go_enter Tryz.func83,Tryz.ntmps83
 refine wp_seq_k fun K7 h7=>Af<|BH rfl rfl fun b8 w1 E9 g2d q2b=>?_
 refine nrm ?_
 refine BH rfl rfl fun b3d w2 E4a g3b q4b=>?_
 refine nrm ?_
 have g4d:=nlt E9.size g3b
 have X5b:=xtr E9 E4a
 refine sV (Ac rfl) ?_
 refine Ad<|h7 _ _<|wp_seq_k fun K5a h5a=>DH [] 6 mo rfl fun w3 E0a S1a=>have X2a:=xtr X5b E0a;dV 0 rfl (fun _ hw=>Am BC rfl (((q2b.ext E4a).ext E0a).ext hw) rfl) S1a ?_
 refine dV 1 rfl (fun _ hw=>Am BC rfl ((q4b.ext E0a).ext hw) rfl) S1a ?_
 obtain ⟨r6a,h6b,f7b⟩:=Ab hr
 refine dc 2 rfl (by kernel_rfl) (by rfl) (Ae en_47 (by rfl)) (c_sorobanref04_Minus x1 A4 c5 w3 (tbx X2a hT) (n6.ext X2a) r6a h6b) ?_
 rintro _ w4 E7a ⟨A8b,c9b,rfl,n0c⟩
 refine dnrm ?_
 have X3a:=xtr X2a E7a
 have S1c:=S1a.trans E7a
 obtain ⟨r8a,h2c,f3c⟩:=Ab f7b
 refine dc 3 rfl (by kernel_rfl) (by rfl) (Ae en_46 (by rfl)) (c_sorobanref04_Sum x0 r6a A1 c2 A8b c9b w4 (tbx X3a hT) (n3.ext X3a) n0c r8a h2c) ?_
 rintro _ w5 E9a ⟨A4c,c5c,rfl,n6c⟩
 refine dnrm ?_
 have X0b:=xtr X3a E9a
 have S7c:=S1c.trans E9a
 obtain ⟨r8c,h9c,f0d⟩:=Ab f3c
 refine dc 4 rfl (by kernel_rfl) (by rfl) (Ae en_23 (by rfl)) (c_sorobanref04_Sign r8a A4c c5c w5 (tbx X0b hT) n6c r8c h9c) ?_
 rintro _ w6 E1b rfl
 refine dnrm ?_
 have X1d:=xtr X0b E1b
 have S5d:=S7c.trans E1b
 refine dA 5 rfl (fun _=>Ac rfl) ?_
 refine Ct (by kernel_rfl) ?_
 refine h5a _ _<|wp_ret ?_
 obtain rfl:=sj f0d
 exact fin rfl (Res.tmp rfl Res.nil) (Al X1d rfl)
theorem c_sorobanref04_Proper (x0:Av) (A1:Option Addr) (c2:Nat) (A4:Option Addr) (c5:Nat) (w:World) (hT:TB w) (n3:RLu w A1 c2 x0.Lo.Man.Abs) (n6:RLu w A4 c5 x0.Hi.Man.Abs) (r:Bool) (hr:DY x0=some r) :
  Calls Tryz.prog 17 #[.agg #[.bool x0.Lo.Man.Neg,.slice A1 x0.Lo.Man.Abs.length c2,.int .i64 x0.Lo.Exp,.bool x0.Hi.Man.Neg,.slice A4 x0.Hi.Man.Abs.length c5,.int .i64 x0.Hi.Exp]] w (Ret Ff w r):=by
 unfold DY at hr
 go_enter Tryz.func17,Tryz.ntmps17
 refine wp_seq_k fun K7 h7=>Af<|BH rfl rfl fun b8 w1 E9 g5f q3a=>?_
 refine nrm ?_
 refine sV (Ac rfl) ?_
 refine Ad<|h7 _ _<|wp_seq_k fun K9a h9a=>Af<|sV (Ag (o':=0) Il rfl rfl) ?_
 refine sV (AE BC rfl q3a (by simp only [List.drop_zero,List.take_succ_cons,List.take_zero];rfl) rfl) ?_
 obtain ⟨r0b,h8c,f9c⟩:=Ab hr
 refine sc (Ae LA (by rfl)) (DF x0.Lo A1 c2 w1 (tbx E9 hT) (n3.ext E9) r0b h8c) ?_
 rintro _ w2 E4a rfl
 refine nrm ?_
 have X5a:=xtr E9 E4a
 refine sV (Aa rfl) ?_
 obtain ⟨m1b,h2b,f0d⟩:=Ab f9c
 refine Cm 8 (fun l l' w'=>∃(t3b:Value) (t4b:Value) (t5b:Value),UpdS [] w2 w'∧l'=((((l.set 7 t3b).set 8 t4b).set 9 t5b).set 10 (.bool m1b))) ?_ ?_
 ·intro HJ35
  rcases bft r0b with e1a | e1a
  ·have p1d:=e1a
   have f2d:=ifP p1d h2b
   refine sV (Ag (o':=3) Ig rfl rfl) ?_ (hw:=wgT rfl e1a)
   refine sV (AE BC rfl (q3a.ext E4a) (by simp only [List.drop_succ_cons,List.drop_zero,List.take_succ_cons,List.take_zero];rfl) rfl) ?_ (hw:=wgT rfl e1a)
   obtain ⟨r6b,h3d,f4d⟩:=Ab f2d
   refine sc (Ae LA (by rfl)) (DF x0.Hi A4 c5 w2 (tbx X5a hT) (n6.ext X5a) r6b h3d) ?_ (hw:=wgT rfl e1a)
   rintro _ w3 E5d rfl
   refine nrm ?_
   refine sV (Ax (evb rfl e1a) rfl) ?_
   obtain rfl:=sj f4d
   exact HJ35 _ _ ⟨(.pointer (some ⟨b8,3,none⟩)),(.agg #[.bool x0.Hi.Man.Neg,.slice A4 x0.Hi.Man.Abs.length c5,.int .i64 x0.Hi.Exp]),(.bool r6b),((UpdS.refl _ _).ext E5d),(by simp only [S0,S1]<;>rfl)⟩
  ·have p6d:=bF e1a
   have f7d:=ifN p6d h2b
   refine sP ?_ (hw:=wgF rfl e1a)
   refine sP ?_ (hw:=wgF rfl e1a)
   refine sP ?_ (hw:=wgF rfl e1a)
   refine sV (AG (evb rfl e1a) rfl) ?_
   obtain rfl:=sj f7d
   exact HJ35 _ _ ⟨uu,uu,uu,(UpdS.refl _ _),(by simp only [S0,S1]<;>rfl)⟩
 ·rintro l' w3 ⟨t3b,t4b,t5b,U7a,hq'⟩ l'' hl
  rw [hq'] at hl
  clear hq'
  simp only [S0,S1] at hl
  subst hl
  have X2a:=IM X5a U7a (X5a).size al0
  refine sV (Aa rfl) ?_
  obtain ⟨m8d,h7b,f9d⟩:=Ab f0d
  refine Cm 16 (fun l l' w'=>∃(t8b:Value) (t9b:Value) (t0c:Value) (t1c:Value) (t2c:Value) (t3c:Value),UpdS [] w3 w'∧l'=(((((((l.set 12 t8b).set 13 t9b).set 14 t0c).set 15 t1c).set 16 t2c).set 17 t3c).set 18 (.bool m8d))) ?_ ?_
  ·intro HJ78
   rcases bft m1b with e0a | e0a
   ·have p0e:=e0a
    have f1e:=ifP p0e h7b
    refine sV (Ag (o':=0) Il rfl rfl) ?_ (hw:=wgT rfl e0a)
    refine sV (AE BC rfl ((q3a.ext E4a).updS U7a nm0) (by simp only [List.drop_zero,List.take_succ_cons,List.take_zero];rfl) rfl) ?_ (hw:=wgT rfl e0a)
    refine sV (Ag (o':=3) Ig rfl rfl) ?_ (hw:=wgT rfl e0a)
    refine sV (AE BC rfl ((q3a.ext E4a).updS U7a nm0) (by simp only [List.drop_succ_cons,List.drop_zero,List.take_succ_cons,List.take_zero];rfl) rfl) ?_ (hw:=wgT rfl e0a)
    obtain ⟨m4c,h2e,f3e⟩:=Ab f1e
    have hx5c:=Dh h2e
    have n4e:RU w3 A1 c2 m4c:=by unfold RU;rw [hx5c];exact (n3.ext X2a)
    obtain ⟨m6c,h5e,f6e⟩:=Ab f3e
    have hx7c:=Dh h5e
    have n7e:RU w3 A4 c5 m6c:=by unfold RU;rw [hx7c];exact (n6.ext X2a)
    obtain ⟨r6a,h8e,f9e⟩:=Ab f6e
    refine sc (Ae en_83 (by simp only [sz,hx5c,hx7c];rfl)) (c_sorobanref04_Compare (⟨(⟨x0.Lo.Man.Neg,m4c⟩:Ai),x0.Lo.Exp⟩:Ak) (⟨(⟨x0.Hi.Man.Neg,m6c⟩:Ai),x0.Hi.Exp⟩:Ak) A1 c2 A4 c5 w3 (tbx X2a hT) n4e n7e r6a h8e) ?_ (hw:=wgT rfl e0a)
    rintro _ w4 E0f rfl
    refine nrm ?_
    refine sb (GT rfl rfl) ?_ (hw:=wgT rfl e0a)
    intro z8a hz8a
    refine nrm ?_
    refine sV (Ax (evb rfl e0a) rfl) ?_
    obtain rfl:z8a=decide (r6a≤0):=bz hz8a
    obtain rfl:=sj f9e
    exact HJ78 _ _ ⟨(.pointer (some ⟨b8,0,none⟩)),(.agg #[.bool x0.Lo.Man.Neg,.slice A1 x0.Lo.Man.Abs.length c2,.int .i64 x0.Lo.Exp]),(.pointer (some ⟨b8,3,none⟩)),(.agg #[.bool x0.Hi.Man.Neg,.slice A4 x0.Hi.Man.Abs.length c5,.int .i64 x0.Hi.Exp]),(.int .i64 r6a),(.bool (decide (r6a≤0))),((UpdS.refl _ _).ext E0f),(by simp only [S0,S1]<;>rfl)⟩
   ·have p1f:=bF e0a
    have f2f:=ifN p1f h7b
    refine sP ?_ (hw:=wgF rfl e0a)
    refine sP ?_ (hw:=wgF rfl e0a)
    refine sP ?_ (hw:=wgF rfl e0a)
    refine sP ?_ (hw:=wgF rfl e0a)
    refine sP ?_ (hw:=wgF rfl e0a)
    refine sP ?_ (hw:=wgF rfl e0a)
    refine sV (AG (evb rfl e0a) rfl) ?_
    obtain rfl:=sj f2f
    exact HJ78 _ _ ⟨uu,uu,uu,uu,uu,uu,(UpdS.refl _ _),(by simp only [S0,S1]<;>rfl)⟩
  ·rintro l' w4 ⟨t8b,t9b,t0c,t1c,t2c,t3c,U3f,hq'⟩ l'' hl
   rw [hq'] at hl
   clear hq'
   simp only [S0,S1] at hl
   subst hl
   have X4f:=IM X2a U3f (X2a).size al0
   refine sV (Ac rfl) ?_
   refine Ad<|h9a _ _<|wp_ret ?_
   obtain rfl:=sj f9d
   exact fin rfl (Res.tmp rfl Res.nil) (Al X4f rfl)
theorem c_sorobanlaw04_arg (x0:Bool) (w:World) (hT:TB w) (r:Int) (hr:EK x0=some r) :
  Calls Tryz.prog 18 #[.bool x0] w (Ret rep_33 w r):=by
 unfold EK at hr
 go_enter Tryz.func18,Tryz.ntmps18
 refine wp_seq_k fun K1 h1=>Af<|sV (Ac rfl) ?_
 refine Ad<|h1 _ _<|wp_seq_k fun K2 h2=>wp_seq_k fun K3 h3=>Af<|sV (Aa rfl) ?_
 refine sb (Fg rfl) fun z4 hz4=>?_
 refine nrm ?_
 refine Ad<|h3 _ _ ?_
 rcases bft z4 with e0a | e0a
 ·have p3a:=zP hz4 e0a
  have f4a:=ifP p3a hr
  refine wp_cond_true (Aj (evb rfl e0a))<|wp_seq_k fun K1a h1a=>Af<|sV (Ac rfl) ?_
  refine Ad<|h1a _ _<|wp_ret ?_
  obtain rfl:=sj f4a
  exact fin rfl (Res.tmp rfl Res.nil) (Al (Ext.refl _) rfl)
 ·have p5a:=zN hz4 e0a
  have f6a:=ifN p5a hr
  refine wp_cond_false (Aj (evb rfl e0a))<|wp_skip<|h2 _ _<|wp_seq_k fun K2a h2a=>Af<|sV (Ac rfl) ?_
  refine Ad<|h2a _ _<|wp_ret ?_
  obtain rfl:=sj f6a
  exact fin rfl (Res.tmp rfl Res.nil) (Al (Ext.refl _) rfl)
theorem c_sorobanref01_Gcd (x0:Nat) (x1:Nat) (A1:Option Addr) (c2:Nat) (A4:Option Addr) (c5:Nat) (w:World) (hT:TB w) (n3:RU w A1 c2 x0) (n6:RU w A4 c5 x1) (r:Nat) (hr:EF x0 x1=some r) :
  Calls Tryz.prog 145 #[.slice A1 (sz x0) c2,.slice A4 (sz x1) c5] w (Ret Iq w r):=by
 unfold EF at hr
 go_enter Tryz.func145,Tryz.ntmps145
 refine wp_seq_k fun K7 h7=>Af<|sV (Ac rfl) ?_
 refine Ad<|h7 _ _<|wp_seq_k fun K8 h8=>?_
 obtain ⟨m3b,h2d,f3d⟩:=Ab hr
 refine CE (fun l l' w'=>∃(A1b:Option Addr) (c2b:Nat) (t2a:Nat→Value),Ext w w'∧RU w' A1b c2b m3b∧l'=((((((((((((l.set 0 (.slice A1b (sz m3b) c2b)).set 1 (t2a 0)).set 5 (t2a 1)).set 6 (t2a 2)).set 7 (t2a 3)).set 8 (t2a 4)).set 9 (t2a 5)).set 10 (t2a 6)).set 11 (t2a 7)).set 12 (t2a 8)).set 13 (t2a 9)).set 14 (t2a 10))) ?_ ?_
 ·apply wp_block
  refine Bc (fun l n1c l' w'=>∃(v5a:Nat) (v1a:Nat) (A6a:Option Addr) (c7a:Nat) (A3a:Option Addr) (c4a:Nat) (t0a:Nat→Value),Ext w w'∧RU w' A6a c7a v5a∧RU w' A3a c4a v1a∧BV x0 x1 n1c v5a v1a=some m3b∧l'=((((((((((((l.set 0 (.slice A6a (sz v5a) c7a)).set 1 (.slice A3a (sz v1a) c4a)).set 5 (t0a 0)).set 6 (t0a 1)).set 7 (t0a 2)).set 8 (t0a 3)).set 9 (t0a 4)).set 10 (t0a 5)).set 11 (t0a 6)).set 12 (t0a 7)).set 13 (t0a 8)).set 14 (t0a 9))) 18446744073709551616 ?_ ?_ ?_
  ·exact ⟨x0,x1,A1,c2,A4,c5,(tk [uu,uu,uu,uu,uu,uu,uu,uu,uu,uu]),(Ext.refl _),n3,n6,h2d,(by simp only [S0,S1]<;>rfl)⟩
  ·rintro l' w' ⟨v5a,v1a,A6a,c7a,A3a,c4a,t0a,_,_,_,hz,_⟩
   exact nomatch hz
  ·rintro n1c ih4d l' w1 ⟨v5a,v1a,A6a,c7a,A3a,c4a,t0a,X4b,n2c,n3c,hr5b,hq'⟩ l'' hl
   rw [hq'] at hl
   clear hq'
   simp only [S0,S1] at hl
   subst hl
   unfold BV at hr5b
   refine Bk<|wp_seq_k fun K4c h4c=>wp_seq_k fun K5c h5c=>Af<|sV (Aa rfl) ?_
   refine sV (AF AJ rfl) ?_
   refine sb (EP rfl rfl) fun z8a hz8a=>?_
   refine nrm ?_
   refine Ad<|h5c _ _ ?_
   rcases bft z8a with e9a | e9a
   ·have p5d:=zP hz8a e9a
    have f6d:=ifP p5d hr5b
    refine wp_cond_true (Aj (evb rfl e9a))<|wp_skip<|h4c _ _ ?_
    apply wp_block
    refine wp_seq_k fun K6c h6c=>Af<|sV (Aa rfl) ?_
    refine sV (Aa rfl) ?_
    obtain ⟨r0b,h7d,f8d⟩:=Ab f6d
    refine sc (Ae Ms (by rfl)) (EL v5a v1a A6a c7a A3a c4a w1 (tbx X4b hT) n2c n3c r0b h7d) ?_
    rintro _ w2 E7c ⟨A9d,c0e,A6b,c7b,rfl,n3f,n1e⟩
    refine nrm ?_
    have X8c:=xtr X4b E7c
    refine Aw LF fun b9c w3 E8b g2e q9b=>?_
    refine nrm ?_
    have g3e:=nlt X8c.size g2e
    have X4e:=xtr X8c E8b
    refine Ay Km rfl rfl q9b rfl rfl rfl rfl (by simp only [SP0,SP1,S0,S1,Nat.reduceAdd];rfl) fun w4 U0c q5e=>?_
    have X6e:=AV X4e U0c g3e
    refine Ad<|h6c _ _<|wp_seq_k fun K0d h0d=>Af<|sV (Aa rfl) ?_
    refine sV (Ac rfl) ?_
    refine Ad<|h0d _ _<|Af<|sV (Ag (o':=1) fa_171_1 rfl rfl) ?_
    refine sV (Ah Dp rfl (Bx.cell q5e rfl)) ?_
    refine sV (Ac rfl) ?_
    refine Ad ?_
    have n7e:=((n3c.ext E7c).ext E8b).upd U0c q9b (by decide)
    have n8e:=(n1e.ext E8b).upd U0c q9b (by decide)
    exact ih4d _ _ ⟨v1a,r0b.R,A3a,c4a,A6b,c7b,(tk [.pointer (some ⟨b9c,0,none⟩),.slice A3a (sz v1a) c4a,.int .i64 (sz v1a:Int),.bool z8a,.slice A6a (sz v5a) c7a,.slice A3a (sz v1a) c4a,.agg #[.slice A9d (sz r0b.Q) c0e,.slice A6b (sz r0b.R) c7b],.slice A3a (sz v1a) c4a,.pointer (some ⟨b9c,1,none⟩),.slice A6b (sz r0b.R) c7b]),X6e,n7e,n8e,f8d,(by simp only [S0,S1]<;>rfl)⟩
   ·have p9e:=zN hz8a e9a
    have f0f:=ifN p9e hr5b
    refine wp_cond_false (Aj (evb rfl e9a))<|wp_exit ?_
    simp only [Exit.then,Exit.inBlock,↓reduceIte,Nat.reduceEqDiff]
    obtain rfl:=sj f0f
    exact ⟨_,rfl,A6a,c7a,(tk [.slice A3a (sz v1a) c4a,t0a 0,.slice A3a (sz v1a) c4a,.int .i64 (sz v1a:Int),.bool z8a,t0a 4,t0a 5,t0a 6,t0a 7,t0a 8,t0a 9]),X4b,n2c,(by simp only [S0,S1]<;>rfl)⟩
 ·rintro l' w1 ⟨A1b,c2b,t2a,X1f,n2f,hq'⟩ l'' hl
  rw [hq'] at hl
  clear hq'
  simp only [S0,S1] at hl
  subst hl
  refine h8 _ _<|wp_seq_k fun K1d h1d=>Af<|sV (Aa rfl) ?_
  refine sV (Ac rfl) ?_
  refine Ad<|h1d _ _<|wp_ret ?_
  obtain rfl:=sj f3d
  exact fin rfl (Res.tmp rfl Res.nil) (Al X1f ⟨A1b,c2b,rfl,n2f⟩)
theorem GK (w:World) (hT:TB w) (r:Nat) (hr:CN=some r) :
  Calls Tryz.prog 146 #[] w (Ret Iq w r):=by
 unfold CN at hr
 go_enter Tryz.func146,Tryz.ntmps146
 refine wp_seq_k fun K1 h1=>Af<|sV (Ac rfl) ?_
 refine Ad<|h1 _ _<|wp_seq_k fun K2 h2=>Af<|CH (vals:=[(0,.int .u32 1)]) (cs:=[.int .u32 1]) AJ Ap EM (by rfl) (by decide) (by kernel_rfl) fun b3 w1 E4 g5 q6=>?_
 refine nrm ?_
 have n7:=RL.lit1 q6 (by decide)
 refine sV (Ac rfl) ?_
 refine Ad<|h2 _ _<|wp_ret ?_
 obtain rfl:=sj hr
 exact fin rfl (Res.tmp rfl Res.nil) (Al E4 ⟨(some ⟨b3,0,none⟩),1,rfl,n7⟩)
theorem c_sorobanref03_Of (x0:Ai) (x1:Nat) (A1:Option Addr) (c2:Nat) (A4:Option Addr) (c5:Nat) (w:World) (hT:TB w) (n3:RU w A1 c2 x0.Abs) (n6:RU w A4 c5 x1) (r:Cw) (hr:EX x0 x1=some r) :
  Calls Tryz.prog 160 #[.agg #[.bool x0.Neg,.slice A1 (sz x0.Abs) c2],.slice A4 (sz x1) c5] w (Ret MF w r):=by
 unfold EX at hr
 go_enter Tryz.func160,Tryz.ntmps160
 refine wp_seq_k fun K7 h7=>Af<|BH rfl rfl fun b8 w1 E9 g3e q7a=>?_
 refine nrm ?_
 refine Aw Ls fun b8h w2 E3a g4e q6c=>?_
 refine nrm ?_
 have g7c:=nlt E9.size g4e
 have X8a:=xtr E9 E3a
 refine Ad<|h7 _ _<|wp_seq_k fun K8c h8c=>Af<|sV (Ag (o':=1) BB rfl rfl) ?_
 refine sV (Ah Dp rfl (Bx.cell (q7a.ext E3a) rfl)) ?_
 refine sV (Aa rfl) ?_
 obtain ⟨r9a,h5e,f6e⟩:=Ab hr
 refine sc (Ae en_145 (by rfl)) (c_sorobanref01_Gcd x0.Abs x1 A1 c2 A4 c5 w2 (tbx X8a hT) (n3.ext X8a) (n6.ext X8a) r9a h5e) ?_
 rintro _ w3 E2a ⟨A3b,c4b,rfl,n9c⟩
 refine nrm ?_
 have X0d:=xtr X8a E2a
 refine sV (Ac rfl) ?_
 refine Ad<|h8c _ _<|wp_seq_k fun K1d h1d=>wp_seq_k fun K2d h2d=>Af<|sV (Aa rfl) ?_
 obtain ⟨r3d,h7e,f8e⟩:=Ab f6e
 refine sc (Ae Mp (by rfl)) (GK w3 (tbx X0d hT)  r3d h7e) ?_
 rintro _ w4 E0a ⟨A9e,c0f,rfl,n1f⟩
 refine nrm ?_
 have X4d:=xtr X0d E0a
 obtain ⟨r5d,h2f,f6d⟩:=Ab f8e
 refine sc (Ae MD (by rfl)) (Ez (limbs r9a) (limbs r3d) A3b c4b A9e c0f w4 (tbx X4d hT) (n9c.ext E0a) n1f r5d h2f) ?_
 rintro _ w5 E1a rfl
 refine nrm ?_
 have X7d:=xtr X4d E1a
 refine Ad<|h2d _ _ ?_
 rcases bft r5d with e4a | e4a
 ·have p3f:=e4a
  have f4f:=ifP p3f f6d
  refine wp_cond_true (Aj (evb rfl e4a))<|wp_seq_k fun K8d h8d=>Af<|have q5f:=(((q7a.ext E3a).ext E2a).ext E0a).ext E1a;sV (Am DK rfl q5f rfl) ?_
  refine sV (Aa rfl) ?_
  refine sV (AL (vals:=[(0,.agg #[.bool x0.Neg,.slice A1 (sz x0.Abs) c2]),(1,.slice A4 (sz x1) c5)]) (cells:=[.bool x0.Neg,.slice A1 (sz x0.Abs) c2,.slice A4 (sz x1) c5]) (by rfl) (by kernel_rfl)) ?_
  have q6f:=((q6c.ext E2a).ext E0a).ext E1a
  refine Ay JD rfl rfl q6f rfl rfl rfl rfl (by simp only [SP0,SP1,S0,S1,Nat.reduceAdd];rfl) fun w6 U7f q8f=>?_
  have X5b:=AV X7d U7f g7c
  refine Ad<|h8d _ _<|wp_ret ?_
  obtain rfl:=sj f4f
  exact fin rfl (Res.cellN rfl IG q8f rfl rfl Res.nil) (Al X5b ⟨A1,c2,A4,c5,rfl,(n3.ext X5b),(n6.ext X5b)⟩)
 ·have p9f:=bF e4a
  have f0g:=ifN p9f f6d
  refine wp_cond_false (Aj (evb rfl e4a))<|wp_skip<|h1d _ _<|wp_seq_k fun K9d h9d=>DH [13] 14 mo rfl fun w6 E5a S6b=>have X7b:=xtr X7d E5a;dA 0 rfl (fun _=>Ag (o':=0) Et rfl rfl) ?_
  refine dV 1 rfl (fun _ hw=>Ah Gf rfl (Bx.cell ((((((q7a.ext E3a).ext E2a).ext E0a).ext E1a).ext E5a).ext hw) rfl)) S6b ?_
  refine dA 2 rfl (fun _=>Ag (o':=1) BB rfl rfl) ?_
  refine dV 3 rfl (fun _ hw=>Ah Dp rfl (Bx.cell ((((((q7a.ext E3a).ext E2a).ext E0a).ext E1a).ext E5a).ext hw) rfl)) S6b ?_
  refine dA 4 rfl (fun _=>Aa rfl) ?_
  refine dA 8 rfl (fun _=>Aa rfl) ?_
  refine dA 9 rfl (fun _=>Aa rfl) ?_
  have n0e:=((n9c.ext E0a).ext E1a).ext E5a
  obtain ⟨r1e,h1g,f2g⟩:=Ab f0g
  refine dc 5 rfl (by kernel_rfl) (by rfl) (Ae Ms (by rfl)) (EL x0.Abs r9a A1 c2 A3b c4b w6 (tbx X7b hT) (n3.ext X7b) n0e r1e h1g) ?_
  rintro _ w7 E0b ⟨A3g,c4g,A9h,c0i,rfl,n5g,n1i⟩
  refine dnrm ?_
  have X2e:=xtr X7b E0b
  have S6g:=S6b.trans E0b
  refine dA 6 rfl (fun _=>Me Mf rfl rfl) ?_
  obtain ⟨r6a,h7g,f8g⟩:=Ab f2g
  refine dc 7 rfl (by kernel_rfl) (by rfl) (Ae JL (by rfl)) (CF x0.Neg r1e.Q A3g c4g w7 (tbx X2e hT) n5g r6a h7g) ?_
  rintro _ w8 E1b ⟨A8b,c9b,rfl,n9g⟩
  refine dnrm ?_
  have X0c:=xtr X2e E1b
  have S0h:=S6g.trans E1b
  obtain ⟨r1c,h1h,f2h⟩:=Ab f8g
  refine dc 10 rfl (by kernel_rfl) (by rfl) (Ae Ms (by rfl)) (EL x1 r9a A4 c5 A3b c4b w8 (tbx X0c hT) (n6.ext X0c) ((n0e.ext E0b).ext E1b) r1c h1h) ?_
  rintro _ w9 E2b ⟨A2c,c3c,A2i,c3i,rfl,n3h,n4i⟩
  refine dnrm ?_
  have X4h:=xtr X0c E2b
  have S5i:=S0h.trans E2b
  refine dA 11 rfl (fun _=>Me Mf rfl rfl) ?_
  refine dA 12 rfl (fun _=>AL (vals:=[(0,.agg #[.bool r6a.Neg,.slice A8b (sz r6a.Abs) c9b]),(1,.slice A2c (sz r1c.Q) c3c)]) (cells:=[.bool r6a.Neg,.slice A8b (sz r6a.Abs) c9b,.slice A2c (sz r1c.Q) c3c]) (by rfl) (by kernel_rfl)) ?_
  have q4c:=((((((q6c.ext E2a).ext E0a).ext E1a).ext E5a).ext E0b).ext E1b).ext E2b
  refine dk 13 rfl (by kernel_rfl) (by decide) (by rfl) JD rfl rfl q4c rfl rfl rfl rfl (by simp only [SP0,SP1,S0,S1,Nat.reduceAdd];rfl) fun w3e U5c q5h=>?_
  have X6h:=AV X4h U5c g7c
  refine Ct (by kernel_rfl) ?_
  refine h9d _ _<|wp_ret ?_
  have n7h:=(n9g.ext E2b).upd U5c q4c (by decide)
  obtain rfl:=sj f2h
  exact fin rfl (Res.cellN rfl IG q5h rfl rfl Res.nil) (Al X6h ⟨A8b,c9b,A2c,c3c,rfl,n7h,(n3h.upd U5c q4c (by decide))⟩)
theorem Gh (x0:Au) (A1:Option Addr) (c2:Nat) (w:World) (hT:TB w) (n3:RLu w A1 c2 x0.Man.Abs) (r:Bool) (hr:CS x0=some r) :
  Calls Tryz.prog 44 #[.agg #[.bool x0.Man.Neg,.slice A1 x0.Man.Abs.length c2,.int .i64 x0.Exp]] w (Ret Ff w r):=by
 unfold CS at hr
 go_enter Tryz.func44,Tryz.ntmps44
 refine wp_seq_k fun K4 h4=>Af<|BH rfl rfl fun b5 w1 E6 g7 q8=>?_
 refine nrm ?_
 refine sV (Ac rfl) ?_
 refine Ad<|h4 _ _<|wp_seq_k fun K9 h9=>Af<|sV (Ag (o':=0) DM rfl rfl) ?_
 refine sV (Ag (o':=1) BB rfl rfl) ?_
 refine sV (Ah Dp rfl (Bx.cell q8 rfl)) ?_
 refine sV (AF AJ rfl) ?_
 refine sb (GT rfl rfl) fun z4a hz4a=>?_
 refine nrm ?_
 refine sV (Aa rfl) ?_
 obtain ⟨m2d,h5b,f3d⟩:=Ab hr
 refine Cm 20 (fun l l' w'=>∃(t6b:Value) (t7b:Value) (t8b:Value) (t9b:Value) (t0c:Value) (t1c:Value) (t2c:Value) (t3c:Value) (t4c:Value) (t5c:Value) (t6c:Value) (t7c:Value) (t8c:Value),UpdS [] w1 w'∧l'=((((((((((((((l.set 9 t6b).set 10 t7b).set 11 t8b).set 12 t9b).set 13 t0c).set 14 t1c).set 15 t2c).set 16 t3c).set 17 t4c).set 18 t5c).set 19 t6c).set 20 t7c).set 21 t8c).set 22 (.bool m2d))) ?_ ?_
 ·intro HJ85
  rcases bft z4a with e0a | e0a
  ·have p4d:=zP hz4a e0a
   have f5d:=ifP p4d h5b
   refine sV (Ag (o':=2) DV rfl rfl) ?_ (hw:=wgT rfl e0a)
   refine sV (Ah EA rfl (Bx.cell q8 rfl)) ?_ (hw:=wgT rfl e0a)
   refine sb (Fh rfl rfl) ?_ (hw:=wgT rfl e0a)
   intro z3a hz3a
   refine nrm ?_
   refine sV (Aa rfl) ?_ (hw:=wgT rfl e0a)
   obtain ⟨m5a,h9c,f6d⟩:=Ab f5d
   refine Cm 14 (fun l l' w'=>∃(t7a:Value) (t8a:Value) (t9a:Value),w1=w'∧l'=((((l.set 13 t7a).set 14 t8a).set 15 t9a).set 16 (.bool m5a))) ?_ ?_
   ·intro HJ105
    rcases bft z3a with e1a | e1a
    ·have p7d:=zP hz3a e1a
     have f8d:=ifP p7d h9c
     refine sV (Ag (o':=2) DV rfl rfl) ?_ (hw:=wgT rfl e1a)
     refine sV (Ah EA rfl (Bx.cell q8 rfl)) ?_ (hw:=wgT rfl e1a)
     refine sb (GT rfl rfl) ?_ (hw:=wgT rfl e1a)
     intro z0b hz0b
     refine nrm ?_
     refine sV (Ax (evb rfl e1a) rfl) ?_ (hw:=wgT rfl e0a)
     obtain rfl:z0b=decide (x0.Exp≤3000):=bz hz0b
     obtain rfl:=sj f8d
     exact HJ105 _ _ ⟨(.pointer (some ⟨b5,2,none⟩)),(.int .i64 x0.Exp),(.bool (decide (x0.Exp≤3000))),rfl,(by simp only [S0,S1]<;>rfl)⟩
    ·have p9d:=zN hz3a e1a
     have f0e:=ifN p9d h9c
     refine sP ?_ (hw:=wgF rfl e1a)
     refine sP ?_ (hw:=wgF rfl e1a)
     refine sP ?_ (hw:=wgF rfl e1a)
     refine sV (AG (evb rfl e1a) rfl) ?_ (hw:=wgT rfl e0a)
     obtain rfl:=sj f0e
     exact HJ105 _ _ ⟨uu,uu,uu,rfl,(by simp only [S0,S1]<;>rfl)⟩
   ·rintro l' _ ⟨t7a,t8a,t9a,rfl,hq'⟩ l'' hl
    rw [hq'] at hl
    clear hq'
    simp only [S0,S1] at hl
    subst hl
    refine sV (Aa rfl) ?_ (hw:=wgT rfl e0a)
    obtain ⟨m0d,h1d,f1e⟩:=Ab f6d
    refine Cm 19 (fun l l' w'=>∃(t1b:Value) (t2b:Value) (t3b:Value),UpdS [] w1 w'∧l'=((((l.set 18 t1b).set 19 t2b).set 20 t3b).set 21 (.bool m0d))) ?_ ?_
    ·intro HJ130
     rcases bft m5a with e2a | e2a
     ·have p2e:=e2a
      have f3e:=ifP p2e h1d
      refine sP ?_ (hw:=wgF rfl e2a)
      refine sP ?_ (hw:=wgF rfl e2a)
      refine sP ?_ (hw:=wgF rfl e2a)
      refine sV (Ax (evb rfl e2a) rfl) ?_ (hw:=wgT rfl e0a)
      obtain rfl:=sj f3e
      exact HJ130 _ _ ⟨uu,uu,uu,(UpdS.refl _ _),(by simp only [S0,S1]<;>rfl)⟩
     ·have p4e:=bF e2a
      have f5e:=ifN p4e h1d
      refine sV (Am BC rfl q8 rfl) ?_ (hw:=wgT rfl e2a)
      obtain ⟨r6a,h6e,f7e⟩:=Ab f5e
      refine sc (Ae LA (by rfl)) (DF x0 A1 c2 w1 (tbx E6 hT) (n3.ext E6) r6a h6e) ?_ (hw:=wgT rfl e2a)
      rintro _ w2 E8e rfl
      refine nrm ?_
      refine sb (Fg rfl) ?_ (hw:=wgT rfl e2a)
      intro z4b hz4b
      refine nrm ?_
      refine sV (AG (evb rfl e2a) rfl) ?_ (hw:=wgT rfl e0a)
      obtain rfl:z4b=decide (¬(r6a=true)):=bz hz4b
      obtain rfl:=sj f7e
      exact HJ130 _ _ ⟨(.agg #[.bool x0.Man.Neg,.slice A1 x0.Man.Abs.length c2,.int .i64 x0.Exp]),(.bool r6a),(.bool (decide (¬(r6a=true)))),((UpdS.refl _ _).ext E8e),(by simp only [S0,S1]<;>rfl)⟩
    ·rintro l' w2 ⟨t1b,t2b,t3b,U9e,hq'⟩ l'' hl
     rw [hq'] at hl
     clear hq'
     simp only [S0,S1] at hl
     subst hl
     refine sV (Ax (evb rfl e0a) rfl) ?_
     obtain rfl:=sj f1e
     exact HJ85 _ _ ⟨(.pointer (some ⟨b5,2,none⟩)),(.int .i64 x0.Exp),(.bool z3a),(.bool z3a),t7a,t8a,t9a,(.bool m5a),(.bool m5a),t1b,t2b,t3b,(.bool m0d),((UpdS.refl _ _).updS U9e al0),(by simp only [S0,S1]<;>rfl)⟩
  ·have p0f:=zN hz4a e0a
   have f1f:=ifN p0f h5b
   refine sP ?_ (hw:=wgF rfl e0a)
   refine sP ?_ (hw:=wgF rfl e0a)
   refine sP ?_ (hw:=wgF rfl e0a)
   refine sP ?_ (hw:=wgF rfl e0a)
   refine sP ?_
   refine sP ?_
   refine sP ?_
   refine sP ?_ (hw:=wgF rfl e0a)
   refine sP ?_ (hw:=wgF rfl e0a)
   refine sP ?_
   refine sP ?_
   refine sP ?_
   refine sP ?_ (hw:=wgF rfl e0a)
   refine sV (AG (evb rfl e0a) rfl) ?_
   obtain rfl:=sj f1f
   exact HJ85 _ _ ⟨uu,uu,uu,uu,uu,uu,uu,uu,uu,uu,uu,uu,uu,(UpdS.refl _ _),(by simp only [S0,S1]<;>rfl)⟩
 ·rintro l' w2 ⟨t6b,t7b,t8b,t9b,t0c,t1c,t2c,t3c,t4c,t5c,t6c,t7c,t8c,U2f,hq'⟩ l'' hl
  rw [hq'] at hl
  clear hq'
  simp only [S0,S1] at hl
  subst hl
  have X3f:=IM E6 U2f (E6).size al0
  refine sV (Ac rfl) ?_
  refine Ad<|h9 _ _<|wp_ret ?_
  obtain rfl:=sj f3d
  exact fin rfl (Res.tmp rfl Res.nil) (Al X3f rfl)
end Go.Proofs

