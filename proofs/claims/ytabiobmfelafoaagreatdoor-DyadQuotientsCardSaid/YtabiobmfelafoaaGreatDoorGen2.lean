import Derived.Test.YtabiobmfelafoaaGreatDoorGen1
namespace Go.Proofs
set_option linter.unusedVariables false
set_option linter.unusedSimpArgs false
set_option maxHeartbeats 4000000
open Go.RowKit Go.Sb Go.Proofs.Sbn
theorem c_sorobanref03_AddInt (x0:Ai) (x1:Ai) (A1:Option Addr) (c2:Nat) (A4:Option Addr) (c5:Nat) (w:World) (hT:TB w) (n3:RU w A1 c2 x0.Abs) (n6:RU w A4 c5 x1.Abs) (r:Ai) (hr:Fp x0 x1=some r) :
  Calls Tryz.prog 129 #[.agg #[.bool x0.Neg,.slice A1 (sz x0.Abs) c2],.agg #[.bool x1.Neg,.slice A4 (sz x1.Abs) c5]] w (Ret JF w r):=by
 unfold Fp at hr
 go_enter Tryz.func129,Tryz.ntmps129
 refine wp_seq_k fun K7 h7=>Ag<|BL rfl rfl fun b8 w1 E9 g6k q3a=>?_
 refine nrm ?_
 refine BL rfl rfl fun b7k w2 E2a g9e q4a=>?_
 refine nrm ?_
 have g8k:=nlt E9.size g9e
 have X7c:=xtr E9 E2a
 refine Ax KT fun b9k w3 E0a g0f q9b=>?_
 refine nrm ?_
 have g0c:=nlt X7c.size g0f
 have X5a:=xtr X7c E0a
 refine Ad<|h7 _ _<|wp_seq_k fun K8c h8c=>wp_seq_k fun K9c h9c=>Ag<|sV (Af (o':=0) DP rfl rfl) ?_
 refine sV (Ah FS rfl (Bx.cell ((q3a.ext E2a).ext E0a) rfl)) ?_
 refine sV (Af (o':=0) DP rfl rfl) ?_
 refine sV (Ah FS rfl (Bx.cell (q4a.ext E0a) rfl)) ?_
 refine sb (Me Mn rfl rfl) fun z1b hz1b=>?_
 refine nrm ?_
 refine Ad<|h9c _ _ ?_
 rcases bft z1b with e6a | e6a
 ·have p1f:=zP hz1b e6a
  have f2f:=ifP p1f hr
  refine wp_cond_true (Ak (evb rfl e6a))<|wp_seq_k fun K0d h0d=>DB [8] 9 mo rfl fun w4 E7a S2b=>have X3b:=xtr X5a E7a;dA 0 rfl (fun _=>Af (o':=0) DP rfl rfl) ?_
  refine dV 1 rfl (fun _ hw=>Ah FS rfl (Bx.cell ((((q3a.ext E2a).ext E0a).ext E7a).ext hw) rfl)) S2b ?_
  refine dA 2 rfl (fun _=>Af (o':=1) Bo rfl rfl) ?_
  refine dV 3 rfl (fun _ hw=>Ah BN rfl (Bx.cell ((((q3a.ext E2a).ext E0a).ext E7a).ext hw) rfl)) S2b ?_
  refine dA 4 rfl (fun _=>Af (o':=1) Bo rfl rfl) ?_
  refine dV 5 rfl (fun _ hw=>Ah BN rfl (Bx.cell (((q4a.ext E0a).ext E7a).ext hw) rfl)) S2b ?_
  obtain ⟨r1d,h3f,f4f⟩:=Ab f2f
  refine dc 6 rfl (by kernel_rfl) (by rfl) (Ae KK (by rfl)) (DQ x0.Abs x1.Abs A1 c2 A4 c5 w4 (tbx X3b hT) (n3.ext X3b) (n6.ext X3b) r1d h3f) ?_
  rintro _ w5 E1c ⟨A5f,c6f,rfl,n7f⟩
  refine dnrm ?_
  have X2d:=xtr X3b E1c
  have S8f:=S2b.trans E1c
  obtain ⟨r9f,h0g,f1g⟩:=Ab f4f
  refine dc 7 rfl (by kernel_rfl) (by rfl) (Ae HP (by rfl)) (Bm x0.Neg r1d A5f c6f w5 (tbx X2d hT) n7f r9f h0g) ?_
  rintro _ w6 E2c ⟨A2g,c3g,rfl,n4g⟩
  refine dnrm ?_
  have X5g:=xtr X2d E2c
  have S0l:=S8f.trans E2c
  have q3d:=((q9b.ext E7a).ext E1c).ext E2c
  refine dk 8 rfl (by kernel_rfl) (by decide) (by rfl) Jw rfl rfl q3d rfl rfl rfl rfl (by simp only [SP0,SP1,S0,S1,Nat.reduceAdd];rfl) fun w7 U4d q6g=>?_
  have X7g:=Bf X5g U4d g0c
  refine Cv (by kernel_rfl) ?_
  refine h0d _ _<|wp_ret ?_
  obtain rfl:=sj f1g
  exact fin rfl (Res.cellN rfl FR q6g rfl rfl Res.nil) (Al X7g ⟨A2g,c3g,rfl,(n4g.upd U4d q3d (by decide))⟩)
 ·have p8g:=zN hz1b e6a
  have f9g:=ifN p8g hr
  refine wp_cond_false (Ak (evb rfl e6a))<|wp_skip<|h8c _ _<|wp_seq_k fun K5d h5d=>wp_seq_k fun K6d h6d=>Ag<|sV (Af (o':=1) Bo rfl rfl) ?_
  refine sV (Ah BN rfl (Bx.cell ((q3a.ext E2a).ext E0a) rfl)) ?_
  refine sV (Af (o':=1) Bo rfl rfl) ?_
  refine sV (Ah BN rfl (Bx.cell (q4a.ext E0a) rfl)) ?_
  obtain ⟨r0h,h1h,f7d⟩:=Ab f9g
  refine sc (Ae Jp (by rfl)) (CN x0.Abs x1.Abs A1 c2 A4 c5 w3 (tbx X5a hT) (n3.ext X5a) (n6.ext X5a) r0h h1h) ?_
  rintro _ w4 E1a rfl
  refine nrm ?_
  have X8d:=xtr X5a E1a
  refine sb (Gi rfl rfl) fun z4b hz4b=>?_
  refine nrm ?_
  refine Ad<|h6d _ _ ?_
  rcases bft z4b with e8a | e8a
  ·have p2h:=zP hz4b e8a
   have f3h:=ifP p2h f7d
   refine wp_cond_true (Ak (evb rfl e8a))<|wp_seq_k fun K9d h9d=>DB [8] 9 mo rfl fun w5 E9a S5b=>have X6b:=xtr X8d E9a;dA 0 rfl (fun _=>Af (o':=0) DP rfl rfl) ?_
   refine dV 1 rfl (fun _ hw=>Ah FS rfl (Bx.cell (((((q3a.ext E2a).ext E0a).ext E1a).ext E9a).ext hw) rfl)) S5b ?_
   refine dA 2 rfl (fun _=>Af (o':=1) Bo rfl rfl) ?_
   refine dV 3 rfl (fun _ hw=>Ah BN rfl (Bx.cell (((((q3a.ext E2a).ext E0a).ext E1a).ext E9a).ext hw) rfl)) S5b ?_
   refine dA 4 rfl (fun _=>Af (o':=1) Bo rfl rfl) ?_
   refine dV 5 rfl (fun _ hw=>Ah BN rfl (Bx.cell ((((q4a.ext E0a).ext E1a).ext E9a).ext hw) rfl)) S5b ?_
   obtain ⟨r0e,h4h,f5h⟩:=Ab f3h
   refine dc 6 rfl (by kernel_rfl) (by rfl) (Ae Ly (by rfl)) (EB x0.Abs x1.Abs A1 c2 A4 c5 w5 (tbx X6b hT) (n3.ext X6b) (n6.ext X6b) r0e h4h) ?_
   rintro _ w6 E3c ⟨A6h,c7h,rfl,n8h⟩
   refine dnrm ?_
   have X1e:=xtr X6b E3c
   have S9h:=S5b.trans E3c
   obtain ⟨r0i,h1i,f2i⟩:=Ab f5h
   refine dc 7 rfl (by kernel_rfl) (by rfl) (Ae HP (by rfl)) (Bm x0.Neg r0e A6h c7h w6 (tbx X1e hT) n8h r0i h1i) ?_
   rintro _ w7 E4c ⟨A3i,c4i,rfl,n5i⟩
   refine dnrm ?_
   have X6i:=xtr X1e E4c
   have S1l:=S9h.trans E4c
   have q2e:=(((q9b.ext E1a).ext E9a).ext E3c).ext E4c
   refine dk 8 rfl (by kernel_rfl) (by decide) (by rfl) Jw rfl rfl q2e rfl rfl rfl rfl (by simp only [SP0,SP1,S0,S1,Nat.reduceAdd];rfl) fun w8 U3e q7i=>?_
   have X8i:=Bf X6i U3e g0c
   refine Cv (by kernel_rfl) ?_
   refine h9d _ _<|wp_ret ?_
   obtain rfl:=sj f2i
   exact fin rfl (Res.cellN rfl FR q7i rfl rfl Res.nil) (Al X8i ⟨A3i,c4i,rfl,(n5i.upd U3e q2e (by decide))⟩)
  ·have p9i:=zN hz4b e8a
   have f0j:=ifN p9i f7d
   refine wp_cond_false (Ak (evb rfl e8a))<|wp_skip<|h5d _ _<|wp_seq_k fun K4e h4e=>DB [8] 9 mo rfl fun w5 E0b S7b=>have X8b:=xtr X8d E0b;dA 0 rfl (fun _=>Af (o':=0) DP rfl rfl) ?_
   refine dV 1 rfl (fun _ hw=>Ah FS rfl (Bx.cell ((((q4a.ext E0a).ext E1a).ext E0b).ext hw) rfl)) S7b ?_
   refine dA 2 rfl (fun _=>Af (o':=1) Bo rfl rfl) ?_
   refine dV 3 rfl (fun _ hw=>Ah BN rfl (Bx.cell ((((q4a.ext E0a).ext E1a).ext E0b).ext hw) rfl)) S7b ?_
   refine dA 4 rfl (fun _=>Af (o':=1) Bo rfl rfl) ?_
   refine dV 5 rfl (fun _ hw=>Ah BN rfl (Bx.cell (((((q3a.ext E2a).ext E0a).ext E1a).ext E0b).ext hw) rfl)) S7b ?_
   obtain ⟨r5e,h1j,f2j⟩:=Ab f0j
   refine dc 6 rfl (by kernel_rfl) (by rfl) (Ae Ly (by rfl)) (EB x1.Abs x0.Abs A4 c5 A1 c2 w5 (tbx X8b hT) (n6.ext X8b) (n3.ext X8b) r5e h1j) ?_
   rintro _ w6 E5c ⟨A3j,c4j,rfl,n5j⟩
   refine dnrm ?_
   have X6e:=xtr X8b E5c
   have S6j:=S7b.trans E5c
   obtain ⟨r7j,h8j,f9j⟩:=Ab f2j
   refine dc 7 rfl (by kernel_rfl) (by rfl) (Ae HP (by rfl)) (Bm x1.Neg r5e A3j c4j w6 (tbx X6e hT) n5j r7j h8j) ?_
   rintro _ w7 E6c ⟨A0k,c1k,rfl,n2k⟩
   refine dnrm ?_
   have X3k:=xtr X6e E6c
   have S2l:=S6j.trans E6c
   have q7e:=(((q9b.ext E1a).ext E0b).ext E5c).ext E6c
   refine dk 8 rfl (by kernel_rfl) (by decide) (by rfl) Jw rfl rfl q7e rfl rfl rfl rfl (by simp only [SP0,SP1,S0,S1,Nat.reduceAdd];rfl) fun w8 U8e q4k=>?_
   have X5k:=Bf X3k U8e g0c
   refine Cv (by kernel_rfl) ?_
   refine h4e _ _<|wp_ret ?_
   obtain rfl:=sj f9j
   exact fin rfl (Res.cellN rfl FR q4k rfl rfl Res.nil) (Al X5k ⟨A0k,c1k,rfl,(n2k.upd U8e q7e (by decide))⟩)
theorem c_sorobanref04_Sum (x0:Aj) (x1:Aj) (A1:Option Addr) (c2:Nat) (A4:Option Addr) (c5:Nat) (w:World) (hT:TB w) (n3:RU w A1 c2 x0.Man.Abs) (n6:RU w A4 c5 x1.Man.Abs) (r:Aj) (hr:DR x0 x1=some r) :
  Calls Tryz.prog 46 #[.agg #[.bool x0.Man.Neg,.slice A1 (sz x0.Man.Abs) c2,.int .i64 x0.Exp],.agg #[.bool x1.Man.Neg,.slice A4 (sz x1.Man.Abs) c5,.int .i64 x1.Exp]] w (Ret IS w r):=by
 unfold DR at hr
 go_enter Tryz.func46,Tryz.ntmps46
 refine wp_seq_k fun K7 h7=>Ag<|BL rfl rfl fun b8 w1 E9 g0i q3a=>?_
 refine nrm ?_
 refine BL rfl rfl fun b1i w2 E1a g7d q4a=>?_
 refine nrm ?_
 have g2i:=nlt E9.size g7d
 have X8a:=xtr E9 E1a
 refine Ax FH fun b3i w3 E0a g2b q3b=>?_
 refine nrm ?_
 have g8d:=nlt X8a.size g2b
 have X9d:=xtr X8a E0a
 refine Ad<|h7 _ _<|wp_seq_k fun K9b h9b=>wp_seq_k fun K0c h0c=>Ag<|sV (Af (o':=0) DC rfl rfl) ?_
 refine sV (Af (o':=1) Bo rfl rfl) ?_
 refine sV (Ah BN rfl (Bx.cell ((q3a.ext E1a).ext E0a) rfl)) ?_
 refine sV (AH AD rfl) ?_
 refine sb (BQ rfl rfl) fun z9a hz9a=>?_
 refine nrm ?_
 refine Ad<|h0c _ _ ?_
 rcases bft z9a with e5a | e5a
 ·have p0e:=zP hz9a e5a
  have f1e:=ifP p0e hr
  refine wp_cond_true (Ak (evb rfl e5a))<|wp_seq_k fun K1c h1c=>Ag<|sV (An Bj rfl (q4a.ext E0a) rfl) ?_
  refine As Dq rfl rfl q3b rfl rfl rfl rfl (by simp only [SP0,SP1,S0,S1,Nat.reduceAdd];rfl) fun w4 U2e q3e=>?_
  have F4e:=Bf E0a U2e g2b
  have X2c:=xtr X8a F4e
  refine Ad<|h1c _ _<|wp_ret ?_
  obtain rfl:=sj f1e
  exact fin rfl (Res.cellN rfl Bj q3e rfl rfl Res.nil) (Al X2c ⟨A4,c5,rfl,(n6.ext X2c)⟩)
 ·have p5e:=zN hz9a e5a
  have f3c:=ifN p5e hr
  refine wp_cond_false (Ak (evb rfl e5a))<|wp_skip<|h9b _ _<|wp_seq_k fun K4c h4c=>wp_seq_k fun K5c h5c=>Ag<|sV (Af (o':=0) DC rfl rfl) ?_
  refine sV (Af (o':=1) Bo rfl rfl) ?_
  refine sV (Ah BN rfl (Bx.cell (q4a.ext E0a) rfl)) ?_
  refine sV (AH AD rfl) ?_
  refine sb (BQ rfl rfl) fun z0b hz0b=>?_
  refine nrm ?_
  refine Ad<|h5c _ _ ?_
  rcases bft z0b with e6a | e6a
  ·have p6e:=zP hz0b e6a
   have f7e:=ifP p6e f3c
   refine wp_cond_true (Ak (evb rfl e6a))<|wp_seq_k fun K6c h6c=>Ag<|sV (An Bj rfl ((q3a.ext E1a).ext E0a) rfl) ?_
   refine As Dq rfl rfl q3b rfl rfl rfl rfl (by simp only [SP0,SP1,S0,S1,Nat.reduceAdd];rfl) fun w4 U8e q9e=>?_
   have F0f:=Bf E0a U8e g2b
   have X7c:=xtr X8a F0f
   refine Ad<|h6c _ _<|wp_ret ?_
   obtain rfl:=sj f7e
   exact fin rfl (Res.cellN rfl Bj q9e rfl rfl Res.nil) (Al X7c ⟨A1,c2,rfl,(n3.ext X7c)⟩)
  ·have p1f:=zN hz0b e6a
   have f2f:=ifN p1f f3c
   refine wp_cond_false (Ak (evb rfl e6a))<|wp_skip<|h4c _ _<|wp_seq_k fun K8c h8c=>Ag<|sV (Af (o':=2) Ek rfl rfl) ?_
   refine sV (Ah Fl rfl (Bx.cell ((q3a.ext E1a).ext E0a) rfl)) ?_
   refine sV (Af (o':=2) Ek rfl rfl) ?_
   refine sV (Ah Fl rfl (Bx.cell (q4a.ext E0a) rfl)) ?_
   refine sV (MW rfl rfl) ?_
   refine sV (Ac rfl) ?_
   refine Ad<|h8c _ _<|wp_seq_k fun K9c h9c=>DB [17] 18 mo rfl fun w4 E2a S7a=>have X4b:=xtr X9d E2a;dA 0 rfl (fun _=>Af (o':=0) DC rfl rfl) ?_
   refine dV 1 rfl (fun _ hw=>Aq FR rfl ((((q3a.ext E1a).ext E0a).ext E2a).ext hw) (by simp only [List.drop_zero,List.take_succ_cons,List.take_zero];rfl) rfl) S7a ?_
   refine dA 2 rfl (fun _=>Af (o':=2) Ek rfl rfl) ?_
   refine dV 3 rfl (fun _ hw=>Ah Fl rfl (Bx.cell ((((q3a.ext E1a).ext E0a).ext E2a).ext hw) rfl)) S7a ?_
   refine dA 4 rfl (fun _=>Aa rfl) ?_
   refine dA 5 rfl (fun _=>Bq (c:=wi64 (x0.Exp - (min x0.Exp x1.Exp))) rfl rfl rfl) ?_
   refine dA 7 rfl (fun _=>Af (o':=0) DC rfl rfl) ?_
   refine dV 8 rfl (fun _ hw=>Aq FR rfl (((q4a.ext E0a).ext E2a).ext hw) (by simp only [List.drop_zero,List.take_succ_cons,List.take_zero];rfl) rfl) S7a ?_
   refine dA 9 rfl (fun _=>Af (o':=2) Ek rfl rfl) ?_
   refine dV 10 rfl (fun _ hw=>Ah Fl rfl (Bx.cell (((q4a.ext E0a).ext E2a).ext hw) rfl)) S7a ?_
   refine dA 11 rfl (fun _=>Aa rfl) ?_
   refine dA 12 rfl (fun _=>Bq (c:=wi64 (x1.Exp - (min x0.Exp x1.Exp))) rfl rfl rfl) ?_
   refine dA 15 rfl (fun _=>Aa rfl) ?_
   obtain ⟨r0d,h3f,f4f⟩:=Ab f2f
   refine dc 6 rfl (by kernel_rfl) (by rfl) (Ae Mq (by rfl)) (Ga x0.Man (wi64 (x0.Exp - (min x0.Exp x1.Exp))) A1 c2 w4 (tbx X4b hT) (n3.ext X4b) r0d h3f) ?_
   rintro _ w5 E5b ⟨A5f,c6f,rfl,n7f⟩
   refine dnrm ?_
   have X6b:=xtr X4b E5b
   have S8f:=S7a.trans E5b
   obtain ⟨r1d,h9f,f0g⟩:=Ab f4f
   refine dc 13 rfl (by kernel_rfl) (by rfl) (Ae Mq (by rfl)) (Ga x1.Man (wi64 (x1.Exp - (min x0.Exp x1.Exp))) A4 c5 w5 (tbx X6b hT) (n6.ext X6b) r1d h9f) ?_
   rintro _ w6 E1b ⟨A1g,c2g,rfl,n3g⟩
   refine dnrm ?_
   have X2d:=xtr X6b E1b
   have S4g:=S8f.trans E1b
   obtain ⟨r3d,h5g,f6g⟩:=Ab f0g
   refine dc 14 rfl (by kernel_rfl) (by rfl) (Ae en_129 (by rfl)) (c_sorobanref03_AddInt r0d r1d A5f c6f A1g c2g w6 (tbx X2d hT) (n7f.ext E1b) n3g r3d h5g) ?_
   rintro _ w7 E7b ⟨A7g,c8g,rfl,n9g⟩
   refine dnrm ?_
   have X4d:=xtr X2d E7b
   have S0h:=S4g.trans E7b
   obtain ⟨r1h,h2h,f3h⟩:=Ab f6g
   refine dc 16 rfl (by kernel_rfl) (by rfl) (Ae MR (by rfl)) (Gx r3d (min x0.Exp x1.Exp) A7g c8g w7 (tbx X4d hT) n9g r1h h2h) ?_
   rintro _ w8 E8b ⟨A4h,c5h,rfl,n6h⟩
   refine dnrm ?_
   have X7h:=xtr X4d E8b
   have S4i:=S0h.trans E8b
   have q5d:=((((q3b.ext E2a).ext E5b).ext E1b).ext E7b).ext E8b
   refine dk 17 rfl (by kernel_rfl) (by decide) (by rfl) Dq rfl rfl q5d rfl rfl rfl rfl (by simp only [SP0,SP1,S0,S1,Nat.reduceAdd];rfl) fun w9 U6d q8h=>?_
   have X9h:=Bf X7h U6d g8d
   refine Cv (by kernel_rfl) ?_
   refine h9c _ _<|wp_ret ?_
   obtain rfl:=sj f3h
   exact fin rfl (Res.cellN rfl Bj q8h rfl rfl Res.nil) (Al X9h ⟨A4h,c5h,rfl,(n6h.upd U6d q5d (by decide))⟩)
theorem FJ (x0:Aj) (A1:Option Addr) (c2:Nat) (w:World) (hT:TB w) (n3:RU w A1 c2 x0.Man.Abs) (r:Int) (hr:Bp x0=some r) :
  Calls Tryz.prog 23 #[.agg #[.bool x0.Man.Neg,.slice A1 (sz x0.Man.Abs) c2,.int .i64 x0.Exp]] w (Ret Gg w r):=by
 unfold Bp at hr
 go_enter Tryz.func23,Tryz.ntmps23
 refine wp_seq_k fun K4 h4=>Ag<|BL rfl rfl fun b5 w1 E6 g7 q8=>?_
 refine nrm ?_
 refine sV (Ac rfl) ?_
 refine Ad<|h4 _ _<|wp_seq_k fun K9 h9=>wp_seq_k fun K3a h3a=>Ag<|sV (Af (o':=0) DC rfl rfl) ?_
 refine sV (Af (o':=1) Bo rfl rfl) ?_
 refine sV (Ah BN rfl (Bx.cell q8 rfl)) ?_
 refine sV (AH AD rfl) ?_
 refine sb (BQ rfl rfl) fun z2a hz2a=>?_
 refine nrm ?_
 refine Ad<|h3a _ _ ?_
 rcases bft z2a with e0a | e0a
 ·have p0b:=zP hz2a e0a
  have f1b:=ifP p0b hr
  refine wp_cond_true (Ak (evb rfl e0a))<|wp_seq_k fun K4a h4a=>Ag<|sV (Ac rfl) ?_
  refine Ad<|h4a _ _<|wp_ret ?_
  obtain rfl:=sj f1b
  exact fin rfl (Res.tmp rfl Res.nil) (Al E6 rfl)
 ·have p2b:=zN hz2a e0a
  have f5a:=ifN p2b hr
  refine wp_cond_false (Ak (evb rfl e0a))<|wp_skip<|h9 _ _<|wp_seq_k fun K6a h6a=>wp_seq_k fun K7a h7a=>Ag<|sV (Af (o':=0) DC rfl rfl) ?_
  refine sV (Af (o':=0) DP rfl rfl) ?_
  refine sV (Ah FS rfl (Bx.cell q8 rfl)) ?_
  refine Ad<|h7a _ _ ?_
  rcases bft x0.Man.Neg with e1a | e1a
  ·have p3b:=e1a
   have f4b:=ifP p3b f5a
   refine wp_cond_true (Ak (evb rfl e1a))<|wp_seq_k fun K8a h8a=>Ag<|sV (Ac rfl) ?_
   refine Ad<|h8a _ _<|wp_ret ?_
   obtain rfl:=sj f4b
   exact fin rfl (Res.tmp rfl Res.nil) (Al E6 rfl)
  ·have p5b:=bF e1a
   have f6b:=ifN p5b f5a
   refine wp_cond_false (Ak (evb rfl e1a))<|wp_skip<|h6a _ _<|wp_seq_k fun K9a h9a=>Ag<|sV (Ac rfl) ?_
   refine Ad<|h9a _ _<|wp_ret ?_
   obtain rfl:=sj f6b
   exact fin rfl (Res.tmp rfl Res.nil) (Al E6 rfl)
theorem c_sorobanref04_Compare (x0:Aj) (x1:Aj) (A1:Option Addr) (c2:Nat) (A4:Option Addr) (c5:Nat) (w:World) (hT:TB w) (n3:RU w A1 c2 x0.Man.Abs) (n6:RU w A4 c5 x1.Man.Abs) (r:Int) (hr:Ei x0 x1=some r) :
  Calls Tryz.prog 83 #[.agg #[.bool x0.Man.Neg,.slice A1 (sz x0.Man.Abs) c2,.int .i64 x0.Exp],.agg #[.bool x1.Man.Neg,.slice A4 (sz x1.Man.Abs) c5,.int .i64 x1.Exp]] w (Ret Gg w r):=by
 unfold Ei at hr
 go_enter Tryz.func83,Tryz.ntmps83
 refine wp_seq_k fun K7 h7=>Ag<|BL rfl rfl fun b8 w1 E9 g2d q2b=>?_
 refine nrm ?_
 refine BL rfl rfl fun b3d w2 E4a g3b q4b=>?_
 refine nrm ?_
 have g4d:=nlt E9.size g3b
 have X5b:=xtr E9 E4a
 refine sV (Ac rfl) ?_
 refine Ad<|h7 _ _<|wp_seq_k fun K5a h5a=>DB [] 6 mo rfl fun w3 E0a S1a=>have X2a:=xtr X5b E0a;dV 0 rfl (fun _ hw=>An Bj rfl (((q2b.ext E4a).ext E0a).ext hw) rfl) S1a ?_
 refine dV 1 rfl (fun _ hw=>An Bj rfl ((q4b.ext E0a).ext hw) rfl) S1a ?_
 obtain ⟨r6a,h6b,f7b⟩:=Ab hr
 refine dc 2 rfl (by kernel_rfl) (by rfl) (Ae en_47 (by rfl)) (c_sorobanref04_Minus x1 A4 c5 w3 (tbx X2a hT) (n6.ext X2a) r6a h6b) ?_
 rintro _ w4 E7a ⟨A8b,c9b,rfl,n0c⟩
 refine dnrm ?_
 have X3a:=xtr X2a E7a
 have S1c:=S1a.trans E7a
 obtain ⟨r8a,h2c,f3c⟩:=Ab f7b
 refine dc 3 rfl (by kernel_rfl) (by rfl) (Ae en_46 (by rfl)) (c_sorobanref04_Sum x0 r6a A1 c2 A8b c9b w4 (tbx X3a hT) (n3.ext X3a) n0c r8a h2c) ?_
 rintro _ w5 E9a ⟨A4c,c5c,rfl,n6c⟩
 refine dnrm ?_
 have X0b:=xtr X3a E9a
 have S7c:=S1c.trans E9a
 obtain ⟨r8c,h9c,f0d⟩:=Ab f3c
 refine dc 4 rfl (by kernel_rfl) (by rfl) (Ae MN (by rfl)) (FJ r8a A4c c5c w5 (tbx X0b hT) n6c r8c h9c) ?_
 rintro _ w6 E1b rfl
 refine dnrm ?_
 have X1d:=xtr X0b E1b
 have S5d:=S7c.trans E1b
 refine dA 5 rfl (fun _=>Ac rfl) ?_
 refine Cv (by kernel_rfl) ?_
 refine h5a _ _<|wp_ret ?_
 obtain rfl:=sj f0d
 exact fin rfl (Res.tmp rfl Res.nil) (Al X1d rfl)
theorem Hq (x0:Au) (A1:Option Addr) (c2:Nat) (A4:Option Addr) (c5:Nat) (w:World) (hT:TB w) (n3:RLu w A1 c2 x0.Lo.Man.Abs) (n6:RLu w A4 c5 x0.Hi.Man.Abs) (r:Bool) (hr:DI x0=some r) :
  Calls Tryz.prog 17 #[.agg #[.bool x0.Lo.Man.Neg,.slice A1 x0.Lo.Man.Abs.length c2,.int .i64 x0.Lo.Exp,.bool x0.Hi.Man.Neg,.slice A4 x0.Hi.Man.Abs.length c5,.int .i64 x0.Hi.Exp]] w (Ret Gl w r):=by
 unfold DI at hr
 go_enter Tryz.func17,Tryz.ntmps17
 refine wp_seq_k fun K7 h7=>Ag<|BL rfl rfl fun b8 w1 E9 g5f q3a=>?_
 refine nrm ?_
 refine sV (Ac rfl) ?_
 refine Ad<|h7 _ _<|wp_seq_k fun K9a h9a=>Ag<|sV (Af (o':=0) FI rfl rfl) ?_
 refine sV (Aq Bj rfl q3a (by simp only [List.drop_zero,List.take_succ_cons,List.take_zero];rfl) rfl) ?_
 obtain ⟨r0b,h8c,f9c⟩:=Ab hr
 refine sc (Ae La (by rfl)) (Eb x0.Lo A1 c2 w1 (tbx E9 hT) (n3.ext E9) r0b h8c) ?_
 rintro _ w2 E4a rfl
 refine nrm ?_
 have X5a:=xtr E9 E4a
 refine sV (Aa rfl) ?_
 obtain ⟨m1b,h2b,f0d⟩:=Ab f9c
 refine BR 8 (fun l l' w'=>∃(t3b:Value) (t4b:Value) (t5b:Value),UpdS [] w2 w'∧l'=((((l.set 7 t3b).set 8 t4b).set 9 t5b).set 10 (.bool m1b))) ?_ ?_
 ·intro HJ35
  rcases bft r0b with e1a | e1a
  ·have p1d:=e1a
   have f2d:=ifP p1d h2b
   refine sV (Af (o':=3) FY rfl rfl) ?_ (hw:=wgT rfl e1a)
   refine sV (Aq Bj rfl (q3a.ext E4a) (by simp only [List.drop_succ_cons,List.drop_zero,List.take_succ_cons,List.take_zero];rfl) rfl) ?_ (hw:=wgT rfl e1a)
   obtain ⟨r6b,h3d,f4d⟩:=Ab f2d
   refine sc (Ae La (by rfl)) (Eb x0.Hi A4 c5 w2 (tbx X5a hT) (n6.ext X5a) r6b h3d) ?_ (hw:=wgT rfl e1a)
   rintro _ w3 E5d rfl
   refine nrm ?_
   refine sV (Ay (evb rfl e1a) rfl) ?_
   obtain rfl:=sj f4d
   exact HJ35 _ _ ⟨(.pointer (some ⟨b8,3,none⟩)),(.agg #[.bool x0.Hi.Man.Neg,.slice A4 x0.Hi.Man.Abs.length c5,.int .i64 x0.Hi.Exp]),(.bool r6b),((UpdS.refl _ _).ext E5d),(by simp only [S0,S1]<;>rfl)⟩
  ·have p6d:=bF e1a
   have f7d:=ifN p6d h2b
   refine sP ?_ (hw:=wgF rfl e1a)
   refine sP ?_ (hw:=wgF rfl e1a)
   refine sP ?_ (hw:=wgF rfl e1a)
   refine sV (AB (evb rfl e1a) rfl) ?_
   obtain rfl:=sj f7d
   exact HJ35 _ _ ⟨uu,uu,uu,(UpdS.refl _ _),(by simp only [S0,S1]<;>rfl)⟩
 ·rintro l' w3 ⟨t3b,t4b,t5b,U7a,hq'⟩ l'' hl
  rw [hq'] at hl
  clear hq'
  simp only [S0,S1] at hl
  subst hl
  have X2a:=GQ X5a U7a (X5a).size al0
  refine sV (Aa rfl) ?_
  obtain ⟨m8d,h7b,f9d⟩:=Ab f0d
  refine BR 16 (fun l l' w'=>∃(t8b:Value) (t9b:Value) (t0c:Value) (t1c:Value) (t2c:Value) (t3c:Value),UpdS [] w3 w'∧l'=(((((((l.set 12 t8b).set 13 t9b).set 14 t0c).set 15 t1c).set 16 t2c).set 17 t3c).set 18 (.bool m8d))) ?_ ?_
  ·intro HJ78
   rcases bft m1b with e0a | e0a
   ·have p0e:=e0a
    have f1e:=ifP p0e h7b
    refine sV (Af (o':=0) FI rfl rfl) ?_ (hw:=wgT rfl e0a)
    refine sV (Aq Bj rfl ((q3a.ext E4a).updS U7a nm0) (by simp only [List.drop_zero,List.take_succ_cons,List.take_zero];rfl) rfl) ?_ (hw:=wgT rfl e0a)
    refine sV (Af (o':=3) FY rfl rfl) ?_ (hw:=wgT rfl e0a)
    refine sV (Aq Bj rfl ((q3a.ext E4a).updS U7a nm0) (by simp only [List.drop_succ_cons,List.drop_zero,List.take_succ_cons,List.take_zero];rfl) rfl) ?_ (hw:=wgT rfl e0a)
    obtain ⟨m4c,h2e,f3e⟩:=Ab f1e
    have hx5c:=Cu h2e
    have n4e:RU w3 A1 c2 m4c:=by unfold RU;rw [hx5c];exact (n3.ext X2a)
    obtain ⟨m6c,h5e,f6e⟩:=Ab f3e
    have hx7c:=Cu h5e
    have n7e:RU w3 A4 c5 m6c:=by unfold RU;rw [hx7c];exact (n6.ext X2a)
    obtain ⟨r6a,h8e,f9e⟩:=Ab f6e
    refine sc (Ae en_83 (by simp only [sz,hx5c,hx7c];rfl)) (c_sorobanref04_Compare (⟨(⟨x0.Lo.Man.Neg,m4c⟩:Ai),x0.Lo.Exp⟩:Aj) (⟨(⟨x0.Hi.Man.Neg,m6c⟩:Ai),x0.Hi.Exp⟩:Aj) A1 c2 A4 c5 w3 (tbx X2a hT) n4e n7e r6a h8e) ?_ (hw:=wgT rfl e0a)
    rintro _ w4 E0f rfl
    refine nrm ?_
    refine sb (GR rfl rfl) ?_ (hw:=wgT rfl e0a)
    intro z8a hz8a
    refine nrm ?_
    refine sV (Ay (evb rfl e0a) rfl) ?_
    obtain rfl:z8a=decide (r6a≤0):=bz hz8a
    obtain rfl:=sj f9e
    exact HJ78 _ _ ⟨(.pointer (some ⟨b8,0,none⟩)),(.agg #[.bool x0.Lo.Man.Neg,.slice A1 x0.Lo.Man.Abs.length c2,.int .i64 x0.Lo.Exp]),(.pointer (some ⟨b8,3,none⟩)),(.agg #[.bool x0.Hi.Man.Neg,.slice A4 x0.Hi.Man.Abs.length c5,.int .i64 x0.Hi.Exp]),(.int .i64 r6a),(.bool (decide (r6a≤0))),((UpdS.refl _ _).ext E0f),(by simp only [S0,S1]<;>rfl)⟩
   ·have p1f:=bF e0a
    have f2f:=ifN p1f h7b
    refine sP ?_ (hw:=wgF rfl e0a)
    refine sP ?_ (hw:=wgF rfl e0a)
    refine sP ?_ (hw:=wgF rfl e0a)
    refine sP ?_ (hw:=wgF rfl e0a)
    refine sP ?_ (hw:=wgF rfl e0a)
    refine sP ?_ (hw:=wgF rfl e0a)
    refine sV (AB (evb rfl e0a) rfl) ?_
    obtain rfl:=sj f2f
    exact HJ78 _ _ ⟨uu,uu,uu,uu,uu,uu,(UpdS.refl _ _),(by simp only [S0,S1]<;>rfl)⟩
  ·rintro l' w4 ⟨t8b,t9b,t0c,t1c,t2c,t3c,U3f,hq'⟩ l'' hl
   rw [hq'] at hl
   clear hq'
   simp only [S0,S1] at hl
   subst hl
   have X4f:=GQ X2a U3f (X2a).size al0
   refine sV (Ac rfl) ?_
   refine Ad<|h9a _ _<|wp_ret ?_
   obtain rfl:=sj f9d
   exact fin rfl (Res.tmp rfl Res.nil) (Al X4f rfl)
theorem Ib (x0:Bool) (w:World) (hT:TB w) (r:Int) (hr:Dd x0=some r) :
  Calls Tryz.prog 18 #[.bool x0] w (Ret rep_33 w r):=by
 unfold Dd at hr
 go_enter Tryz.func18,Tryz.ntmps18
 refine wp_seq_k fun K1 h1=>Ag<|sV (Ac rfl) ?_
 refine Ad<|h1 _ _<|wp_seq_k fun K2 h2=>wp_seq_k fun K3 h3=>Ag<|sV (Aa rfl) ?_
 refine sb (GH rfl) fun z4 hz4=>?_
 refine nrm ?_
 refine Ad<|h3 _ _ ?_
 rcases bft z4 with e0a | e0a
 ·have p3a:=zP hz4 e0a
  have f4a:=ifP p3a hr
  refine wp_cond_true (Ak (evb rfl e0a))<|wp_seq_k fun K1a h1a=>Ag<|sV (Ac rfl) ?_
  refine Ad<|h1a _ _<|wp_ret ?_
  obtain rfl:=sj f4a
  exact fin rfl (Res.tmp rfl Res.nil) (Al (Ext.refl _) rfl)
 ·have p5a:=zN hz4 e0a
  have f6a:=ifN p5a hr
  refine wp_cond_false (Ak (evb rfl e0a))<|wp_skip<|h2 _ _<|wp_seq_k fun K2a h2a=>Ag<|sV (Ac rfl) ?_
  refine Ad<|h2a _ _<|wp_ret ?_
  obtain rfl:=sj f6a
  exact fin rfl (Res.tmp rfl Res.nil) (Al (Ext.refl _) rfl)
theorem c_sorobanref04_Side (x0:Am) (A1:Option Addr) (c2:Nat) (A4:Option Addr) (c5:Nat) (w:World) (hT:TB w) (n3:RU w A1 c2 x0.Lo.Man.Abs) (n6:RU w A4 c5 x0.Hi.Man.Abs) (r:Int) (hr:EV x0=some r) :
  Calls Tryz.prog 19 #[.agg #[.bool x0.Lo.Man.Neg,.slice A1 (sz x0.Lo.Man.Abs) c2,.int .i64 x0.Lo.Exp,.bool x0.Hi.Man.Neg,.slice A4 (sz x0.Hi.Man.Abs) c5,.int .i64 x0.Hi.Exp]] w (Ret Gg w r):=by
 unfold EV at hr
 go_enter Tryz.func19,Tryz.ntmps19
 refine wp_seq_k fun K7 h7=>Ag<|BL rfl rfl fun b8 w1 E9 g0d q5a=>?_
 refine nrm ?_
 refine sV (Ac rfl) ?_
 refine Ad<|h7 _ _<|wp_seq_k fun K6a h6a=>wp_seq_k fun K7a h7a=>Ag<|sV (Af (o':=0) FI rfl rfl) ?_
 refine sV (Aq Bj rfl q5a (by simp only [List.drop_zero,List.take_succ_cons,List.take_zero];rfl) rfl) ?_
 obtain ⟨r7b,h8b,f8a⟩:=Ab hr
 refine sc (Ae MN (by rfl)) (FJ x0.Lo A1 c2 w1 (tbx E9 hT) (n3.ext E9) r7b h8b) ?_
 rintro _ w2 E9a rfl
 refine nrm ?_
 have X2a:=xtr E9 E9a
 refine sb (Eh rfl rfl) fun z3a hz3a=>?_
 refine nrm ?_
 refine Ad<|h7a _ _ ?_
 rcases bft z3a with e0a | e0a
 ·have p9b:=zP hz3a e0a
  have f0c:=ifP p9b f8a
  refine wp_cond_true (Ak (evb rfl e0a))<|wp_seq_k fun K0b h0b=>Ag<|sV (Ac rfl) ?_
  refine Ad<|h0b _ _<|wp_ret ?_
  obtain rfl:=sj f0c
  exact fin rfl (Res.tmp rfl Res.nil) (Al X2a rfl)
 ·have p1c:=zN hz3a e0a
  have f2c:=ifN p1c f8a
  refine wp_cond_false (Ak (evb rfl e0a))<|wp_skip<|h6a _ _<|wp_seq_k fun K1b h1b=>wp_seq_k fun K2b h2b=>Ag<|sV (Af (o':=3) FY rfl rfl) ?_
  refine sV (Aq Bj rfl (q5a.ext E9a) (by simp only [List.drop_succ_cons,List.drop_zero,List.take_succ_cons,List.take_zero];rfl) rfl) ?_
  obtain ⟨r3c,h4c,f3b⟩:=Ab f2c
  refine sc (Ae MN (by rfl)) (FJ x0.Hi A4 c5 w2 (tbx X2a hT) (n6.ext X2a) r3c h4c) ?_
  rintro _ w3 E5c rfl
  refine nrm ?_
  have X4b:=xtr X2a E5c
  refine sb (Cz rfl rfl) fun z4a hz4a=>?_
  refine nrm ?_
  refine Ad<|h2b _ _ ?_
  rcases bft z4a with e1a | e1a
  ·have p6c:=zP hz4a e1a
   have f7c:=ifP p6c f3b
   refine wp_cond_true (Ak (evb rfl e1a))<|wp_seq_k fun K5b h5b=>Ag<|sV (Ac rfl) ?_
   refine Ad<|h5b _ _<|wp_ret ?_
   obtain rfl:=sj f7c
   exact fin rfl (Res.tmp rfl Res.nil) (Al X4b rfl)
  ·have p8c:=zN hz4a e1a
   have f9c:=ifN p8c f3b
   refine wp_cond_false (Ak (evb rfl e1a))<|wp_skip<|h1b _ _<|wp_seq_k fun K6b h6b=>Ag<|sV (Ac rfl) ?_
   refine Ad<|h6b _ _<|wp_ret ?_
   obtain rfl:=sj f9c
   exact fin rfl (Res.tmp rfl Res.nil) (Al X4b rfl)
theorem c_sorobanref01_Gcd (x0:Nat) (x1:Nat) (A1:Option Addr) (c2:Nat) (A4:Option Addr) (c5:Nat) (w:World) (hT:TB w) (n3:RU w A1 c2 x0) (n6:RU w A4 c5 x1) (r:Nat) (hr:Fg x0 x1=some r) :
  Calls Tryz.prog 145 #[.slice A1 (sz x0) c2,.slice A4 (sz x1) c5] w (Ret IR w r):=by
 unfold Fg at hr
 go_enter Tryz.func145,Tryz.ntmps145
 refine wp_seq_k fun K7 h7=>Ag<|sV (Ac rfl) ?_
 refine Ad<|h7 _ _<|wp_seq_k fun K8 h8=>?_
 obtain ⟨m3b,h2d,f3d⟩:=Ab hr
 refine BM (fun l l' w'=>∃(A1b:Option Addr) (c2b:Nat) (t2a:Nat→Value),Ext w w'∧RU w' A1b c2b m3b∧l'=((((((((((((l.set 0 (.slice A1b (sz m3b) c2b)).set 1 (t2a 0)).set 5 (t2a 1)).set 6 (t2a 2)).set 7 (t2a 3)).set 8 (t2a 4)).set 9 (t2a 5)).set 10 (t2a 6)).set 11 (t2a 7)).set 12 (t2a 8)).set 13 (t2a 9)).set 14 (t2a 10))) ?_ ?_
 ·apply wp_block
  refine AZ (fun l n1c l' w'=>∃(v5a:Nat) (v1a:Nat) (A6a:Option Addr) (c7a:Nat) (A3a:Option Addr) (c4a:Nat) (t0a:Nat→Value),Ext w w'∧RU w' A6a c7a v5a∧RU w' A3a c4a v1a∧Ci x0 x1 n1c v5a v1a=some m3b∧l'=((((((((((((l.set 0 (.slice A6a (sz v5a) c7a)).set 1 (.slice A3a (sz v1a) c4a)).set 5 (t0a 0)).set 6 (t0a 1)).set 7 (t0a 2)).set 8 (t0a 3)).set 9 (t0a 4)).set 10 (t0a 5)).set 11 (t0a 6)).set 12 (t0a 7)).set 13 (t0a 8)).set 14 (t0a 9))) 18446744073709551616 ?_ ?_ ?_
  ·exact ⟨x0,x1,A1,c2,A4,c5,(tk [uu,uu,uu,uu,uu,uu,uu,uu,uu,uu]),(Ext.refl _),n3,n6,h2d,(by simp only [S0,S1]<;>rfl)⟩
  ·rintro l' w' ⟨v5a,v1a,A6a,c7a,A3a,c4a,t0a,_,_,_,hz,_⟩
   exact nomatch hz
  ·rintro n1c ih4d l' w1 ⟨v5a,v1a,A6a,c7a,A3a,c4a,t0a,X4b,n2c,n3c,hr5b,hq'⟩ l'' hl
   rw [hq'] at hl
   clear hq'
   simp only [S0,S1] at hl
   subst hl
   unfold Ci at hr5b
   refine Bg<|wp_seq_k fun K4c h4c=>wp_seq_k fun K5c h5c=>Ag<|sV (Aa rfl) ?_
   refine sV (AH AD rfl) ?_
   refine sb (Eh rfl rfl) fun z8a hz8a=>?_
   refine nrm ?_
   refine Ad<|h5c _ _ ?_
   rcases bft z8a with e9a | e9a
   ·have p5d:=zP hz8a e9a
    have f6d:=ifP p5d hr5b
    refine wp_cond_true (Ak (evb rfl e9a))<|wp_skip<|h4c _ _ ?_
    apply wp_block
    refine wp_seq_k fun K6c h6c=>Ag<|sV (Aa rfl) ?_
    refine sV (Aa rfl) ?_
    obtain ⟨r0b,h7d,f8d⟩:=Ab f6d
    refine sc (Ae Ka (by rfl)) (Dm v5a v1a A6a c7a A3a c4a w1 (tbx X4b hT) n2c n3c r0b h7d) ?_
    rintro _ w2 E7c ⟨A9d,c0e,A6b,c7b,rfl,n3f,n1e⟩
    refine nrm ?_
    have X8c:=xtr X4b E7c
    refine Ax IM fun b9c w3 E8b g2e q9b=>?_
    refine nrm ?_
    have g3e:=nlt X8c.size g2e
    have X4e:=xtr X8c E8b
    refine As Hz rfl rfl q9b rfl rfl rfl rfl (by simp only [SP0,SP1,S0,S1,Nat.reduceAdd];rfl) fun w4 U0c q5e=>?_
    have X6e:=Bf X4e U0c g3e
    refine Ad<|h6c _ _<|wp_seq_k fun K0d h0d=>Ag<|sV (Aa rfl) ?_
    refine sV (Ac rfl) ?_
    refine Ad<|h0d _ _<|Ag<|sV (Af (o':=1) Jo rfl rfl) ?_
    refine sV (Ah BN rfl (Bx.cell q5e rfl)) ?_
    refine sV (Ac rfl) ?_
    refine Ad ?_
    have n7e:=((n3c.ext E7c).ext E8b).upd U0c q9b (by decide)
    have n8e:=(n1e.ext E8b).upd U0c q9b (by decide)
    exact ih4d _ _ ⟨v1a,r0b.R,A3a,c4a,A6b,c7b,(tk [.pointer (some ⟨b9c,0,none⟩),.slice A3a (sz v1a) c4a,.int .i64 (sz v1a:Int),.bool z8a,.slice A6a (sz v5a) c7a,.slice A3a (sz v1a) c4a,.agg #[.slice A9d (sz r0b.Q) c0e,.slice A6b (sz r0b.R) c7b],.slice A3a (sz v1a) c4a,.pointer (some ⟨b9c,1,none⟩),.slice A6b (sz r0b.R) c7b]),X6e,n7e,n8e,f8d,(by simp only [S0,S1]<;>rfl)⟩
   ·have p9e:=zN hz8a e9a
    have f0f:=ifN p9e hr5b
    refine wp_cond_false (Ak (evb rfl e9a))<|wp_exit ?_
    simp only [Exit.then,Exit.inBlock,↓reduceIte,Nat.reduceEqDiff]
    obtain rfl:=sj f0f
    exact ⟨_,rfl,A6a,c7a,(tk [.slice A3a (sz v1a) c4a,t0a 0,.slice A3a (sz v1a) c4a,.int .i64 (sz v1a:Int),.bool z8a,t0a 4,t0a 5,t0a 6,t0a 7,t0a 8,t0a 9]),X4b,n2c,(by simp only [S0,S1]<;>rfl)⟩
 ·rintro l' w1 ⟨A1b,c2b,t2a,X1f,n2f,hq'⟩ l'' hl
  rw [hq'] at hl
  clear hq'
  simp only [S0,S1] at hl
  subst hl
  refine h8 _ _<|wp_seq_k fun K1d h1d=>Ag<|sV (Aa rfl) ?_
  refine sV (Ac rfl) ?_
  refine Ad<|h1d _ _<|wp_ret ?_
  obtain rfl:=sj f3d
  exact fin rfl (Res.tmp rfl Res.nil) (Al X1f ⟨A1b,c2b,rfl,n2f⟩)
theorem FZ (w:World) (hT:TB w) (r:Nat) (hr:BY=some r) :
  Calls Tryz.prog 146 #[] w (Ret IR w r):=by
 unfold BY at hr
 go_enter Tryz.func146,Tryz.ntmps146
 refine wp_seq_k fun K1 h1=>Ag<|sV (Ac rfl) ?_
 refine Ad<|h1 _ _<|wp_seq_k fun K2 h2=>Ag<|CM (vals:=[(0,.int .u32 1)]) (cs:=[.int .u32 1]) AD Ar Ex (by rfl) (by decide) (by kernel_rfl) fun b3 w1 E4 g5 q6=>?_
 refine nrm ?_
 have n7:=RL.lit1 q6 (by decide)
 refine sV (Ac rfl) ?_
 refine Ad<|h2 _ _<|wp_ret ?_
 obtain rfl:=sj hr
 exact fin rfl (Res.tmp rfl Res.nil) (Al E4 ⟨(some ⟨b3,0,none⟩),1,rfl,n7⟩)
theorem Hf (x0:Ai) (x1:Nat) (A1:Option Addr) (c2:Nat) (A4:Option Addr) (c5:Nat) (w:World) (hT:TB w) (n3:RU w A1 c2 x0.Abs) (n6:RU w A4 c5 x1) (r:Cg) (hr:Ej x0 x1=some r) :
  Calls Tryz.prog 160 #[.agg #[.bool x0.Neg,.slice A1 (sz x0.Abs) c2],.slice A4 (sz x1) c5] w (Ret Ms w r):=by
 unfold Ej at hr
 go_enter Tryz.func160,Tryz.ntmps160
 refine wp_seq_k fun K7 h7=>Ag<|BL rfl rfl fun b8 w1 E9 g3e q7a=>?_
 refine nrm ?_
 refine Ax KI fun b8h w2 E3a g4e q6c=>?_
 refine nrm ?_
 have g7c:=nlt E9.size g4e
 have X8a:=xtr E9 E3a
 refine Ad<|h7 _ _<|wp_seq_k fun K8c h8c=>Ag<|sV (Af (o':=1) Bo rfl rfl) ?_
 refine sV (Ah BN rfl (Bx.cell (q7a.ext E3a) rfl)) ?_
 refine sV (Aa rfl) ?_
 obtain ⟨r9a,h5e,f6e⟩:=Ab hr
 refine sc (Ae en_145 (by rfl)) (c_sorobanref01_Gcd x0.Abs x1 A1 c2 A4 c5 w2 (tbx X8a hT) (n3.ext X8a) (n6.ext X8a) r9a h5e) ?_
 rintro _ w3 E2a ⟨A3b,c4b,rfl,n9c⟩
 refine nrm ?_
 have X0d:=xtr X8a E2a
 refine sV (Ac rfl) ?_
 refine Ad<|h8c _ _<|wp_seq_k fun K1d h1d=>wp_seq_k fun K2d h2d=>Ag<|sV (Aa rfl) ?_
 obtain ⟨r3d,h7e,f8e⟩:=Ab f6e
 refine sc (Ae LH (by rfl)) (FZ w3 (tbx X0d hT)  r3d h7e) ?_
 rintro _ w4 E0a ⟨A9e,c0f,rfl,n1f⟩
 refine nrm ?_
 have X4d:=xtr X0d E0a
 obtain ⟨r5d,h2f,f6d⟩:=Ab f8e
 refine sc (Ae Mt (by rfl)) (Fb (limbs r9a) (limbs r3d) A3b c4b A9e c0f w4 (tbx X4d hT) (n9c.ext E0a) n1f r5d h2f) ?_
 rintro _ w5 E1a rfl
 refine nrm ?_
 have X7d:=xtr X4d E1a
 refine Ad<|h2d _ _ ?_
 rcases bft r5d with e4a | e4a
 ·have p3f:=e4a
  have f4f:=ifP p3f f6d
  refine wp_cond_true (Ak (evb rfl e4a))<|wp_seq_k fun K8d h8d=>Ag<|have q5f:=(((q7a.ext E3a).ext E2a).ext E0a).ext E1a;sV (An FR rfl q5f rfl) ?_
  refine sV (Aa rfl) ?_
  refine sV (AV (vals:=[(0,.agg #[.bool x0.Neg,.slice A1 (sz x0.Abs) c2]),(1,.slice A4 (sz x1) c5)]) (cells:=[.bool x0.Neg,.slice A1 (sz x0.Abs) c2,.slice A4 (sz x1) c5]) (by rfl) (by kernel_rfl)) ?_
  have q6f:=((q6c.ext E2a).ext E0a).ext E1a
  refine As Fs rfl rfl q6f rfl rfl rfl rfl (by simp only [SP0,SP1,S0,S1,Nat.reduceAdd];rfl) fun w6 U7f q8f=>?_
  have X5b:=Bf X7d U7f g7c
  refine Ad<|h8d _ _<|wp_ret ?_
  obtain rfl:=sj f4f
  exact fin rfl (Res.cellN rfl FG q8f rfl rfl Res.nil) (Al X5b ⟨A1,c2,A4,c5,rfl,(n3.ext X5b),(n6.ext X5b)⟩)
 ·have p9f:=bF e4a
  have f0g:=ifN p9f f6d
  refine wp_cond_false (Ak (evb rfl e4a))<|wp_skip<|h1d _ _<|wp_seq_k fun K9d h9d=>DB [13] 14 mo rfl fun w6 E5a S6b=>have X7b:=xtr X7d E5a;dA 0 rfl (fun _=>Af (o':=0) DP rfl rfl) ?_
  refine dV 1 rfl (fun _ hw=>Ah FS rfl (Bx.cell ((((((q7a.ext E3a).ext E2a).ext E0a).ext E1a).ext E5a).ext hw) rfl)) S6b ?_
  refine dA 2 rfl (fun _=>Af (o':=1) Bo rfl rfl) ?_
  refine dV 3 rfl (fun _ hw=>Ah BN rfl (Bx.cell ((((((q7a.ext E3a).ext E2a).ext E0a).ext E1a).ext E5a).ext hw) rfl)) S6b ?_
  refine dA 4 rfl (fun _=>Aa rfl) ?_
  refine dA 8 rfl (fun _=>Aa rfl) ?_
  refine dA 9 rfl (fun _=>Aa rfl) ?_
  have n0e:=((n9c.ext E0a).ext E1a).ext E5a
  obtain ⟨r1e,h1g,f2g⟩:=Ab f0g
  refine dc 5 rfl (by kernel_rfl) (by rfl) (Ae Ka (by rfl)) (Dm x0.Abs r9a A1 c2 A3b c4b w6 (tbx X7b hT) (n3.ext X7b) n0e r1e h1g) ?_
  rintro _ w7 E0b ⟨A3g,c4g,A9h,c0i,rfl,n5g,n1i⟩
  refine dnrm ?_
  have X2e:=xtr X7b E0b
  have S6g:=S6b.trans E0b
  refine dA 6 rfl (fun _=>LL LT rfl rfl) ?_
  obtain ⟨r6a,h7g,f8g⟩:=Ab f2g
  refine dc 7 rfl (by kernel_rfl) (by rfl) (Ae HP (by rfl)) (Bm x0.Neg r1e.Q A3g c4g w7 (tbx X2e hT) n5g r6a h7g) ?_
  rintro _ w8 E1b ⟨A8b,c9b,rfl,n9g⟩
  refine dnrm ?_
  have X0c:=xtr X2e E1b
  have S0h:=S6g.trans E1b
  obtain ⟨r1c,h1h,f2h⟩:=Ab f8g
  refine dc 10 rfl (by kernel_rfl) (by rfl) (Ae Ka (by rfl)) (Dm x1 r9a A4 c5 A3b c4b w8 (tbx X0c hT) (n6.ext X0c) ((n0e.ext E0b).ext E1b) r1c h1h) ?_
  rintro _ w9 E2b ⟨A2c,c3c,A2i,c3i,rfl,n3h,n4i⟩
  refine dnrm ?_
  have X4h:=xtr X0c E2b
  have S5i:=S0h.trans E2b
  refine dA 11 rfl (fun _=>LL LT rfl rfl) ?_
  refine dA 12 rfl (fun _=>AV (vals:=[(0,.agg #[.bool r6a.Neg,.slice A8b (sz r6a.Abs) c9b]),(1,.slice A2c (sz r1c.Q) c3c)]) (cells:=[.bool r6a.Neg,.slice A8b (sz r6a.Abs) c9b,.slice A2c (sz r1c.Q) c3c]) (by rfl) (by kernel_rfl)) ?_
  have q4c:=((((((q6c.ext E2a).ext E0a).ext E1a).ext E5a).ext E0b).ext E1b).ext E2b
  refine dk 13 rfl (by kernel_rfl) (by decide) (by rfl) Fs rfl rfl q4c rfl rfl rfl rfl (by simp only [SP0,SP1,S0,S1,Nat.reduceAdd];rfl) fun w3e U5c q5h=>?_
  have X6h:=Bf X4h U5c g7c
  refine Cv (by kernel_rfl) ?_
  refine h9d _ _<|wp_ret ?_
  have n7h:=(n9g.ext E2b).upd U5c q4c (by decide)
  obtain rfl:=sj f2h
  exact fin rfl (Res.cellN rfl FG q5h rfl rfl Res.nil) (Al X6h ⟨A8b,c9b,A2c,c3c,rfl,n7h,(n3h.upd U5c q4c (by decide))⟩)
theorem c_sorobanref03_Minus (x0:Cg) (A1:Option Addr) (c2:Nat) (A4:Option Addr) (c5:Nat) (w:World) (hT:TB w) (n3:RU w A1 c2 x0.Num.Abs) (n6:RU w A4 c5 x0.Den) (r:Cg) (hr:EL x0=some r) :
  Calls Tryz.prog 180 #[.agg #[.bool x0.Num.Neg,.slice A1 (sz x0.Num.Abs) c2,.slice A4 (sz x0.Den) c5]] w (Ret Ms w r):=by
 unfold EL at hr
 go_enter Tryz.func180,Tryz.ntmps180
 refine wp_seq_k fun K7 h7=>Ag<|BL rfl rfl fun b8 w1 E9 g2c q8a=>?_
 refine nrm ?_
 refine Ax KI fun b3c w2 E3a g3b q9a=>?_
 refine nrm ?_
 have g4b:=nlt E9.size g3b
 have X5b:=xtr E9 E3a
 refine Ad<|h7 _ _<|wp_seq_k fun K0b h0b=>DB [6] 7 mo rfl fun w3 E0a S4a=>have X5a:=xtr X5b E0a;dA 0 rfl (fun _=>Af (o':=0) Hj rfl rfl) ?_
 refine dV 1 rfl (fun _ hw=>Aq FR rfl (((q8a.ext E3a).ext E0a).ext hw) (by simp only [List.drop_zero,List.take_succ_cons,List.take_zero];rfl) rfl) S4a ?_
 refine dA 3 rfl (fun _=>Af (o':=2) Il rfl rfl) ?_
 refine dV 4 rfl (fun _ hw=>Ah BN rfl (Bx.cell (((q8a.ext E3a).ext E0a).ext hw) rfl)) S4a ?_
 obtain ⟨r1a,h6b,f7b⟩:=Ab hr
 refine dc 2 rfl (by kernel_rfl) (by rfl) (Ae Ns (by rfl)) (Ht x0.Num A1 c2 w3 (tbx X5a hT) (n3.ext X5a) r1a h6b) ?_
 rintro _ w4 E2a ⟨A6a,c7a,rfl,n8b⟩
 refine dnrm ?_
 have X9b:=xtr X5a E2a
 have S4c:=S4a.trans E2a
 refine dA 5 rfl (fun _=>AV (vals:=[(0,.agg #[.bool r1a.Neg,.slice A6a (sz r1a.Abs) c7a]),(1,.slice A4 (sz x0.Den) c5)]) (cells:=[.bool r1a.Neg,.slice A6a (sz r1a.Abs) c7a,.slice A4 (sz x0.Den) c5]) (by rfl) (by kernel_rfl)) ?_
 refine dk 6 rfl (by kernel_rfl) (by decide) (by rfl) Fs rfl rfl ((q9a.ext E0a).ext E2a) rfl rfl rfl rfl (by simp only [SP0,SP1,S0,S1,Nat.reduceAdd];rfl) fun w5 U1b q0c=>?_
 have X2b:=Bf X9b U1b g4b
 refine Cv (by kernel_rfl) ?_
 refine h0b _ _<|wp_ret ?_
 have n1c:=n8b.upd U1b ((q9a.ext E0a).ext E2a) (by decide)
 obtain rfl:=sj f7b
 exact fin rfl (Res.cellN rfl FG q0c rfl rfl Res.nil) (Al X2b ⟨A6a,c7a,A4,c5,rfl,n1c,(n6.ext X2b)⟩)
theorem EP (x0:Aj) (x1:Aj) (A1:Option Addr) (c2:Nat) (A4:Option Addr) (c5:Nat) (w:World) (hT:TB w) (n3:RU w A1 c2 x0.Man.Abs) (n6:RU w A4 c5 x1.Man.Abs) (r:Cg) (hr:BE x0 x1=some r) :
  Calls Tryz.prog 98 #[.agg #[.bool x0.Man.Neg,.slice A1 (sz x0.Man.Abs) c2,.int .i64 x0.Exp],.agg #[.bool x1.Man.Neg,.slice A4 (sz x1.Man.Abs) c5,.int .i64 x1.Exp]] w (Ret Ms w r):=by
 unfold BE at hr
 go_enter Tryz.func98,Tryz.ntmps98
 refine wp_seq_k fun K7 h7=>Ag<|BL rfl rfl fun b8 w1 E9 g1e q7a=>?_
 refine nrm ?_
 refine BL rfl rfl fun b8n w2 E6b g4h q2e=>?_
 refine nrm ?_
 have g9n:=nlt E9.size g4h
 have X3e:=xtr E9 E6b
 refine Ax KI fun b0o w3 E4a g5h q7b=>?_
 refine nrm ?_
 have g4e:=nlt X3e.size g5h
 have X8b:=xtr X3e E4a
 refine Ad<|h7 _ _<|wp_seq_k fun K5e h5e=>Ag<|sV (Af (o':=0) DC rfl rfl) ?_
 refine sV (Aq FR rfl ((q7a.ext E6b).ext E4a) (by simp only [List.drop_zero,List.take_succ_cons,List.take_zero];rfl) rfl) ?_
 refine sV (Af (o':=0) DC rfl rfl) ?_
 refine sV (Af (o':=1) Bo rfl rfl) ?_
 refine sV (Ah BN rfl (Bx.cell (q2e.ext E4a) rfl)) ?_
 obtain ⟨r8a,h6h,f7h⟩:=Ab hr
 refine sc (Ae Mv (by rfl)) (Hf x0.Man x1.Man.Abs A1 c2 A4 c5 w3 (tbx X8b hT) (n3.ext X8b) (n6.ext X8b) r8a h6h) ?_
 rintro _ w4 E2a ⟨A6c,c7c,A8c,c9c,rfl,n6e,n7e⟩
 refine nrm ?_
 have X8e:=xtr X8b E2a
 refine Ax KI fun b9e w5 E8h g9b q9h=>?_
 refine nrm ?_
 have g0i:=nlt X8e.size g9b
 refine As Fs rfl rfl q9h rfl rfl rfl rfl (by simp only [SP0,SP1,S0,S1,Nat.reduceAdd];rfl) fun w6 U1i q3a=>?_
 have F1a:=Bf E8h U1i g9b
 have X0d:=xtr X8e F1a
 refine Ad<|h5e _ _<|wp_seq_k fun K0f h0f=>wp_seq_k fun K1f h1f=>Ag<|sV (Af (o':=0) DC rfl rfl) ?_
 refine sV (Af (o':=0) DP rfl rfl) ?_
 have q1d:=((q2e.ext E4a).ext E2a).ext F1a
 refine sV (Ah FS rfl (Bx.cell q1d rfl)) ?_
 refine Ad<|h1f _ _ ?_
 obtain ⟨m0a,h2f,f3f⟩:=Ab f7h
 refine BM (fun l l' w'=>∃(t4f:Value) (t5f:Value) (A9a:Option Addr) (c0b:Nat) (A1b:Option Addr) (c2b:Nat),UpdS [b9e] w6 w'∧Bx w' b9e 65 [.bool m0a.1,.slice A9a (sz m0a.2.1) c0b,.slice A1b (sz m0a.2.2) c2b]∧RU w' A9a c0b m0a.2.1∧RU w' A1b c2b m0a.2.2∧l'=((l.set 16 t4f).set 17 t5f)) ?_ ?_
 ·rcases bft x1.Man.Neg with e3b | e3b
  ·have p2i:=e3b
   have f3i:=ifP p2i h2f
   refine wp_cond_true (Ak (evb rfl e3b))<|Ag<|sV (An FG rfl q3a rfl) ?_
   obtain ⟨r0c,h4i,f5i⟩:=Ab f3i
   refine sc (Ae en_180 (by rfl)) (c_sorobanref03_Minus r8a A6c c7c A8c c9c w6 (tbx X0d hT) (n6e.ext F1a) (n7e.ext F1a) r0c h4i) ?_
   rintro _ w7 E1c ⟨A6f,c7f,A8f,c9f,rfl,n6i,n7i⟩
   refine nrm ?_
   refine As Fs rfl rfl (q3a.ext E1c) rfl rfl rfl rfl (by simp only [SP0,SP1,S0,S1,Nat.reduceAdd];rfl) fun w8 U2d q8i=>?_
   refine Ad ?_
   have n9i:=n6i.upd U2d (q3a.ext E1c) (by decide)
   have n0j:=n7i.upd U2d (q3a.ext E1c) (by decide)
   obtain rfl:=sj f5i
   exact ⟨_,rfl,(.agg #[.bool r8a.Num.Neg,.slice A6c (sz r8a.Num.Abs) c7c,.slice A8c (sz r8a.Den) c9c]),(.agg #[.bool r0c.Num.Neg,.slice A6f (sz r0c.Num.Abs) c7f,.slice A8f (sz r0c.Den) c9f]),A6f,c7f,A8f,c9f,(((UpdS.refl _ _).ext E1c).upd U2d (.inl im0)),q8i,n9i,n0j,(by simp only [S0,S1]<;>rfl)⟩
  ·have p1j:=bF e3b
   have f2j:=ifN p1j h2f
   refine wp_cond_false (Ak (evb rfl e3b))<|wp_skip ?_
   obtain rfl:=sj f2j
   exact ⟨_,rfl,uu,uu,A6c,c7c,A8c,c9c,(UpdS.refl _ _),q3a,(n6e.ext F1a),(n7e.ext F1a),(by simp only [S0,S1]<;>rfl)⟩
 ·rintro l' w7 ⟨t4f,t5f,A9a,c0b,A1b,c2b,U4b,q2c,n0g,n1g,hq'⟩ l'' hl
  rw [hq'] at hl
  clear hq'
  simp only [S0,S1] at hl
  subst hl
  have X2g:=GQ X0d U4b (X0d).size (alc g0i al0)
  refine h0f _ _<|wp_seq_k fun K3g h3g=>Ag<|sV (Af (o':=2) Ek rfl rfl) ?_
  have ne3j:=(Bx.neT ((((q7a.ext E6b).ext E4a).ext E2a).ext F1a) q3a (by decide))
  have q4j:=((((q7a.ext E6b).ext E4a).ext E2a).ext F1a).updS U4b (nmc ne3j nm0)
  refine sV (Ah Fl rfl (Bx.cell q4j rfl)) ?_
  refine sV (Af (o':=2) Ek rfl rfl) ?_
  have ne5j:=(Bx.neT q1d q3a (by decide))
  refine sV (Ah Fl rfl (Bx.cell (q1d.updS U4b (nmc ne5j nm0)) rfl)) ?_
  refine sV (Bq (c:=wi64 (x0.Exp - x1.Exp)) rfl rfl rfl) ?_
  refine sV (Ac rfl) ?_
  refine Ad<|h3g _ _<|wp_seq_k fun K4g h4g=>wp_seq_k fun K5g h5g=>Ag<|sV (Aa rfl) ?_
  refine sb (Gi rfl rfl) fun z3c hz3c=>?_
  refine nrm ?_
  refine Ad<|h5g _ _ ?_
  rcases bft z3c with e5b | e5b
  ·have p6j:=zP hz3c e5b
   have f7j:=ifP p6j f3f
   refine wp_cond_true (Ak (evb rfl e5b))<|wp_seq_k fun K6g h6g=>DB [7] 8 mo rfl fun w8 E5a S3d=>have X7g:=xtr X2g E5a;dA 0 rfl (fun _=>Af (o':=0) Hj rfl rfl) ?_
   refine dV 1 rfl (fun _ hw=>Aq FR rfl ((q2c.ext E5a).ext hw) (by simp only [List.drop_zero,List.take_succ_cons,List.take_zero];rfl) rfl) S3d ?_
   refine dA 2 rfl (fun _=>Aa rfl) ?_
   refine dA 4 rfl (fun _=>Af (o':=2) Il rfl rfl) ?_
   refine dV 5 rfl (fun _ hw=>Ah BN rfl (Bx.cell ((q2c.ext E5a).ext hw) rfl)) S3d ?_
   obtain ⟨r8g,h8j,f9j⟩:=Ab f7j
   refine dc 3 rfl (by kernel_rfl) (by rfl) (Ae Mq (by rfl)) (Ga (⟨m0a.1,m0a.2.1⟩:Ai) (wi64 (x0.Exp - x1.Exp)) A9a c0b w8 (tbx X7g hT) (n0g.ext E5a) r8g h8j) ?_
   rintro _ w9 E4c ⟨A0k,c1k,rfl,n2k⟩
   refine dnrm ?_
   have X9g:=xtr X7g E4c
   have S3k:=S3d.trans E4c
   obtain ⟨r4k,h5k,f6k⟩:=Ab f9j
   refine dc 6 rfl (by kernel_rfl) (by rfl) (Ae Mv (by rfl)) (Hf r8g m0a.2.2 A0k c1k A1b c2b w9 (tbx X9g hT) n2k ((n1g.ext E5a).ext E4c) r4k h5k) ?_
   rintro _ w1e E4d ⟨A7k,c8k,A9k,c0l,rfl,n1l,n2l⟩
   refine dnrm ?_
   have X3l:=xtr X9g E4d
   have S1o:=S3k.trans E4d
   have ne4l:=(Bx.ne (q7b.ext E2a) g9b)
   have q5d:=(((((q7b.ext E2a).ext F1a).updS U4b (nmc ne4l nm0)).ext E5a).ext E4c).ext E4d
   refine dk 7 rfl (by kernel_rfl) (by decide) (by rfl) Fs rfl rfl q5d rfl rfl rfl rfl (by simp only [SP0,SP1,S0,S1,Nat.reduceAdd];rfl) fun w7a U6d q5l=>?_
   have X6l:=Bf X3l U6d g4e
   refine Cv (by kernel_rfl) ?_
   refine h6g _ _<|wp_ret ?_
   obtain rfl:=sj f6k
   exact fin rfl (Res.cellN rfl FG q5l rfl rfl Res.nil) (Al X6l ⟨A7k,c8k,A9k,c0l,rfl,(n1l.upd U6d q5d (by decide)),(n2l.upd U6d q5d (by decide))⟩)
  ·have p7l:=zN hz3c e5b
   have f8l:=ifN p7l f3f
   refine wp_cond_false (Ak (evb rfl e5b))<|wp_skip<|h4g _ _<|wp_seq_k fun K0h h0h=>DB [8] 9 mo rfl fun w8 E6a S7d=>have X1h:=xtr X2g E6a;dA 0 rfl (fun _=>Af (o':=0) Hj rfl rfl) ?_
   refine dV 1 rfl (fun _ hw=>Aq FR rfl ((q2c.ext E6a).ext hw) (by simp only [List.drop_zero,List.take_succ_cons,List.take_zero];rfl) rfl) S7d ?_
   refine dA 2 rfl (fun _=>Af (o':=2) Il rfl rfl) ?_
   refine dV 3 rfl (fun _ hw=>Ah BN rfl (Bx.cell ((q2c.ext E6a).ext hw) rfl)) S7d ?_
   refine dA 4 rfl (fun _=>Aa rfl) ?_
   refine dA 5 rfl (fun _=>Bq (c:=wi64 (0 - (wi64 (x0.Exp - x1.Exp)))) rfl rfl rfl) ?_
   obtain ⟨r2h,h9l,f0m⟩:=Ab f8l
   refine dc 6 rfl (by kernel_rfl) (by rfl) (Ae HA (by rfl)) (BJ m0a.2.2 (wi64 (0 - (wi64 (x0.Exp - x1.Exp)))) A1b c2b w8 (tbx X1h hT) (n1g.ext E6a) r2h h9l) ?_
   rintro _ w9 E5c ⟨A1m,c2m,rfl,n3m⟩
   refine dnrm ?_
   have X3h:=xtr X1h E5c
   have S4m:=S7d.trans E5c
   obtain ⟨r5m,h6m,f7m⟩:=Ab f0m
   refine dc 7 rfl (by kernel_rfl) (by rfl) (Ae Mv (by rfl)) (Hf (⟨m0a.1,m0a.2.1⟩:Ai) r2h A9a c0b A1m c2m w9 (tbx X3h hT) ((n0g.ext E6a).ext E5c) n3m r5m h6m) ?_
   rintro _ w1e E8d ⟨A8m,c9m,A0n,c1n,rfl,n2n,n3n⟩
   refine dnrm ?_
   have X4n:=xtr X3h E8d
   have S2o:=S4m.trans E8d
   have ne5n:=(Bx.ne (q7b.ext E2a) g9b)
   have q9d:=(((((q7b.ext E2a).ext F1a).updS U4b (nmc ne5n nm0)).ext E6a).ext E5c).ext E8d
   refine dk 8 rfl (by kernel_rfl) (by decide) (by rfl) Fs rfl rfl q9d rfl rfl rfl rfl (by simp only [SP0,SP1,S0,S1,Nat.reduceAdd];rfl) fun w7a U0e q6n=>?_
   have X7n:=Bf X4n U0e g4e
   refine Cv (by kernel_rfl) ?_
   refine h0h _ _<|wp_ret ?_
   obtain rfl:=sj f7m
   exact fin rfl (Res.cellN rfl FG q6n rfl rfl Res.nil) (Al X7n ⟨A8m,c9m,A0n,c1n,rfl,(n2n.upd U0e q9d (by decide)),(n3n.upd U0e q9d (by decide))⟩)
theorem Hp (x0:Ai) (x1:Ai) (A1:Option Addr) (c2:Nat) (A4:Option Addr) (c5:Nat) (w:World) (hT:TB w) (n3:RU w A1 c2 x0.Abs) (n6:RU w A4 c5 x1.Abs) (r:Ai) (hr:DG x0 x1=some r) :
  Calls Tryz.prog 132 #[.agg #[.bool x0.Neg,.slice A1 (sz x0.Abs) c2],.agg #[.bool x1.Neg,.slice A4 (sz x1.Abs) c5]] w (Ret JF w r):=by
 unfold DG at hr
 go_enter Tryz.func132,Tryz.ntmps132
 refine wp_seq_k fun K7 h7=>Ag<|BL rfl rfl fun b8 w1 E9 g6d q8a=>?_
 refine nrm ?_
 refine BL rfl rfl fun b7d w2 E4a g6b q9a=>?_
 refine nrm ?_
 have g8d:=nlt E9.size g6b
 have X0b:=xtr E9 E4a
 refine Ax KT fun b9d w3 E1a g7b q8b=>?_
 refine nrm ?_
 have g9b:=nlt X0b.size g7b
 have X0c:=xtr X0b E1a
 refine Ad<|h7 _ _<|wp_seq_k fun K1b h1b=>DB [11] 12 mo rfl fun w4 E0a S2a=>have X3a:=xtr X0c E0a;dA 0 rfl (fun _=>Af (o':=0) DP rfl rfl) ?_
 refine dV 1 rfl (fun _ hw=>Ah FS rfl (Bx.cell ((((q8a.ext E4a).ext E1a).ext E0a).ext hw) rfl)) S2a ?_
 refine dA 2 rfl (fun _=>Af (o':=0) DP rfl rfl) ?_
 refine dV 3 rfl (fun _ hw=>Ah FS rfl (Bx.cell (((q9a.ext E1a).ext E0a).ext hw) rfl)) S2a ?_
 refine dab 4 rfl (by kernel_rfl) (fun _ _ _ h=>h) (by rfl) (fun _=>Lp Mn rfl rfl) fun z5a hz5a=>?_
 refine dnrm ?_
 refine dA 5 rfl (fun _=>Af (o':=1) Bo rfl rfl) ?_
 refine dV 6 rfl (fun _ hw=>Ah BN rfl (Bx.cell ((((q8a.ext E4a).ext E1a).ext E0a).ext hw) rfl)) S2a ?_
 refine dA 7 rfl (fun _=>Af (o':=1) Bo rfl rfl) ?_
 refine dV 8 rfl (fun _ hw=>Ah BN rfl (Bx.cell (((q9a.ext E1a).ext E0a).ext hw) rfl)) S2a ?_
 obtain ⟨r2b,h1c,f2c⟩:=Ab hr
 refine dc 9 rfl (by kernel_rfl) (by rfl) (Ae Mr (by rfl)) (Fi x0.Abs x1.Abs A1 c2 A4 c5 w4 (tbx X3a hT) (n3.ext X3a) (n6.ext X3a) r2b h1c) ?_
 rintro _ w5 E6a ⟨A3c,c4c,rfl,n5c⟩
 refine dnrm ?_
 have X3b:=xtr X3a E6a
 have S6c:=S2a.trans E6a
 obtain rfl:z5a=decide (¬x0.Neg=x1.Neg):=bz hz5a
 obtain ⟨r7c,h8c,f9c⟩:=Ab f2c
 refine dc 10 rfl (by kernel_rfl) (by rfl) (Ae HP (by rfl)) (Bm (decide (¬x0.Neg=x1.Neg)) r2b A3c c4c w5 (tbx X3b hT) n5c r7c h8c) ?_
 rintro _ w6 E7a ⟨A0d,c1d,rfl,n2d⟩
 refine dnrm ?_
 have X3d:=xtr X3b E7a
 have S0e:=S6c.trans E7a
 have q4b:=((q8b.ext E0a).ext E6a).ext E7a
 refine dk 11 rfl (by kernel_rfl) (by decide) (by rfl) Jw rfl rfl q4b rfl rfl rfl rfl (by simp only [SP0,SP1,S0,S1,Nat.reduceAdd];rfl) fun w7 U5b q4d=>?_
 have X5d:=Bf X3d U5b g9b
 refine Cv (by kernel_rfl) ?_
 refine h1b _ _<|wp_ret ?_
 obtain rfl:=sj f9c
 exact fin rfl (Res.cellN rfl FR q4d rfl rfl Res.nil) (Al X5d ⟨A0d,c1d,rfl,(n2d.upd U5b q4b (by decide))⟩)
theorem c_sorobanref03_CmpInt (x0:Ai) (x1:Ai) (A1:Option Addr) (c2:Nat) (A4:Option Addr) (c5:Nat) (w:World) (hT:TB w) (n3:RU w A1 c2 x0.Abs) (n6:RU w A4 c5 x1.Abs) (r:Int) (hr:Fo x0 x1=some r) :
  Calls Tryz.prog 181 #[.agg #[.bool x0.Neg,.slice A1 (sz x0.Abs) c2],.agg #[.bool x1.Neg,.slice A4 (sz x1.Abs) c5]] w (Ret Gg w r):=by
 unfold Fo at hr
 go_enter Tryz.func181,Tryz.ntmps181
 refine wp_seq_k fun K7 h7=>Ag<|BL rfl rfl fun b8 w1 E9 g1e q2a=>?_
 refine nrm ?_
 refine BL rfl rfl fun b2e w2 E1a g1c q7a=>?_
 refine nrm ?_
 have g3e:=nlt E9.size g1c
 have X0a:=xtr E9 E1a
 refine sV (Ac rfl) ?_
 refine Ad<|h7 _ _<|wp_seq_k fun K8a h8a=>wp_seq_k fun K9a h9a=>Ag<|sV (Af (o':=0) DP rfl rfl) ?_
 refine sV (Ah FS rfl (Bx.cell (q2a.ext E1a) rfl)) ?_
 refine sV (Af (o':=0) DP rfl rfl) ?_
 refine sV (Ah FS rfl (Bx.cell q7a rfl)) ?_
 refine sb (Lp Mn rfl rfl) fun z6a hz6a=>?_
 refine nrm ?_
 refine Ad<|h9a _ _ ?_
 rcases bft z6a with e3a | e3a
 ·have p2c:=zP hz6a e3a
  have f0b:=ifP p2c hr
  refine wp_cond_true (Ak (evb rfl e3a))<|wp_seq_k fun K1b h1b=>wp_seq_k fun K2b h2b=>Ag<|sV (Af (o':=0) DP rfl rfl) ?_
  refine sV (Ah FS rfl (Bx.cell (q2a.ext E1a) rfl)) ?_
  refine Ad<|h2b _ _ ?_
  rcases bft x0.Neg with e4a | e4a
  ·have p3c:=e4a
   have f4c:=ifP p3c f0b
   refine wp_cond_true (Ak (evb rfl e4a))<|wp_seq_k fun K3b h3b=>Ag<|sV (Ac rfl) ?_
   refine Ad<|h3b _ _<|wp_ret ?_
   obtain rfl:=sj f4c
   exact fin rfl (Res.tmp rfl Res.nil) (Al X0a rfl)
  ·have p5c:=bF e4a
   have f6c:=ifN p5c f0b
   refine wp_cond_false (Ak (evb rfl e4a))<|wp_skip<|h1b _ _<|wp_seq_k fun K4b h4b=>Ag<|sV (Ac rfl) ?_
   refine Ad<|h4b _ _<|wp_ret ?_
   obtain rfl:=sj f6c
   exact fin rfl (Res.tmp rfl Res.nil) (Al X0a rfl)
 ·have p7c:=zN hz6a e3a
  have f5b:=ifN p7c hr
  refine wp_cond_false (Ak (evb rfl e3a))<|wp_skip<|h8a _ _<|wp_seq_k fun K6b h6b=>wp_seq_k fun K7b h7b=>Ag<|sV (Af (o':=0) DP rfl rfl) ?_
  refine sV (Ah FS rfl (Bx.cell (q2a.ext E1a) rfl)) ?_
  refine Ad<|h7b _ _ ?_
  rcases bft x0.Neg with e5a | e5a
  ·have p8c:=e5a
   have f9c:=ifP p8c f5b
   refine wp_cond_true (Ak (evb rfl e5a))<|wp_seq_k fun K8b h8b=>Ag<|sV (Af (o':=1) Bo rfl rfl) ?_
   refine sV (Ah BN rfl (Bx.cell (q2a.ext E1a) rfl)) ?_
   refine sV (Af (o':=1) Bo rfl rfl) ?_
   refine sV (Ah BN rfl (Bx.cell q7a rfl)) ?_
   obtain ⟨r9b,h0d,f1d⟩:=Ab f9c
   refine sc (Ae Jp (by rfl)) (CN x0.Abs x1.Abs A1 c2 A4 c5 w2 (tbx X0a hT) (n3.ext X0a) (n6.ext X0a) r9b h0d) ?_
   rintro _ w3 E2d rfl
   refine nrm ?_
   have X3d:=xtr X0a E2d
   refine sV (Nq (c:=wi64 (-r9b)) rfl rfl) ?_
   refine sV (Ac rfl) ?_
   refine Ad<|h8b _ _<|wp_ret ?_
   obtain rfl:=sj f1d
   exact fin rfl (Res.tmp rfl Res.nil) (Al X3d rfl)
  ·have p4d:=bF e5a
   have f5d:=ifN p4d f5b
   refine wp_cond_false (Ak (evb rfl e5a))<|wp_skip<|h6b _ _<|wp_seq_k fun K0c h0c=>Ag<|sV (Af (o':=1) Bo rfl rfl) ?_
   refine sV (Ah BN rfl (Bx.cell (q2a.ext E1a) rfl)) ?_
   refine sV (Af (o':=1) Bo rfl rfl) ?_
   refine sV (Ah BN rfl (Bx.cell q7a rfl)) ?_
   obtain ⟨r6d,h7d,f8d⟩:=Ab f5d
   refine sc (Ae Jp (by rfl)) (CN x0.Abs x1.Abs A1 c2 A4 c5 w2 (tbx X0a hT) (n3.ext X0a) (n6.ext X0a) r6d h7d) ?_
   rintro _ w3 E9d rfl
   refine nrm ?_
   have X0e:=xtr X0a E9d
   refine sV (Ac rfl) ?_
   refine Ad<|h0c _ _<|wp_ret ?_
   obtain rfl:=sj f8d
   exact fin rfl (Res.tmp rfl Res.nil) (Al X0e rfl)
theorem Dr (x0:Cg) (x1:Cg) (A1:Option Addr) (c2:Nat) (A4:Option Addr) (c5:Nat) (A7:Option Addr) (c8:Nat) (A2a:Option Addr) (c3a:Nat) (w:World) (hT:TB w) (n3:RU w A1 c2 x0.Num.Abs) (n6:RU w A4 c5 x0.Den) (n9:RU w A7 c8 x1.Num.Abs) (n4c:RU w A2a c3a x1.Den) (r:Int) (hr:Bh x0 x1=some r) :
  Calls Tryz.prog 99 #[.agg #[.bool x0.Num.Neg,.slice A1 (sz x0.Num.Abs) c2,.slice A4 (sz x0.Den) c5],.agg #[.bool x1.Num.Neg,.slice A7 (sz x1.Num.Abs) c8,.slice A2a (sz x1.Den) c3a]] w (Ret Gg w r):=by
 unfold Bh at hr
 go_enter Tryz.func99,Tryz.ntmps99
 refine wp_seq_k fun K1b h1b=>Ag<|BL rfl rfl fun b5f w1 E2b g6f q3b=>?_
 refine nrm ?_
 refine BL rfl rfl fun b7f w2 E4a g5c q4b=>?_
 refine nrm ?_
 have g8f:=nlt E2b.size g5c
 have X6c:=xtr E2b E4a
 refine sV (Ac rfl) ?_
 refine Ad<|h1b _ _<|wp_seq_k fun K5b h5b=>DB [] 14 mo rfl fun w3 E0a S1a=>have X5a:=xtr X6c E0a;dA 0 rfl (fun _=>Af (o':=0) Hj rfl rfl) ?_
 refine dV 1 rfl (fun _ hw=>Aq FR rfl (((q3b.ext E4a).ext E0a).ext hw) (by simp only [List.drop_zero,List.take_succ_cons,List.take_zero];rfl) rfl) S1a ?_
 refine dA 2 rfl (fun _=>Af (o':=2) Il rfl rfl) ?_
 refine dV 3 rfl (fun _ hw=>Ah BN rfl (Bx.cell ((q4b.ext E0a).ext hw) rfl)) S1a ?_
 refine dA 6 rfl (fun _=>Af (o':=0) Hj rfl rfl) ?_
 refine dV 7 rfl (fun _ hw=>Aq FR rfl ((q4b.ext E0a).ext hw) (by simp only [List.drop_zero,List.take_succ_cons,List.take_zero];rfl) rfl) S1a ?_
 refine dA 8 rfl (fun _=>Af (o':=2) Il rfl rfl) ?_
 refine dV 9 rfl (fun _ hw=>Ah BN rfl (Bx.cell (((q3b.ext E4a).ext E0a).ext hw) rfl)) S1a ?_
 obtain ⟨r6b,h7c,f8c⟩:=Ab hr
 refine dc 4 rfl (by kernel_rfl) (by rfl) (Ae HP (by rfl)) (Bm false x1.Den A2a c3a w3 (tbx X5a hT) (n4c.ext X5a) r6b h7c) ?_
 rintro _ w4 E7b ⟨A9c,c0d,rfl,n1d⟩
 refine dnrm ?_
 have X6a:=xtr X5a E7b
 have S2d:=S1a.trans E7b
 obtain ⟨r8b,h3d,f4d⟩:=Ab f8c
 refine dc 5 rfl (by kernel_rfl) (by rfl) (Ae Nx (by rfl)) (Hp x0.Num r6b A1 c2 A9c c0d w4 (tbx X6a hT) (n3.ext X6a) n1d r8b h3d) ?_
 rintro _ w5 E9b ⟨A5d,c6d,rfl,n7d⟩
 refine dnrm ?_
 have X7a:=xtr X6a E9b
 have S8d:=S2d.trans E9b
 obtain ⟨r0c,h9d,f0e⟩:=Ab f4d
 refine dc 10 rfl (by kernel_rfl) (by rfl) (Ae HP (by rfl)) (Bm false x0.Den A4 c5 w5 (tbx X7a hT) (n6.ext X7a) r0c h9d) ?_
 rintro _ w6 E8a ⟨A1e,c2e,rfl,n3e⟩
 refine dnrm ?_
 have X9a:=xtr X7a E8a
 have S4e:=S8d.trans E8a
 obtain ⟨r1c,h5e,f6e⟩:=Ab f0e
 refine dc 11 rfl (by kernel_rfl) (by rfl) (Ae Nx (by rfl)) (Hp x1.Num r0c A7 c8 A1e c2e w6 (tbx X9a hT) (n9.ext X9a) n3e r1c h5e) ?_
 rintro _ w7 E0b ⟨A7e,c8e,rfl,n9e⟩
 refine dnrm ?_
 have X2c:=xtr X9a E0b
 have S0f:=S4e.trans E0b
 obtain ⟨r1f,h2f,f3f⟩:=Ab f6e
 refine dc 12 rfl (by kernel_rfl) (by rfl) (Ae en_181 (by rfl)) (c_sorobanref03_CmpInt r8b r1c A5d c6d A7e c8e w7 (tbx X2c hT) ((n7d.ext E8a).ext E0b) n9e r1f h2f) ?_
 rintro _ w8 E3c rfl
 refine dnrm ?_
 have X4f:=xtr X2c E3c
 have S9f:=S0f.trans E3c
 refine dA 13 rfl (fun _=>Ac rfl) ?_
 refine Cv (by kernel_rfl) ?_
 refine h5b _ _<|wp_ret ?_
 obtain rfl:=sj f3f
 exact fin rfl (Res.tmp rfl Res.nil) (Al X4f rfl)
theorem c_sorobanref03_Rounded (x0:Nat) (x1:Nat) (x2:Nat) (x3:Bool) (x4:Int) (A1:Option Addr) (c2:Nat) (A4:Option Addr) (c5:Nat) (A7:Option Addr) (c8:Nat) (w:World) (hT:TB w) (n3:RU w A1 c2 x0) (n6:RU w A4 c5 x1) (n9:RU w A7 c8 x2) (r:Nat) (hr:El x0 x1 x2 x3 x4=some r) :
  Calls Tryz.prog 212 #[.slice A1 (sz x0) c2,.slice A4 (sz x1) c5,.slice A7 (sz x2) c8,.bool x3,.int .i64 x4] w (Ret IR w r):=by
 unfold El at hr
 go_enter Tryz.func212,Tryz.ntmps212
 refine wp_seq_k fun K6h h6h=>Ag<|sV (Ac rfl) ?_
 refine Ad<|h6h _ _<|wp_seq_k fun K7h h7h=>wp_seq_k fun K8h h8h=>Ag<|sV (Aa rfl) ?_
 refine sV (AH AD rfl) ?_
 refine sb (BQ rfl rfl) fun z8b hz8b=>?_
 refine nrm ?_
 refine Ad<|h8h _ _ ?_
 rcases bft z8b with e3b | e3b
 ·have p7o:=zP hz8b e3b
  have f8o:=ifP p7o hr
  refine wp_cond_true (Ak (evb rfl e3b))<|wp_seq_k fun K9h h9h=>Ag<|sV (Aa rfl) ?_
  refine sV (Ac rfl) ?_
  refine Ad<|h9h _ _<|wp_ret ?_
  obtain rfl:=sj f8o
  exact fin rfl (Res.tmp rfl Res.nil) (Al (Ext.refl _) ⟨A1,c2,rfl,n3⟩)
 ·have p9o:=zN hz8b e3b
  have f0p:=ifN p9o hr
  refine wp_cond_false (Ak (evb rfl e3b))<|wp_skip<|h7h _ _<|wp_seq_k fun K0i h0i=>Ag<|sV (Aa rfl) ?_
  refine sb (BQ rfl rfl) fun z9b hz9b=>?_
  refine nrm ?_
  refine sV (Aa rfl) ?_
  obtain ⟨m1i,h2i,f1p⟩:=Ab f0p
  refine BR 6 (fun l l' w'=>∃(t3i:Value) (t4i:Value),w=w'∧l'=(((l.set 20 t3i).set 21 t4i).set 22 (.bool m1i))) ?_ ?_
  ·intro HJ39
   rcases bft z9b with e5a | e5a
   ·have p2p:=zP hz9b e5a
    have f3p:=ifP p2p h2i
    refine sV (Aa rfl) ?_ (hw:=wgT rfl e5a)
    refine sb (GH rfl) ?_ (hw:=wgT rfl e5a)
    intro z3c hz3c
    refine nrm ?_
    refine sV (Ay (evb rfl e5a) rfl) ?_
    obtain rfl:z3c=decide (¬(x3=true)):=bz hz3c
    obtain rfl:=sj f3p
    exact HJ39 _ _ ⟨(.bool x3),(.bool (decide (¬(x3=true)))),rfl,(by simp only [S0,S1]<;>rfl)⟩
   ·have p4p:=zN hz9b e5a
    have f5p:=ifN p4p h2i
    refine sP ?_ (hw:=wgF rfl e5a)
    refine sP ?_ (hw:=wgF rfl e5a)
    refine sV (AB (evb rfl e5a) rfl) ?_
    obtain rfl:=sj f5p
    exact HJ39 _ _ ⟨uu,uu,rfl,(by simp only [S0,S1]<;>rfl)⟩
  ·rintro l' _ ⟨t3i,t4i,rfl,hq'⟩ l'' hl
   rw [hq'] at hl
   clear hq'
   simp only [S0,S1] at hl
   subst hl
   refine sV (Aa rfl) ?_
   obtain ⟨m6p,h5i,f7p⟩:=Ab f1p
   refine BR 13 (fun l l' w'=>∃(t6i:Value) (t7i:Value) (t8i:Value) (t9i:Value) (t0j:Value),w=w'∧l'=((((((l.set 24 t6i).set 25 t7i).set 26 t8i).set 27 t9i).set 28 t0j).set 29 (.bool m6p))) ?_ ?_
   ·intro HJ77
    rcases bft m1i with e2a | e2a
    ·have p8p:=e2a
     have f9p:=ifP p8p h5i
     refine sP ?_ (hw:=wgF rfl e2a)
     refine sP ?_ (hw:=wgF rfl e2a)
     refine sP ?_ (hw:=wgF rfl e2a)
     refine sP ?_
     refine sP ?_ (hw:=wgF rfl e2a)
     refine sV (Ay (evb rfl e2a) rfl) ?_
     obtain rfl:=sj f9p
     exact HJ77 _ _ ⟨uu,uu,uu,uu,uu,rfl,(by simp only [S0,S1]<;>rfl)⟩
    ·have p0q:=bF e2a
     have f1q:=ifN p0q h5i
     refine sV (Aa rfl) ?_ (hw:=wgT rfl e2a)
     refine sb (BQ rfl rfl) ?_ (hw:=wgT rfl e2a)
     intro z8a hz8a
     refine nrm ?_
     refine sV (Aa rfl) ?_ (hw:=wgT rfl e2a)
     obtain ⟨m1j,h2j,f2q⟩:=Ab f1q
     refine BR 12 (fun l l' w'=>∃(t4c:Value),w=w'∧l'=((l.set 27 t4c).set 28 (.bool m1j))) ?_ ?_
     ·intro HJ94
      rcases bft z8a with e7a | e7a
      ·have p3q:=zP hz8a e7a
       have f4q:=ifP p3q h2j
       refine sV (Aa rfl) ?_ (hw:=wgT rfl e7a)
       refine sV (Ay (evb rfl e7a) rfl) ?_ (hw:=wgT rfl e2a)
       obtain rfl:=sj f4q
       exact HJ94 _ _ ⟨(.bool x3),rfl,(by simp only [S0,S1]<;>rfl)⟩
      ·have p5q:=zN hz8a e7a
       have f6q:=ifN p5q h2j
       refine sP ?_ (hw:=wgF rfl e7a)
       refine sV (AB (evb rfl e7a) rfl) ?_ (hw:=wgT rfl e2a)
       obtain rfl:=sj f6q
       exact HJ94 _ _ ⟨uu,rfl,(by simp only [S0,S1]<;>rfl)⟩
     ·rintro l' _ ⟨t4c,rfl,hq'⟩ l'' hl
      rw [hq'] at hl
      clear hq'
      simp only [S0,S1] at hl
      subst hl
      refine sV (AB (evb rfl e2a) rfl) ?_
      obtain rfl:=sj f2q
      exact HJ77 _ _ ⟨(.int .i64 x4),(.bool z8a),(.bool z8a),t4c,(.bool m1j),rfl,(by simp only [S0,S1]<;>rfl)⟩
   ·rintro l' _ ⟨t6i,t7i,t8i,t9i,t0j,rfl,hq'⟩ l'' hl
    rw [hq'] at hl
    clear hq'
    simp only [S0,S1] at hl
    subst hl
    refine sV (Ac rfl) ?_
    refine Ad<|h0i _ _<|wp_seq_k fun K3j h3j=>wp_seq_k fun K4j h4j=>Ag<|sV (Aa rfl) ?_
    refine sb (BQ rfl rfl) fun z0c hz0c=>?_
    refine nrm ?_
    refine sV (Aa rfl) ?_
    obtain ⟨m5j,h6j,f7q⟩:=Ab f7p
    refine BR 6 (fun l l' w'=>∃(t7j:Value) (t8j:Value),w=w'∧l'=(((l.set 33 t7j).set 34 t8j).set 35 (.bool m5j))) ?_ ?_
    ·intro HJ115
     rcases bft z0c with e6a | e6a
     ·have p8q:=zP hz0c e6a
      have f9q:=ifP p8q h6j
      refine sP ?_ (hw:=wgF rfl e6a)
      refine sP ?_ (hw:=wgF rfl e6a)
      refine sV (Ay (evb rfl e6a) rfl) ?_
      obtain rfl:=sj f9q
      exact HJ115 _ _ ⟨uu,uu,rfl,(by simp only [S0,S1]<;>rfl)⟩
     ·have p0r:=zN hz0c e6a
      have f1r:=ifN p0r h6j
      refine sV (Aa rfl) ?_ (hw:=wgT rfl e6a)
      refine sb (BQ rfl rfl) ?_ (hw:=wgT rfl e6a)
      intro z5c hz5c
      refine nrm ?_
      refine sV (AB (evb rfl e6a) rfl) ?_
      obtain rfl:z5c=decide (x4=2):=bz hz5c
      obtain rfl:=sj f1r
      exact HJ115 _ _ ⟨(.int .i64 x4),(.bool (decide (x4=2))),rfl,(by simp only [S0,S1]<;>rfl)⟩
    ·rintro l' _ ⟨t7j,t8j,rfl,hq'⟩ l'' hl
     rw [hq'] at hl
     clear hq'
     simp only [S0,S1] at hl
     subst hl
     refine Ad<|h4j _ _ ?_
     obtain ⟨m9j,h0k,f1k⟩:=Ab f7q
     refine BM (fun l l' w'=>∃(t2k:Value) (t3k:Value) (t4k:Value) (t5k:Value) (t6k:Value) (t7k:Value) (t8k:Value) (t9k:Value) (t0l:Value) (t1l:Value) (t2l:Value) (t3l:Value) (t4l:Value) (t5l:Value) (t6l:Value) (t7l:Value) (t8l:Value) (t9l:Value) (t0m:Value) (t1m:Value) (t2m:Value) (t3m:Value) (t4m:Value) (t5m:Value) (t6m:Value) (t7m:Value) (t8m:Value) (t9m:Value),UpdS [] w w'∧l'=(((((((((((((((((((((((((((((l.set 11 (.bool m9j)).set 12 t2k).set 36 t3k).set 37 t4k).set 38 t5k).set 39 t6k).set 40 t7k).set 41 t8k).set 42 t9k).set 43 t0l).set 44 t1l).set 45 t2l).set 46 t3l).set 47 t4l).set 48 t5l).set 49 t6l).set 50 t7l).set 51 t8l).set 52 t9l).set 53 t0m).set 54 t1m).set 55 t2m).set 56 t3m).set 57 t4m).set 58 t5m).set 59 t6m).set 60 t7m).set 61 t8m).set 62 t9m)) ?_ ?_
     ·rcases bft m5j with e4b | e4b
      ·have p2r:=e4b
       have f3r:=ifP p2r h0k
       refine wp_cond_true (Ak (evb rfl e4b))<|wp_seq_k fun K0n h0n=>Ag<|sV (Aa rfl) ?_
       refine sV (Aa rfl) ?_
       obtain ⟨r6c,h4r,f5r⟩:=Ab f3r
       refine sc (Ae KK (by rfl)) (DQ x1 x1 A4 c5 A4 c5 w hT n6 n6 r6c h4r) ?_
       rintro _ w1 E1c ⟨A1n,c2n,rfl,n6r⟩
       refine nrm ?_
       refine sV (Aa rfl) ?_
       obtain ⟨r5b,h7r,f8r⟩:=Ab f5r
       refine sc (Ae Jp (by rfl)) (CN r6c x2 A1n c2n A7 c8 w1 (tbx E1c hT) n6r (n9.ext E1c) r5b h7r) ?_
       rintro _ w2 E3n rfl
       refine nrm ?_
       have X9r:=xtr E1c E3n
       refine sV (Ac rfl) ?_
       refine Ad<|h0n _ _<|Ag<|sV (Aa rfl) ?_
       refine sb (Eh rfl rfl) fun z9a hz9a=>?_
       refine nrm ?_
       refine sV (Aa rfl) ?_
       obtain ⟨m4n,h5n,f0s⟩:=Ab f8r
       refine BR 22 (fun l l' w'=>∃(t7c:Value) (t8c:Value) (t9c:Value) (t0d:Value) (t1d:Value) (t2d:Value) (t3d:Value) (t4d:Value) (t5d:Value) (t6d:Value) (t7d:Value) (t8d:Value) (t9d:Value) (t0e:Value) (t1e:Value) (t2e:Value) (t3e:Value) (t4e:Value),w2=w'∧l'=(((((((((((((((((((l.set 44 t7c).set 45 t8c).set 46 t9c).set 47 t0d).set 48 t1d).set 49 t2d).set 50 t3d).set 51 t4d).set 52 t5d).set 53 t6d).set 54 t7d).set 55 t8d).set 56 t9d).set 57 t0e).set 58 t1e).set 59 t2e).set 60 t3e).set 61 t4e).set 62 (.bool m4n))) ?_ ?_
       ·intro HJ1015
        rcases bft z9a with e3a | e3a
        ·have p1s:=zP hz9a e3a
         have f2s:=ifP p1s h5n
         refine sP ?_ (hw:=wgF rfl e3a)
         refine sP ?_ (hw:=wgF rfl e3a)
         refine sP ?_ (hw:=wgF rfl e3a)
         refine sP ?_
         refine sP ?_
         refine sP ?_
         refine sP ?_
         refine sP ?_
         refine sP ?_
         refine sP ?_
         refine sP ?_
         refine sP ?_
         refine sP ?_
         refine sP ?_
         refine sP ?_
         refine sP ?_
         refine sP ?_
         refine sP ?_ (hw:=wgF rfl e3a)
         refine sV (Ay (evb rfl e3a) rfl) ?_
         obtain rfl:=sj f2s
         exact HJ1015 _ _ ⟨uu,uu,uu,uu,uu,uu,uu,uu,uu,uu,uu,uu,uu,uu,uu,uu,uu,uu,rfl,(by simp only [S0,S1]<;>rfl)⟩
        ·have p3s:=zN hz9a e3a
         have f4s:=ifN p3s h5n
         refine sV (Aa rfl) ?_ (hw:=wgT rfl e3a)
         refine sb (BQ rfl rfl) ?_ (hw:=wgT rfl e3a)
         intro z0b hz0b
         refine nrm ?_
         refine sV (Aa rfl) ?_ (hw:=wgT rfl e3a)
         obtain ⟨m6n,h7n,f5s⟩:=Ab f4s
         refine BR 21 (fun l l' w'=>∃(t5e:Value) (t6e:Value) (t7e:Value) (t8e:Value) (t9e:Value) (t0f:Value) (t1f:Value) (t2f:Value) (t3f:Value) (t4f:Value) (t5f:Value) (t6f:Value) (t7f:Value) (t8f:Value),w2=w'∧l'=(((((((((((((((l.set 47 t5e).set 48 t6e).set 49 t7e).set 50 t8e).set 51 t9e).set 52 t0f).set 53 t1f).set 54 t2f).set 55 t3f).set 56 t4f).set 57 t5f).set 58 t6f).set 59 t7f).set 60 t8f).set 61 (.bool m6n))) ?_ ?_
         ·intro HJ1157
          rcases bft z0b with e4a | e4a
          ·have p6s:=zP hz0b e4a
           have f7s:=ifP p6s h7n
           refine sV (Aa rfl) ?_ (hw:=wgT rfl e4a)
           refine sb (BQ rfl rfl) ?_ (hw:=wgT rfl e4a)
           intro z1b hz1b
           refine nrm ?_
           refine sV (Aa rfl) ?_ (hw:=wgT rfl e4a)
           obtain ⟨m8n,h9n,f8s⟩:=Ab f7s
           refine BR 20 (fun l l' w'=>∃(t9f:Value) (t0g:Value) (t1g:Value) (t2g:Value) (t3g:Value) (t4g:Value) (t5g:Value) (t6g:Value) (t7g:Value) (t8g:Value),w2=w'∧l'=(((((((((((l.set 50 t9f).set 51 t0g).set 52 t1g).set 53 t2g).set 54 t3g).set 55 t4g).set 56 t5g).set 57 t6g).set 58 t7g).set 59 t8g).set 60 (.bool m8n))) ?_ ?_
           ·intro HJ1226
            rcases bft z1b with e0a | e0a
            ·have p9s:=zP hz1b e0a
             have f0t:=ifP p9s h9n
             refine sP ?_ (hw:=wgF rfl e0a)
             refine sP ?_ (hw:=wgF rfl e0a)
             refine sP ?_ (hw:=wgF rfl e0a)
             refine sP ?_ (hw:=wgF rfl e0a)
             refine sP ?_
             refine sP ?_
             refine sP ?_
             refine sP ?_
             refine sP ?_
             refine sP ?_ (hw:=wgF rfl e0a)
             refine sV (Ay (evb rfl e0a) rfl) ?_ (hw:=wgT rfl e4a)
             obtain rfl:=sj f0t
             exact HJ1226 _ _ ⟨uu,uu,uu,uu,uu,uu,uu,uu,uu,uu,rfl,(by simp only [S0,S1]<;>rfl)⟩
            ·have p1t:=zN hz1b e0a
             have f2t:=ifN p1t h9n
             refine sV (Aa rfl) ?_ (hw:=wgT rfl e0a)
             refine sV (AH AD rfl) ?_ (hw:=wgT rfl e0a)
             refine sb (Eh rfl rfl) ?_ (hw:=wgT rfl e0a)
             intro z2b hz2b
             refine nrm ?_
             refine sV (Aa rfl) ?_ (hw:=wgT rfl e0a)
             obtain ⟨m0o,h1o,f3t⟩:=Ab f2t
             refine BR 19 (fun l l' w'=>∃(t9g:Value) (t0h:Value) (t1h:Value) (t2h:Value) (t3h:Value),w2=w'∧l'=((((((l.set 54 t9g).set 55 t0h).set 56 t1h).set 57 t2h).set 58 t3h).set 59 (.bool m0o))) ?_ ?_
             ·intro HJ1258
              rcases bft z2b with e1a | e1a
              ·have p4t:=zP hz2b e1a
               have f5t:=ifP p4t h1o
               refine sV (Aa rfl) ?_ (hw:=wgT rfl e1a)
               obtain ⟨u6b,h6t,f7t⟩:=Ab f5t
               obtain ⟨bb1267,oo1268,hA8t,ia9t,ib0u,hc1270⟩:=RL.nth (n3.ext X9r) h6t
               refine sV (AC AD Ar rfl rfl hA8t ia9t ib0u) ?_ (hw:=wgT rfl e1a)
               refine sV (Ah Bk rfl hc1270) ?_ (hw:=wgT rfl e1a)
               refine sV (Ip (c:=u6b.tmod 2) (by decide) rfl rfl rfl) ?_ (hw:=wgT rfl e1a)
               refine sb (BQ rfl rfl) ?_ (hw:=wgT rfl e1a)
               intro z4h hz4h
               refine nrm ?_
               refine sV (Ay (evb rfl e1a) rfl) ?_ (hw:=wgT rfl e0a)
               obtain rfl:z4h=decide ((u6b.tmod 2)=1):=bz hz4h
               obtain rfl:=sj f7t
               exact HJ1258 _ _ ⟨(.slice A1 (sz x0) c2),(.pointer (some ⟨bb1267,oo1268+(0:Int).toNat,none⟩)),(.int .u32 u6b),(.int .u32 (u6b.tmod 2)),(.bool (decide ((u6b.tmod 2)=1))),rfl,(by simp only [S0,S1]<;>rfl)⟩
              ·have p1u:=zN hz2b e1a
               have f2u:=ifN p1u h1o
               refine sP ?_ (hw:=wgF rfl e1a)
               refine sP ?_ (hw:=wgF rfl e1a)
               refine sP ?_ (hw:=wgF rfl e1a)
               refine sP ?_ (hw:=wgF rfl e1a)
               refine sP ?_ (hw:=wgF rfl e1a)
               refine sV (AB (evb rfl e1a) rfl) ?_ (hw:=wgT rfl e0a)
               obtain rfl:=sj f2u
               exact HJ1258 _ _ ⟨uu,uu,uu,uu,uu,rfl,(by simp only [S0,S1]<;>rfl)⟩
             ·rintro l' _ ⟨t9g,t0h,t1h,t2h,t3h,rfl,hq'⟩ l'' hl
              rw [hq'] at hl
              clear hq'
              simp only [S0,S1] at hl
              subst hl
              refine sV (AB (evb rfl e0a) rfl) ?_ (hw:=wgT rfl e4a)
              obtain rfl:=sj f3t
              exact HJ1226 _ _ ⟨(.slice A1 (sz x0) c2),(.int .i64 (sz x0:Int)),(.bool z2b),(.bool z2b),t9g,t0h,t1h,t2h,t3h,(.bool m0o),rfl,(by simp only [S0,S1]<;>rfl)⟩
           ·rintro l' _ ⟨t9f,t0g,t1g,t2g,t3g,t4g,t5g,t6g,t7g,t8g,rfl,hq'⟩ l'' hl
            rw [hq'] at hl
            clear hq'
            simp only [S0,S1] at hl
            subst hl
            refine sV (Ay (evb rfl e4a) rfl) ?_ (hw:=wgT rfl e3a)
            obtain rfl:=sj f8s
            exact HJ1157 _ _ ⟨(.int .i64 x4),(.bool z1b),(.bool z1b),t9f,t0g,t1g,t2g,t3g,t4g,t5g,t6g,t7g,t8g,(.bool m8n),rfl,(by simp only [S0,S1]<;>rfl)⟩
          ·have p3u:=zN hz0b e4a
           have f4u:=ifN p3u h7n
           refine sP ?_ (hw:=wgF rfl e4a)
           refine sP ?_ (hw:=wgF rfl e4a)
           refine sP ?_ (hw:=wgF rfl e4a)
           refine sP ?_
           refine sP ?_
           refine sP ?_
           refine sP ?_
           refine sP ?_
           refine sP ?_
           refine sP ?_
           refine sP ?_
           refine sP ?_
           refine sP ?_
           refine sP ?_ (hw:=wgF rfl e4a)
           refine sV (AB (evb rfl e4a) rfl) ?_ (hw:=wgT rfl e3a)
           obtain rfl:=sj f4u
           exact HJ1157 _ _ ⟨uu,uu,uu,uu,uu,uu,uu,uu,uu,uu,uu,uu,uu,uu,rfl,(by simp only [S0,S1]<;>rfl)⟩
         ·rintro l' _ ⟨t5e,t6e,t7e,t8e,t9e,t0f,t1f,t2f,t3f,t4f,t5f,t6f,t7f,t8f,rfl,hq'⟩ l'' hl
          rw [hq'] at hl
          clear hq'
          simp only [S0,S1] at hl
          subst hl
          refine sV (AB (evb rfl e3a) rfl) ?_
          obtain rfl:=sj f5s
          exact HJ1015 _ _ ⟨(.int .i64 r5b),(.bool z0b),(.bool z0b),t5e,t6e,t7e,t8e,t9e,t0f,t1f,t2f,t3f,t4f,t5f,t6f,t7f,t8f,(.bool m6n),rfl,(by simp only [S0,S1]<;>rfl)⟩
       ·rintro l' _ ⟨t7c,t8c,t9c,t0d,t1d,t2d,t3d,t4d,t5d,t6d,t7d,t8d,t9d,t0e,t1e,t2e,t3e,t4e,rfl,hq'⟩ l'' hl
        rw [hq'] at hl
        clear hq'
        simp only [S0,S1] at hl
        subst hl
        refine sV (Ac rfl) ?_
        refine Ad ?_
        obtain rfl:=sj f0s
        exact ⟨_,rfl,(.int .i64 r5b),(.slice A4 (sz x1) c5),(.slice A4 (sz x1) c5),(.slice A1n (sz r6c) c2n),(.slice A7 (sz x2) c8),(.int .i64 r5b),(.int .i64 r5b),(.bool z9a),(.bool z9a),t7c,t8c,t9c,t0d,t1d,t2d,t3d,t4d,t5d,t6d,t7d,t8d,t9d,t0e,t1e,t2e,t3e,t4e,(.bool m4n),(((UpdS.refl _ _).ext E1c).ext E3n),(by simp only [S0,S1]<;>rfl)⟩
      ·have p5u:=bF e4b
       have f6u:=ifN p5u h0k
       refine wp_cond_false (Ak (evb rfl e4b))<|wp_skip ?_
       obtain rfl:=sj f6u
       exact ⟨_,rfl,uu,uu,uu,uu,uu,uu,uu,uu,uu,uu,uu,uu,uu,uu,uu,uu,uu,uu,uu,uu,uu,uu,uu,uu,uu,uu,uu,uu,(UpdS.refl _ _),(by simp only [S0,S1]<;>rfl)⟩
     ·rintro l' w1 ⟨t2k,t3k,t4k,t5k,t6k,t7k,t8k,t9k,t0l,t1l,t2l,t3l,t4l,t5l,t6l,t7l,t8l,t9l,t0m,t1m,t2m,t3m,t4m,t5m,t6m,t7m,t8m,t9m,U7u,hq'⟩ l'' hl
      rw [hq'] at hl
      clear hq'
      simp only [S0,S1] at hl
      subst hl
      have X2c:=GQ (Ext.refl _) U7u (Nat.le_refl _) al0
      refine h3j _ _<|wp_seq_k fun K2o h2o=>wp_seq_k fun K3o h3o=>Ag<|sV (Aa rfl) ?_
      refine Ad<|h3o _ _ ?_
      rcases bft m9j with e7b | e7b
      ·have p8u:=e7b
       have f9u:=ifP p8u f1k
       refine wp_cond_true (Ak (evb rfl e7b))<|wp_seq_k fun K4o h4o=>Ag<|sV (Aa rfl) ?_
       obtain ⟨r5o,h0v,f1v⟩:=Ab f9u
       refine sc (Ae LH (by rfl)) (FZ w1 (tbx X2c hT)  r5o h0v) ?_
       rintro _ w2 E2v ⟨A3v,c4v,rfl,n5v⟩
       refine nrm ?_
       have X5h:=xtr X2c E2v
       obtain ⟨r6v,h7v,f8v⟩:=Ab f1v
       refine sc (Ae KK (by rfl)) (DQ x0 r5o A1 c2 A3v c4v w2 (tbx X5h hT) (n3.ext X5h) n5v r6v h7v) ?_
       rintro _ w3 E9v ⟨A0w,c1w,rfl,n2w⟩
       refine nrm ?_
       have X3w:=xtr X5h E9v
       refine sV (Ac rfl) ?_
       refine Ad<|h4o _ _<|wp_ret ?_
       obtain rfl:=sj f8v
       exact fin rfl (Res.tmp rfl Res.nil) (Al X3w ⟨A0w,c1w,rfl,n2w⟩)
      ·have p4w:=bF e7b
       have f5w:=ifN p4w f1k
       refine wp_cond_false (Ak (evb rfl e7b))<|wp_skip<|h2o _ _<|wp_seq_k fun K6o h6o=>Ag<|sV (Aa rfl) ?_
       refine sV (Ac rfl) ?_
       refine Ad<|h6o _ _<|wp_ret ?_
       obtain rfl:=sj f5w
       exact fin rfl (Res.tmp rfl Res.nil) (Al X2c ⟨A1,c2,rfl,(n3.ext X2c)⟩)
theorem GP (x0:Nat) (x1:Nat) (x2:Nat) (x3:Bool) (x4:Int) (x5:Int) (A1:Option Addr) (c2:Nat) (A4:Option Addr) (c5:Nat) (A7:Option Addr) (c8:Nat) (w:World) (hT:TB w) (n3:RU w A1 c2 x0) (n6:RU w A4 c5 x1) (n9:RU w A7 c8 x2) (r:Aj) (hr:CS x0 x1 x2 x3 x4 x5=some r) :
  Calls Tryz.prog 150 #[.slice A1 (sz x0) c2,.slice A4 (sz x1) c5,.slice A7 (sz x2) c8,.bool x3,.int .i64 x4,.int .i64 x5] w (Ret IS w r):=by
 unfold CS at hr
 go_enter Tryz.func150,Tryz.ntmps150
 refine wp_seq_k fun K1a h1a=>Ag<|Ax FH fun b3d w1 E0a g2b q3b=>?_
 refine nrm ?_
 refine Ad<|h1a _ _<|wp_seq_k fun K2a h2a=>Ag<|sV (Aa rfl) ?_
 refine sV (Aa rfl) ?_
 refine sV (Aa rfl) ?_
 refine sV (Aa rfl) ?_
 refine sV (Aa rfl) ?_
 refine sV (Aa rfl) ?_
 obtain ⟨r3a,h4b,f5b⟩:=Ab hr
 refine sc (Ae en_212 (by rfl)) (c_sorobanref03_Rounded x0 x1 x2 x3 x4 A1 c2 A4 c5 A7 c8 w1 (tbx E0a hT) (n3.ext E0a) (n6.ext E0a) (n9.ext E0a) r3a h4b) ?_
 rintro _ w2 E4a ⟨A6b,c7b,rfl,n8b⟩
 refine nrm ?_
 have X5a:=xtr E0a E4a
 obtain ⟨r6a,h9b,f0c⟩:=Ab f5b
 refine sc (Ae HP (by rfl)) (Bm x3 r3a A6b c7b w2 (tbx X5a hT) n8b r6a h9b) ?_
 rintro _ w3 E7a ⟨A1c,c2c,rfl,n3c⟩
 refine nrm ?_
 have X8a:=xtr X5a E7a
 refine sV (Aa rfl) ?_
 obtain ⟨r4c,h5c,f6c⟩:=Ab f0c
 refine sc (Ae MR (by rfl)) (Gx r6a x5 A1c c2c w3 (tbx X8a hT) n3c r4c h5c) ?_
 rintro _ w4 E9a ⟨A7c,c8c,rfl,n9c⟩
 refine nrm ?_
 have X0d:=xtr X8a E9a
 have q0b:=((q3b.ext E4a).ext E7a).ext E9a
 refine As Dq rfl rfl q0b rfl rfl rfl rfl (by simp only [SP0,SP1,S0,S1,Nat.reduceAdd];rfl) fun w5 U1b q1d=>?_
 have X2d:=Bf X0d U1b g2b
 refine Ad<|h2a _ _<|wp_ret ?_
 obtain rfl:=sj f6c
 exact fin rfl (Res.cellN rfl Bj q1d rfl rfl Res.nil) (Al X2d ⟨A7c,c8c,rfl,(n9c.upd U1b q0b (by decide))⟩)
theorem He (x0:Cg) (x1:Int) (x2:Int) (A1:Option Addr) (c2:Nat) (A4:Option Addr) (c5:Nat) (w:World) (hT:TB w) (n3:RU w A1 c2 x0.Num.Abs) (n6:RU w A4 c5 x0.Den) (r:Aj) (hr:BO x0 x1 x2=some r) :
  Calls Tryz.prog 59 #[.agg #[.bool x0.Num.Neg,.slice A1 (sz x0.Num.Abs) c2,.slice A4 (sz x0.Den) c5],.int .i64 x1,.int .i64 x2] w (Ret IS w r):=by
 unfold BO at hr
 go_enter Tryz.func59,Tryz.ntmps59
 refine wp_seq_k fun K7 h7=>Ag<|BL rfl rfl fun b8 w1 E9 g5e q6a=>?_
 refine nrm ?_
 refine Ax FH fun b9c w2 E3a g0d q8b=>?_
 refine nrm ?_
 have g9b:=nlt E9.size g0d
 have X1d:=xtr E9 E3a
 refine Ad<|h7 _ _<|wp_seq_k fun K2d h2d=>wp_seq_k fun K3d h3d=>Ag<|sV (Af (o':=0) Hj rfl rfl) ?_
 refine sV (Af (o':=1) Bo rfl rfl) ?_
 refine sV (Ah BN rfl (Bx.cell (q6a.ext E3a) rfl)) ?_
 refine sV (AH AD rfl) ?_
 refine sb (BQ rfl rfl) fun z0c hz0c=>?_
 refine nrm ?_
 refine Ad<|h3d _ _ ?_
 rcases bft z0c with e2b | e2b
 ·have p1j:=zP hz0c e2b
  have f2j:=ifP p1j hr
  refine wp_cond_true (Ak (evb rfl e2b))<|wp_seq_k fun K6e h6e=>Ag<|sV (AV (vals:=[]) (cells:=[.bool false,.slice none 0 0,.int .i64 0]) (by rfl) (by kernel_rfl)) ?_
  refine As Dq rfl rfl q8b rfl rfl rfl rfl (by simp only [SP0,SP1,S0,S1,Nat.reduceAdd];rfl) fun w3 U3j q4j=>?_
  have F5j:=Bf E3a U3j g0d
  have X6j:=xtr E9 F5j
  refine Ad<|h6e _ _<|wp_ret ?_
  obtain rfl:=sj f2j
  exact fin rfl (Res.cellN rfl Bj q4j rfl rfl Res.nil) (Al X6j ⟨none,0,rfl,(RU.nil _)⟩)
 ·have p7j:=zN hz0c e2b
  have f8j:=ifN p7j hr
  refine wp_cond_false (Ak (evb rfl e2b))<|wp_skip<|h2d _ _<|wp_seq_k fun K7e h7e=>DB [] 11 mo rfl fun w3 E8a S4d=>have X5d:=xtr X1d E8a;dA 0 rfl (fun _=>Af (o':=0) Hj rfl rfl) ?_
  refine dA 1 rfl (fun _=>Af (o':=1) Bo rfl rfl) ?_
  refine dV 2 rfl (fun _ hw=>Ah BN rfl (Bx.cell (((q6a.ext E3a).ext E8a).ext hw) rfl)) S4d ?_
  refine dA 4 rfl (fun _=>Af (o':=2) Il rfl rfl) ?_
  refine dV 5 rfl (fun _ hw=>Ah BN rfl (Bx.cell (((q6a.ext E3a).ext E8a).ext hw) rfl)) S4d ?_
  refine dA 8 rfl (fun _=>Aa rfl) ?_
  obtain ⟨r0a,h9j,f0k⟩:=Ab f8j
  refine dc 3 rfl (by kernel_rfl) (by rfl) (Ae IN (by rfl)) (Ce x0.Num.Abs A1 c2 w3 (tbx X5d hT) (n3.ext X5d) r0a h9j) ?_
  rintro _ w4 E3b rfl
  refine dnrm ?_
  have X6d:=xtr X5d E3b
  have S1k:=S4d.trans E3b
  obtain ⟨r1a,h2k,f3k⟩:=Ab f0k
  refine dc 6 rfl (by kernel_rfl) (by rfl) (Ae IN (by rfl)) (Ce x0.Den A4 c5 w4 (tbx X6d hT) (n6.ext X6d) r1a h2k) ?_
  rintro _ w5 E4b rfl
  refine dnrm ?_
  have X7d:=xtr X6d E4b
  have S8q:=S1k.trans E4b
  refine dA 7 rfl (fun _=>Bq (c:=wi64 (r0a - r1a)) rfl rfl rfl) ?_
  refine dA 9 rfl (fun _=>Bq (c:=wi64 ((wi64 (r0a - r1a)) - x1)) rfl rfl rfl) ?_
  refine dA 10 rfl (fun _=>Ac rfl) ?_
  refine Cv (by kernel_rfl) ?_
  refine h7e _ _ ?_
  apply wp_block
  refine Hy<|Bg ?_
  apply wp_block
  refine wp_seq_k fun K8e h8e=>Ag<|sV (Af (o':=0) Hj rfl rfl) ?_
  refine sV (Af (o':=1) Bo rfl rfl) ?_
  have q1c:=(((q6a.ext E3a).ext E8a).ext E3b).ext E4b
  refine sV (Ah BN rfl (Bx.cell q1c rfl)) ?_
  refine sV (Aa rfl) ?_
  refine sV (Bq (c:=wi64 (0 - (wi64 ((wi64 (r0a - r1a)) - x1)))) rfl rfl rfl) ?_
  refine sV (JN rfl rfl) ?_
  obtain ⟨r9e,h4k,f5k⟩:=Ab f3k
  refine sc (Ae HA (by rfl)) (BJ x0.Num.Abs (max 0 (wi64 (0 - (wi64 ((wi64 (r0a - r1a)) - x1))))) A1 c2 w5 (tbx X7d hT) (n3.ext X7d) r9e h4k) ?_
  rintro _ w6 E9a ⟨A6k,c7k,rfl,n8k⟩
  refine nrm ?_
  have X8d:=xtr X7d E9a
  refine sV (Ac rfl) ?_
  refine Ad<|h8e _ _<|wp_seq_k fun K0f h0f=>Ag<|sV (Af (o':=2) Il rfl rfl) ?_
  refine sV (Ah BN rfl (Bx.cell (q1c.ext E9a) rfl)) ?_
  refine sV (Aa rfl) ?_
  refine sV (JN rfl rfl) ?_
  obtain ⟨r9d,h9k,f0l⟩:=Ab f5k
  refine sc (Ae HA (by rfl)) (BJ x0.Den (max 0 (wi64 ((wi64 (r0a - r1a)) - x1))) A4 c5 w6 (tbx X8d hT) (n6.ext X8d) r9d h9k) ?_
  rintro _ w7 E0b ⟨A1f,c2f,rfl,n3f⟩
  refine nrm ?_
  have X4f:=xtr X8d E0b
  refine sV (Ac rfl) ?_
  refine Ad<|h0f _ _<|wp_seq_k fun K5f h5f=>Ag<|sV (Aa rfl) ?_
  refine sV (Aa rfl) ?_
  obtain ⟨r2c,h1l,f2l⟩:=Ab f0l
  refine sc (Ae Ka (by rfl)) (Dm r9e r9d A6k c7k A1f c2f w7 (tbx X4f hT) (n8k.ext E0b) n3f r2c h1l) ?_
  rintro _ w8 E1b ⟨A6f,c7f,A3l,c4l,rfl,n8f,n5l⟩
  refine nrm ?_
  have X9f:=xtr X4f E1b
  refine Ax IM fun b9q w9 E6l g0g q7l=>?_
  refine nrm ?_
  have g0r:=nlt X9f.size g0g
  refine As Hz rfl rfl q7l rfl rfl rfl rfl (by simp only [SP0,SP1,S0,S1,Nat.reduceAdd];rfl) fun w5e U8l q0e=>?_
  have F4a:=Bf E6l U8l g0g
  have X1g:=xtr X9f F4a
  refine Ad<|h5f _ _<|wp_seq_k fun K2g h2g=>wp_seq_k fun K3g h3g=>Ag<|sV (Af (o':=0) IA rfl rfl) ?_
  refine sV (Ah BN rfl (Bx.cell q0e rfl)) ?_
  obtain ⟨r9l,h0m,f4g⟩:=Ab f2l
  refine sc (Ae IN (by rfl)) (Ce r2c.Q A6f c7f w5e (tbx X1g hT) (n8f.ext F4a) r9l h0m) ?_
  rintro _ w6a E2a rfl
  refine nrm ?_
  have X5b:=xtr X1g E2a
  refine sV (Aa rfl) ?_
  refine sb (GR rfl rfl) fun z3c hz3c=>?_
  refine nrm ?_
  refine Ad<|h3g _ _ ?_
  rcases bft z3c with e6b | e6b
  ·have p1m:=zP hz3c e6b
   have f2m:=ifP p1m f4g
   refine wp_cond_true (Ak (evb rfl e6b))<|wp_seq_k fun K5g h5g=>Ag<|sV (Af (o':=0) IA rfl rfl) ?_
   refine sV (Ah BN rfl (Bx.cell (q0e.ext E2a) rfl)) ?_
   refine sV (Af (o':=1) Jo rfl rfl) ?_
   refine sV (Ah BN rfl (Bx.cell (q0e.ext E2a) rfl)) ?_
   refine sV (Aa rfl) ?_
   refine sV (Af (o':=0) Hj rfl rfl) ?_
   refine sV (Af (o':=0) DP rfl rfl) ?_
   have q3m:=((((q1c.ext E9a).ext E0b).ext E1b).ext F4a).ext E2a
   refine sV (Ah FS rfl (Bx.cell q3m rfl)) ?_
   refine sV (Aa rfl) ?_
   refine sV (Aa rfl) ?_
   have n4m:=((n3f.ext E1b).ext F4a).ext E2a
   obtain ⟨r5m,h6m,f7m⟩:=Ab f2m
   refine sc (Ae Mi (by rfl)) (GP r2c.Q r2c.R r9d x0.Num.Neg x2 (wi64 ((wi64 (r0a - r1a)) - x1)) A6f c7f A3l c4l A1f c2f w6a (tbx X5b hT) ((n8f.ext F4a).ext E2a) ((n5l.ext F4a).ext E2a) n4m r5m h6m) ?_
   rintro _ w9c E6g ⟨A8m,c9m,rfl,n0n⟩
   refine nrm ?_
   have X1n:=xtr X5b E6g
   have q7g:=((((((((q8b.ext E8a).ext E3b).ext E4b).ext E9a).ext E0b).ext E1b).ext F4a).ext E2a).ext E6g
   refine As Dq rfl rfl q7g rfl rfl rfl rfl (by simp only [SP0,SP1,S0,S1,Nat.reduceAdd];rfl) fun w3a U8g q2n=>?_
   have X3n:=Bf X1n U8g g9b
   refine Ad<|h5g _ _<|wp_ret ?_
   obtain rfl:=sj f7m
   exact fin rfl (Res.cellN rfl Bj q2n rfl rfl Res.nil) (Al X3n ⟨A8m,c9m,rfl,(n0n.upd U8g q7g (by decide))⟩)
  ·have p4n:=zN hz3c e6b
   have f5n:=ifN p4n f4g
   refine wp_cond_false (Ak (evb rfl e6b))<|wp_skip<|h2g _ _<|Ag<|sV (Aa rfl) ?_
   refine sV (AN (c:=wi64 ((wi64 ((wi64 (r0a - r1a)) - x1))+1)) rfl rfl rfl) ?_
   refine sV (Ac rfl) ?_
   refine Ad<|Bg ?_
   apply wp_block
   refine wp_seq_k fun K9g h9g=>Ag<|sV (Af (o':=0) Hj rfl rfl) ?_
   refine sV (Af (o':=1) Bo rfl rfl) ?_
   have q1e:=((((q1c.ext E9a).ext E0b).ext E1b).ext F4a).ext E2a
   refine sV (Ah BN rfl (Bx.cell q1e rfl)) ?_
   refine sV (Aa rfl) ?_
   refine sV (Bq (c:=wi64 (0 - (wi64 ((wi64 ((wi64 (r0a - r1a)) - x1))+1)))) rfl rfl rfl) ?_
   refine sV (JN rfl rfl) ?_
   obtain ⟨r0h,h6n,f7n⟩:=Ab f5n
   refine sc (Ae HA (by rfl)) (BJ x0.Num.Abs (max 0 (wi64 (0 - (wi64 ((wi64 ((wi64 (r0a - r1a)) - x1))+1))))) A1 c2 w6a (tbx X5b hT) (n3.ext X5b) r0h h6n) ?_
   rintro _ w9c E4c ⟨A8n,c9n,rfl,n0o⟩
   refine nrm ?_
   have X2e:=xtr X5b E4c
   refine sV (Ac rfl) ?_
   refine Ad<|h9g _ _<|wp_seq_k fun K1h h1h=>Ag<|sV (Af (o':=2) Il rfl rfl) ?_
   refine sV (Ah BN rfl (Bx.cell (q1e.ext E4c) rfl)) ?_
   refine sV (Aa rfl) ?_
   refine sV (JN rfl rfl) ?_
   obtain ⟨r3e,h1o,f2o⟩:=Ab f7n
   refine sc (Ae HA (by rfl)) (BJ x0.Den (max 0 (wi64 ((wi64 ((wi64 (r0a - r1a)) - x1))+1))) A4 c5 w9c (tbx X2e hT) (n6.ext X2e) r3e h1o) ?_
   rintro _ w3a E5c ⟨A2h,c3h,rfl,n4h⟩
   refine nrm ?_
   have X5h:=xtr X2e E5c
   refine sV (Ac rfl) ?_
   refine Ad<|h1h _ _<|wp_seq_k fun K6h h6h=>Ag<|sV (Aa rfl) ?_
   refine sV (Aa rfl) ?_
   obtain ⟨r6c,h3o,f4o⟩:=Ab f2o
   refine sc (Ae Ka (by rfl)) (Dm r0h r3e A8n c9n A2h c3h w3a (tbx X5h hT) (n0o.ext E5c) n4h r6c h3o) ?_
   rintro _ w0d E7c ⟨A7h,c8h,A5o,c6o,rfl,n9h,n7o⟩
   refine nrm ?_
   have X0i:=xtr X5h E7c
   refine Ax IM fun b1r w8b E8o g1i q9o=>?_
   refine nrm ?_
   have g2r:=nlt X0i.size g1i
   refine As Hz rfl rfl q9o rfl rfl rfl rfl (by simp only [SP0,SP1,S0,S1,Nat.reduceAdd];rfl) fun w9b U0p q4e=>?_
   have F7a:=Bf E8o U0p g1i
   have X2i:=xtr X0i F7a
   refine Ad<|h6h _ _<|wp_seq_k fun K3i h3i=>wp_seq_k fun K4i h4i=>Ag<|sV (Af (o':=0) IA rfl rfl) ?_
   refine sV (Ah BN rfl (Bx.cell q4e rfl)) ?_
   obtain ⟨r1p,h2p,f5i⟩:=Ab f4o
   refine sc (Ae IN (by rfl)) (Ce r6c.Q A7h c8h w9b (tbx X2i hT) (n9h.ext F7a) r1p h2p) ?_
   rintro _ w1d E5a rfl
   refine nrm ?_
   have X6i:=xtr X2i E5a
   refine sV (Aa rfl) ?_
   refine sb (GR rfl rfl) fun z8c hz8c=>?_
   refine nrm ?_
   refine Ad<|h4i _ _ ?_
   rcases bft z8c with e7b | e7b
   ·have p3p:=zP hz8c e7b
    have f4p:=ifP p3p f5i
    refine wp_cond_true (Ak (evb rfl e7b))<|wp_seq_k fun K7i h7i=>Ag<|sV (Af (o':=0) IA rfl rfl) ?_
    refine sV (Ah BN rfl (Bx.cell (q4e.ext E5a) rfl)) ?_
    refine sV (Af (o':=1) Jo rfl rfl) ?_
    refine sV (Ah BN rfl (Bx.cell (q4e.ext E5a) rfl)) ?_
    refine sV (Aa rfl) ?_
    refine sV (Af (o':=0) Hj rfl rfl) ?_
    refine sV (Af (o':=0) DP rfl rfl) ?_
    have q5p:=((((q1e.ext E4c).ext E5c).ext E7c).ext F7a).ext E5a
    refine sV (Ah FS rfl (Bx.cell q5p rfl)) ?_
    refine sV (Aa rfl) ?_
    refine sV (Aa rfl) ?_
    have n6p:=((n4h.ext E7c).ext F7a).ext E5a
    obtain ⟨r7p,h8p,f9p⟩:=Ab f4p
    refine sc (Ae Mi (by rfl)) (GP r6c.Q r6c.R r3e x0.Num.Neg x2 (wi64 ((wi64 ((wi64 (r0a - r1a)) - x1))+1)) A7h c8h A5o c6o A2h c3h w1d (tbx X6i hT) ((n9h.ext F7a).ext E5a) ((n7o.ext F7a).ext E5a) n6p r7p h8p) ?_
    rintro _ w2d E8i ⟨A0q,c1q,rfl,n2q⟩
    refine nrm ?_
    have X3q:=xtr X6i E8i
    have q9i:=(((((((((((((q8b.ext E8a).ext E3b).ext E4b).ext E9a).ext E0b).ext E1b).ext F4a).ext E2a).ext E4c).ext E5c).ext E7c).ext F7a).ext E5a).ext E8i
    refine As Dq rfl rfl q9i rfl rfl rfl rfl (by simp only [SP0,SP1,S0,S1,Nat.reduceAdd];rfl) fun w3d U0j q4q=>?_
    have X5q:=Bf X3q U0j g9b
    refine Ad<|h7i _ _<|wp_ret ?_
    obtain rfl:=sj f9p
    exact fin rfl (Res.cellN rfl Bj q4q rfl rfl Res.nil) (Al X5q ⟨A0q,c1q,rfl,(n2q.upd U0j q9i (by decide))⟩)
   ·have p6q:=zN hz8c e7b
    have f7q:=ifN p6q f5i
    refine wp_cond_false (Ak (evb rfl e7b))<|wp_skip<|h3i _ _<|Ag<|sV (Aa rfl) ?_
    refine sV (AN (c:=wi64 ((wi64 ((wi64 ((wi64 (r0a - r1a)) - x1))+1))+1)) rfl rfl rfl) ?_
    refine sV (Ac rfl) ?_
    refine Ad ?_
    exact nomatch f7q
theorem c_sorobanref04_Over (x0:Am) (x1:Am) (x2:Int) (A1:Option Addr) (c2:Nat) (A4:Option Addr) (c5:Nat) (A7:Option Addr) (c8:Nat) (A1j:Option Addr) (c2j:Nat) (w:World) (hT:TB w) (n3:RU w A1 c2 x0.Lo.Man.Abs) (n6:RU w A4 c5 x0.Hi.Man.Abs) (n9:RU w A7 c8 x1.Lo.Man.Abs) (n7m:RU w A1j c2j x1.Hi.Man.Abs) (r:Am) (hr:Fa x0 x1 x2=some r) :
  Calls Tryz.prog 20 #[.agg #[.bool x0.Lo.Man.Neg,.slice A1 (sz x0.Lo.Man.Abs) c2,.int .i64 x0.Lo.Exp,.bool x0.Hi.Man.Neg,.slice A4 (sz x0.Hi.Man.Abs) c5,.int .i64 x0.Hi.Exp],.agg #[.bool x1.Lo.Man.Neg,.slice A7 (sz x1.Lo.Man.Abs) c8,.int .i64 x1.Lo.Exp,.bool x1.Hi.Man.Neg,.slice A1j (sz x1.Hi.Man.Abs) c2j,.int .i64 x1.Hi.Exp],.int .i64 x2] w (Ret JI w r):=by
 unfold Fa at hr
 go_enter Tryz.func20,Tryz.ntmps20
 refine wp_seq_k fun K8m h8m=>Ag<|BL rfl rfl fun b2s w1 E9k g3s q3d=>?_
 refine nrm ?_
 refine BL rfl rfl fun b4s w2 E8f g9f q0h=>?_
 refine nrm ?_
 have g5s:=nlt E9k.size g9f
 have X5f:=xtr E9k E8f
 refine Ax FU fun b6s w3 E1d g0g q3j=>?_
 refine nrm ?_
 have g9m:=nlt X5f.size g0g
 have X1g:=xtr X5f E1d
 refine Ad<|h8m _ _<|wp_seq_k fun K0l h0l=>DB [] 22 mo rfl fun w4 E9b S4d=>have X4j:=xtr X1g E9b;dA 0 rfl (fun _=>Af (o':=0) FI rfl rfl) ?_
 refine dV 1 rfl (fun _ hw=>Aq Bj rfl ((((q3d.ext E8f).ext E1d).ext E9b).ext hw) (by simp only [List.drop_zero,List.take_succ_cons,List.take_zero];rfl) rfl) S4d ?_
 refine dA 2 rfl (fun _=>Af (o':=0) FI rfl rfl) ?_
 refine dV 3 rfl (fun _ hw=>Aq Bj rfl (((q0h.ext E1d).ext E9b).ext hw) (by simp only [List.drop_zero,List.take_succ_cons,List.take_zero];rfl) rfl) S4d ?_
 refine dA 5 rfl (fun _=>Af (o':=0) FI rfl rfl) ?_
 refine dV 6 rfl (fun _ hw=>Aq Bj rfl ((((q3d.ext E8f).ext E1d).ext E9b).ext hw) (by simp only [List.drop_zero,List.take_succ_cons,List.take_zero];rfl) rfl) S4d ?_
 refine dA 7 rfl (fun _=>Af (o':=3) FY rfl rfl) ?_
 refine dV 8 rfl (fun _ hw=>Aq Bj rfl (((q0h.ext E1d).ext E9b).ext hw) (by simp only [List.drop_succ_cons,List.drop_zero,List.take_succ_cons,List.take_zero];rfl) rfl) S4d ?_
 refine dA 10 rfl (fun _=>Af (o':=3) FY rfl rfl) ?_
 refine dV 11 rfl (fun _ hw=>Aq Bj rfl ((((q3d.ext E8f).ext E1d).ext E9b).ext hw) (by simp only [List.drop_succ_cons,List.drop_zero,List.take_succ_cons,List.take_zero];rfl) rfl) S4d ?_
 refine dA 12 rfl (fun _=>Af (o':=0) FI rfl rfl) ?_
 refine dV 13 rfl (fun _ hw=>Aq Bj rfl (((q0h.ext E1d).ext E9b).ext hw) (by simp only [List.drop_zero,List.take_succ_cons,List.take_zero];rfl) rfl) S4d ?_
 refine dA 15 rfl (fun _=>Af (o':=3) FY rfl rfl) ?_
 refine dV 16 rfl (fun _ hw=>Aq Bj rfl ((((q3d.ext E8f).ext E1d).ext E9b).ext hw) (by simp only [List.drop_succ_cons,List.drop_zero,List.take_succ_cons,List.take_zero];rfl) rfl) S4d ?_
 refine dA 17 rfl (fun _=>Af (o':=3) FY rfl rfl) ?_
 refine dV 18 rfl (fun _ hw=>Aq Bj rfl (((q0h.ext E1d).ext E9b).ext hw) (by simp only [List.drop_succ_cons,List.drop_zero,List.take_succ_cons,List.take_zero];rfl) rfl) S4d ?_
 obtain ⟨r5c,h7s,f8s⟩:=Ab hr
 refine dc 4 rfl (by kernel_rfl) (by rfl) (Ae ME (by rfl)) (EP x0.Lo x1.Lo A1 c2 A7 c8 w4 (tbx X4j hT) (n3.ext X4j) (n9.ext X4j) r5c h7s) ?_
 rintro _ w5 E1h ⟨A6f,c2g,A3g,c4g,rfl,n6a0,n7a0⟩
 refine dnrm ?_
 have X1l:=xtr X4j E1h
 have S8a0:=S4d.trans E1h
 obtain ⟨r0c,h9a0,f0a1⟩:=Ab f8s
 refine dc 9 rfl (by kernel_rfl) (by rfl) (Ae ME (by rfl)) (EP x0.Lo x1.Hi A1 c2 A1j c2j w5 (tbx X1l hT) (n3.ext X1l) (n7m.ext X1l) r0c h9a0) ?_
 rintro _ w6 E5g ⟨A9e,c0f,A1f,c2f,rfl,n1a1,n2a1⟩
 refine dnrm ?_
 have X2l:=xtr X1l E5g
 have S3a1:=S8a0.trans E5g
 obtain ⟨r6b,h4a1,f5a1⟩:=Ab f0a1
 refine dc 14 rfl (by kernel_rfl) (by rfl) (Ae ME (by rfl)) (EP x0.Hi x1.Lo A4 c5 A7 c8 w6 (tbx X2l hT) (n6.ext X2l) (n9.ext X2l) r6b h4a1) ?_
 rintro _ w7 E3f ⟨A5d,c6d,A7d,c8d,rfl,n6a1,n7a1⟩
 refine dnrm ?_
 have X3l:=xtr X2l E3f
 have S8a1:=S3a1.trans E3f
 obtain ⟨r7b,h9a1,f0a2⟩:=Ab f5a1
 refine dc 19 rfl (by kernel_rfl) (by rfl) (Ae ME (by rfl)) (EP x0.Hi x1.Hi A4 c5 A1j c2j w7 (tbx X3l hT) (n6.ext X3l) (n7m.ext X3l) r7b h9a1) ?_
 rintro _ w8 E2d ⟨A9d,c0e,A1e,c2e,rfl,n1a2,n2a2⟩
 refine dnrm ?_
 have X9s:=xtr X3l E2d
 have S3a2:=S8a1.trans E2d
 refine Dz 20 (by kernel_rfl) (opB (cs:=[.bool r5c.Num.Neg,.slice A6f (sz r5c.Num.Abs) c2g,.slice A3g (sz r5c.Den) c4g,.bool r0c.Num.Neg,.slice A9e (sz r0c.Num.Abs) c0f,.slice A1f (sz r0c.Den) c2f,.bool r6b.Num.Neg,.slice A5d (sz r6b.Num.Abs) c6d,.slice A7d (sz r6b.Den) c8d,.bool r7b.Num.Neg,.slice A9d (sz r7b.Num.Abs) c0e,.slice A1e (sz r7b.Den) c2e]) 20 rfl (by rfl) (Ma (vals:=[(0,.agg #[.bool r5c.Num.Neg,.slice A6f (sz r5c.Num.Abs) c2g,.slice A3g (sz r5c.Den) c4g]),(1,.agg #[.bool r0c.Num.Neg,.slice A9e (sz r0c.Num.Abs) c0f,.slice A1f (sz r0c.Den) c2f]),(2,.agg #[.bool r6b.Num.Neg,.slice A5d (sz r6b.Num.Abs) c6d,.slice A7d (sz r6b.Den) c8d]),(3,.agg #[.bool r7b.Num.Neg,.slice A9d (sz r7b.Num.Abs) c0e,.slice A1e (sz r7b.Den) c2e])]) GX Fs KI (by rfl) (by decide) (by kernel_rfl)) ?_)
 intro b9c w9 E6c g4a2 q2c
 refine dnrm ?_
 have g2af:=nlt X9s.size g4a2
 have X0t:=xtr X9s E6c
 have S3af:=S3a2.trans E6c
 refine dA 21 rfl (fun _=>Ac rfl) ?_
 refine Cv (by kernel_rfl) ?_
 refine h0l _ _<|wp_seq_k fun K1t h1t=>Ag<|sV (Aa rfl) ?_
 refine sV (CO (o':=0) GX Fs rfl rfl (by decide) (by decide) (by decide)) ?_
 refine sV (Aq FG rfl q2c (by simp only [List.drop_zero,List.take_succ_cons,List.take_zero];rfl) rfl) ?_
 refine Ax KI fun b2h w1j E5a2 g0n q6a2=>?_
 refine nrm ?_
 have g1n:=nlt X0t.size g0n
 refine As Fs rfl rfl q6a2 rfl rfl rfl rfl (by simp only [SP0,SP1,S0,S1,Nat.reduceAdd];rfl) fun w2j U7a2 q7c=>?_
 have F1b:=Bf E5a2 U7a2 g0n
 have X2t:=xtr X0t F1b
 refine Ad<|h1t _ _<|wp_seq_k fun K3t h3t=>Ag<|sV (Aa rfl) ?_
 refine sV (CO (o':=0) GX Fs rfl rfl (by decide) (by decide) (by decide)) ?_
 refine sV (Aq FG rfl (q2c.ext F1b) (by simp only [List.drop_zero,List.take_succ_cons,List.take_zero];rfl) rfl) ?_
 refine Ax KI fun b3h w7m E8a2 g4l q9a2=>?_
 refine nrm ?_
 have g2n:=nlt X2t.size g4l
 refine As Fs rfl rfl q9a2 rfl rfl rfl rfl (by simp only [SP0,SP1,S0,S1,Nat.reduceAdd];rfl) fun w8m U0a3 q3e=>?_
 have F5a:=Bf E8a2 U0a3 g4l
 have X1a3:=xtr X2t F5a
 refine Ad<|h3t _ _<|wp_seq_k fun K4t h4t=>wp_seq_k fun K5t h5t=>Ag<|sV (Ac rfl) ?_
 refine Ad<|h5t _ _ ?_
 apply wp_block
 refine Hy<|Bg<|wp_seq_k fun K6t h6t=>wp_seq_k fun K7t h7t=>Ag<|sV (Aa rfl) ?_
 refine sV (IV (v:=.bool true) (Cz rfl rfl) (by rfl)) ?_
 refine Ad<|h7t _ _<|wp_cond_true (Ak (evb rfl rfl))<|wp_skip<|h6t _ _<|wp_seq_k fun K8t h8t=>?_
 apply wp_block
 refine wp_seq_k fun K9t h9t=>wp_seq_k fun K0u h0u=>DB [] 7 mo rfl fun w2s E1a S3n=>have X1u:=xtr X1a3 E1a;dA 0 rfl (fun _=>Aa rfl) ?_
 refine dA 1 rfl (fun _=>Aa rfl) ?_
 refine dA 2 rfl (fun _=>CO (o':=3) GX Fs rfl rfl (by decide) (by decide) (by decide)) ?_
 refine dV 3 rfl (fun _ hw=>Aq FG rfl ((((q2c.ext F1b).ext F5a).ext E1a).ext hw) (by simp only [List.drop_succ_cons,List.drop_zero,List.take_succ_cons,List.take_zero];rfl) rfl) S3n ?_
 refine dV 4 rfl (fun _ hw=>An FG rfl (((q7c.ext F5a).ext E1a).ext hw) rfl) S3n ?_
 have n4n:=(((((n1a1.ext E3f).ext E2d).ext E6c).ext F1b).ext F5a).ext E1a
 have n5n:=(((((n2a1.ext E3f).ext E2d).ext E6c).ext F1b).ext F5a).ext E1a
 have n6n:=((((((n6a0.ext E5g).ext E3f).ext E2d).ext E6c).ext F1b).ext F5a).ext E1a
 have n7n:=((((((n7a0.ext E5g).ext E3f).ext E2d).ext E6c).ext F1b).ext F5a).ext E1a
 obtain ⟨r2a3,h3a3,f4a3⟩:=Ab f0a2
 refine dc 5 rfl (by kernel_rfl) (by rfl) (Ae Lc (by rfl)) (Dr r0c r5c A9e c0f A1f c2f A6f c2g A3g c4g w2s (tbx X1u hT) n4n n5n n6n n7n r2a3 h3a3) ?_
 rintro _ w9k E0a rfl
 refine dnrm ?_
 have X2u:=xtr X1u E0a
 have S4af:=S3n.trans E0a
 refine dab 6 rfl (by kernel_rfl) (fun _ _ _ h=>h) (by rfl) (fun _=>Cz rfl rfl) fun z5l hz5l=>?_
 refine dnrm ?_
 refine Cv (by kernel_rfl) ?_
 refine h0u _ _ ?_
 obtain ⟨m4e,h3u,f5a3⟩:=Ab f4a3
 refine BM (fun l l' w'=>∃(t8n:Value) (t9n:Value) (t0o:Value) (t1o:Value) (A4h:Option Addr) (c5h:Nat) (A6h:Option Addr) (c7h:Nat),UpdS [b2h] w9k w'∧Bx w' b2h 65 [.bool m4e.1,.slice A4h (sz m4e.2.1) c5h,.slice A6h (sz m4e.2.2) c7h]∧RU w' A4h c5h m4e.2.1∧RU w' A6h c7h m4e.2.2∧l'=((((l.set 51 t8n).set 52 t9n).set 53 t0o).set 54 t1o)) ?_ ?_
 ·rcases bft z5l with e5j | e5j
  ·have p6a3:=zP hz5l e5j
   have f7a3:=ifP p6a3 h3u
   refine wp_cond_true (Ak (evb rfl e5j))<|Ag<|sV (Aa rfl) ?_
   refine sV (Aa rfl) ?_
   refine sV (CO (o':=3) GX Fs rfl rfl (by decide) (by decide) (by decide)) ?_
   have q8a3:=(((q2c.ext F1b).ext F5a).ext E1a).ext E0a
   refine sV (Aq FG rfl q8a3 (by simp only [List.drop_succ_cons,List.drop_zero,List.take_succ_cons,List.take_zero];rfl) rfl) ?_
   have q2o:=((q7c.ext F5a).ext E1a).ext E0a
   refine As Fs rfl rfl q2o rfl rfl rfl rfl (by simp only [SP0,SP1,S0,S1,Nat.reduceAdd];rfl) fun w3s U3o q9a3=>?_
   refine Ad ?_
   have n0a4:=(n4n.ext E0a).upd U3o q2o (by decide)
   have n1a4:=(n5n.ext E0a).upd U3o q2o (by decide)
   obtain rfl:=sj f7a3
   exact ⟨_,rfl,(.slice (some ⟨b9c,0,none⟩) 4 4),(.int .i64 1),(.pointer (some ⟨b9c,3,none⟩)),(.agg #[.bool r0c.Num.Neg,.slice A9e (sz r0c.Num.Abs) c0f,.slice A1f (sz r0c.Den) c2f]),A9e,c0f,A1f,c2f,((UpdS.refl _ _).upd U3o (.inl im0)),q9a3,n0a4,n1a4,(by simp only [S0,S1]<;>rfl)⟩
  ·have p2a4:=zN hz5l e5j
   have f3a4:=ifN p2a4 h3u
   refine wp_cond_false (Ak (evb rfl e5j))<|wp_skip ?_
   have q4a4:=((q7c.ext F5a).ext E1a).ext E0a
   obtain rfl:=sj f3a4
   exact ⟨_,rfl,uu,uu,uu,uu,A6f,c2g,A3g,c4g,(UpdS.refl _ _),q4a4,(n6n.ext E0a),(n7n.ext E0a),(by simp only [S0,S1]<;>rfl)⟩
 ·rintro l' w3s ⟨t8n,t9n,t0o,t1o,A4h,c5h,A6h,c7h,U8a,q4f,n5a4,n6a4,hq'⟩ l'' hl
  rw [hq'] at hl
  clear hq'
  simp only [S0,S1] at hl
  subst hl
  have X7a4:=GQ X2u U8a (X2u).size (alc g1n al0)
  refine h9t _ _<|wp_seq_k fun K4u h4u=>DB [] 7 mo rfl fun w3d E2a S4o=>have X5u:=xtr X7a4 E2a;dA 0 rfl (fun _=>Aa rfl) ?_
  refine dA 1 rfl (fun _=>Aa rfl) ?_
  refine dA 2 rfl (fun _=>CO (o':=3) GX Fs rfl rfl (by decide) (by decide) (by decide)) ?_
  have ne8b:=(Bx.ne q2c g0n)
  refine dV 3 rfl (fun _ hw=>Aq FG rfl (((((((q2c.ext F1b).ext F5a).ext E1a).ext E0a).updS U8a (nmc ne8b nm0)).ext E2a).ext hw) (by simp only [List.drop_succ_cons,List.drop_zero,List.take_succ_cons,List.take_zero];rfl) rfl) S4o ?_
  have ne4a:=(Bx.ne q7c g4l).symm
  refine dV 4 rfl (fun _ hw=>An FG rfl (((((q3e.ext E1a).ext E0a).updS U8a (nmc ne4a nm0)).ext E2a).ext hw) rfl) S4o ?_
  have n6u:RU w3d A9e c0f r0c.Num.Abs:=((n4n.ext E0a).updS U8a (alc ⟨_,_,by decide,((q7c.ext F5a).ext E1a).ext E0a⟩ al0)).ext E2a
  have n7u:RU w3d A1f c2f r0c.Den:=((n5n.ext E0a).updS U8a (alc ⟨_,_,by decide,((q7c.ext F5a).ext E1a).ext E0a⟩ al0)).ext E2a
  have n8u:RU w3d A6f c2g r5c.Num.Abs:=((n6n.ext E0a).updS U8a (alc ⟨_,_,by decide,((q7c.ext F5a).ext E1a).ext E0a⟩ al0)).ext E2a
  have n9u:RU w3d A3g c4g r5c.Den:=((n7n.ext E0a).updS U8a (alc ⟨_,_,by decide,((q7c.ext F5a).ext E1a).ext E0a⟩ al0)).ext E2a
  obtain ⟨r8a4,h9a4,f0a5⟩:=Ab f5a3
  refine dc 5 rfl (by kernel_rfl) (by rfl) (Ae Lc (by rfl)) (Dr r0c r5c A9e c0f A1f c2f A6f c2g A3g c4g w3d (tbx X5u hT) n6u n7u n8u n9u r8a4 h9a4) ?_
  rintro _ w4s E3a rfl
  refine dnrm ?_
  have X0v:=xtr X5u E3a
  have S5af:=S4o.trans E3a
  refine dab 6 rfl (by kernel_rfl) (fun _ _ _ h=>h) (by rfl) (fun _=>Eh rfl rfl) fun z6l hz6l=>?_
  refine dnrm ?_
  refine Cv (by kernel_rfl) ?_
  refine h4u _ _ ?_
  obtain ⟨m5e,h1v,f1a5⟩:=Ab f0a5
  refine BM (fun l l' w'=>∃(t5o:Value) (t6o:Value) (t7o:Value) (t8o:Value) (A8h:Option Addr) (c9h:Nat) (A0i:Option Addr) (c1i:Nat),UpdS [b3h] w4s w'∧Bx w' b3h 65 [.bool m5e.1,.slice A8h (sz m5e.2.1) c9h,.slice A0i (sz m5e.2.2) c1i]∧RU w' A8h c9h m5e.2.1∧RU w' A0i c1i m5e.2.2∧l'=((((l.set 62 t5o).set 63 t6o).set 64 t7o).set 65 t8o)) ?_ ?_
  ·rcases bft z6l with e6j | e6j
   ·have p2a5:=zP hz6l e6j
    have f3a5:=ifP p2a5 h1v
    refine wp_cond_true (Ak (evb rfl e6j))<|Ag<|sV (Aa rfl) ?_
    refine sV (Aa rfl) ?_
    refine sV (CO (o':=3) GX Fs rfl rfl (by decide) (by decide) (by decide)) ?_
    have q4a5:=((((((q2c.ext F1b).ext F5a).ext E1a).ext E0a).updS U8a (nmc ne8b nm0)).ext E2a).ext E3a
    refine sV (Aq FG rfl q4a5 (by simp only [List.drop_succ_cons,List.drop_zero,List.take_succ_cons,List.take_zero];rfl) rfl) ?_
    have q9o:=((((q3e.ext E1a).ext E0a).updS U8a (nmc ne4a nm0)).ext E2a).ext E3a
    refine As Fs rfl rfl q9o rfl rfl rfl rfl (by simp only [SP0,SP1,S0,S1,Nat.reduceAdd];rfl) fun w8f U0p q5a5=>?_
    refine Ad ?_
    have n6a5:=(n6u.ext E3a).upd U0p q9o (by decide)
    have n7a5:=(n7u.ext E3a).upd U0p q9o (by decide)
    obtain rfl:=sj f3a5
    exact ⟨_,rfl,(.slice (some ⟨b9c,0,none⟩) 4 4),(.int .i64 1),(.pointer (some ⟨b9c,3,none⟩)),(.agg #[.bool r0c.Num.Neg,.slice A9e (sz r0c.Num.Abs) c0f,.slice A1f (sz r0c.Den) c2f]),A9e,c0f,A1f,c2f,((UpdS.refl _ _).upd U0p (.inl im0)),q5a5,n6a5,n7a5,(by simp only [S0,S1]<;>rfl)⟩
   ·have p8a5:=zN hz6l e6j
    have f9a5:=ifN p8a5 h1v
    refine wp_cond_false (Ak (evb rfl e6j))<|wp_skip ?_
    have q0a6:=((((q3e.ext E1a).ext E0a).updS U8a (nmc ne4a nm0)).ext E2a).ext E3a
    obtain rfl:=sj f9a5
    exact ⟨_,rfl,uu,uu,uu,uu,A6f,c2g,A3g,c4g,(UpdS.refl _ _),q0a6,(n8u.ext E3a),(n9u.ext E3a),(by simp only [S0,S1]<;>rfl)⟩
  ·rintro l' w8f ⟨t5o,t6o,t7o,t8o,A8h,c9h,A0i,c1i,U2b,q6g,n1a6,n2a6,hq'⟩ l'' hl
   rw [hq'] at hl
   clear hq'
   simp only [S0,S1] at hl
   subst hl
   have X3a6:=GQ X0v U2b (X0v).size (alc g2n al0)
   refine h8t _ _<|Ag<|sV (Aa rfl) ?_
   refine sV (AN (c:=2) rfl rfl (by decide)) ?_
   refine sV (Ac rfl) ?_
   refine Ad<|Bg<|wp_seq_k fun K2v h2v=>wp_seq_k fun K3v h3v=>Ag<|sV (Aa rfl) ?_
   refine sV (IV (v:=.bool true) (Cz rfl rfl) (by rfl)) ?_
   refine Ad<|h3v _ _<|wp_cond_true (Ak (evb rfl rfl))<|wp_skip<|h2v _ _<|wp_seq_k fun K4v h4v=>?_
   apply wp_block
   refine wp_seq_k fun K5v h5v=>wp_seq_k fun K6v h6v=>DB [] 7 mo rfl fun w9f E7a S1p=>have X7v:=xtr X3a6 E7a;dA 0 rfl (fun _=>Aa rfl) ?_
   refine dA 1 rfl (fun _=>Aa rfl) ?_
   refine dA 2 rfl (fun _=>CO (o':=6) GX Fs rfl rfl (by decide) (by decide) (by decide)) ?_
   have ne0d:=(Bx.ne (q2c.ext F1b) g4l)
   refine dV 3 rfl (fun _ hw=>Aq FG rfl ((((((((((q2c.ext F1b).ext F5a).ext E1a).ext E0a).updS U8a (nmc ne8b nm0)).ext E2a).ext E3a).updS U2b (nmc ne0d nm0)).ext E7a).ext hw) (by simp only [List.drop_succ_cons,List.drop_zero,List.take_succ_cons,List.take_zero];rfl) rfl) S1p ?_
   refine dV 4 rfl (fun _ hw=>An FG rfl (((((q4f.ext E2a).ext E3a).updS U2b (nmc (Ne.symm ne4a) nm0)).ext E7a).ext hw) rfl) S1p ?_
   have n2p:RU w9f A5d c6d r6b.Num.Abs:=((((((((((n6a1.ext E2d).ext E6c).ext F1b).ext F5a).ext E1a).ext E0a).updS U8a (alc ⟨_,_,by decide,((q7c.ext F5a).ext E1a).ext E0a⟩ al0)).ext E2a).ext E3a).updS U2b (alc ⟨_,_,by decide,((((q3e.ext E1a).ext E0a).updS U8a (nmc ne4a nm0)).ext E2a).ext E3a⟩ al0)).ext E7a
   have n3p:RU w9f A7d c8d r6b.Den:=((((((((((n7a1.ext E2d).ext E6c).ext F1b).ext F5a).ext E1a).ext E0a).updS U8a (alc ⟨_,_,by decide,((q7c.ext F5a).ext E1a).ext E0a⟩ al0)).ext E2a).ext E3a).updS U2b (alc ⟨_,_,by decide,((((q3e.ext E1a).ext E0a).updS U8a (nmc ne4a nm0)).ext E2a).ext E3a⟩ al0)).ext E7a
   have n8v:RU w9f A4h c5h m4e.2.1:=(((n5a4.ext E2a).ext E3a).updS U2b (alc ⟨_,_,by decide,((((q3e.ext E1a).ext E0a).updS U8a (nmc ne4a nm0)).ext E2a).ext E3a⟩ al0)).ext E7a
   have n9v:RU w9f A6h c7h m4e.2.2:=(((n6a4.ext E2a).ext E3a).updS U2b (alc ⟨_,_,by decide,((((q3e.ext E1a).ext E0a).updS U8a (nmc ne4a nm0)).ext E2a).ext E3a⟩ al0)).ext E7a
   obtain ⟨r4a6,h5a6,f6a6⟩:=Ab f1a5
   refine dc 5 rfl (by kernel_rfl) (by rfl) (Ae Lc (by rfl)) (Dr r6b (⟨(⟨m4e.1,m4e.2.1⟩:Ai),m4e.2.2⟩:Cg) A5d c6d A7d c8d A4h c5h A6h c7h w9f (tbx X7v hT) n2p n3p n8v n9v r4a6 h5a6) ?_
   rintro _ w0h E6a rfl
   refine dnrm ?_
   have X0w:=xtr X7v E6a
   have S6af:=S1p.trans E6a
   refine dab 6 rfl (by kernel_rfl) (fun _ _ _ h=>h) (by rfl) (fun _=>Cz rfl rfl) fun z7l hz7l=>?_
   refine dnrm ?_
   refine Cv (by kernel_rfl) ?_
   refine h6v _ _ ?_
   obtain ⟨m6e,h1w,f7a6⟩:=Ab f6a6
   refine BM (fun l l' w'=>∃(t4p:Value) (t5p:Value) (t6p:Value) (t7p:Value) (A2i:Option Addr) (c3i:Nat) (A4i:Option Addr) (c5i:Nat),UpdS [b2h] w0h w'∧Bx w' b2h 65 [.bool m6e.1,.slice A2i (sz m6e.2.1) c3i,.slice A4i (sz m6e.2.2) c5i]∧RU w' A2i c3i m6e.2.1∧RU w' A4i c5i m6e.2.2∧l'=((((l.set 51 t4p).set 52 t5p).set 53 t6p).set 54 t7p)) ?_ ?_
   ·rcases bft z7l with e7j | e7j
    ·have p8a6:=zP hz7l e7j
     have f9a6:=ifP p8a6 h1w
     refine wp_cond_true (Ak (evb rfl e7j))<|Ag<|sV (Aa rfl) ?_
     refine sV (Aa rfl) ?_
     refine sV (CO (o':=6) GX Fs rfl rfl (by decide) (by decide) (by decide)) ?_
     have q0a7:=(((((((((q2c.ext F1b).ext F5a).ext E1a).ext E0a).updS U8a (nmc ne8b nm0)).ext E2a).ext E3a).updS U2b (nmc ne0d nm0)).ext E7a).ext E6a
     refine sV (Aq FG rfl q0a7 (by simp only [List.drop_succ_cons,List.drop_zero,List.take_succ_cons,List.take_zero];rfl) rfl) ?_
     have q8p:=((((q4f.ext E2a).ext E3a).updS U2b (nmc (Ne.symm ne4a) nm0)).ext E7a).ext E6a
     refine As Fs rfl rfl q8p rfl rfl rfl rfl (by simp only [SP0,SP1,S0,S1,Nat.reduceAdd];rfl) fun w5s U9p q1a7=>?_
     refine Ad ?_
     have n2a7:=(n2p.ext E6a).upd U9p q8p (by decide)
     have n3a7:=(n3p.ext E6a).upd U9p q8p (by decide)
     obtain rfl:=sj f9a6
     exact ⟨_,rfl,(.slice (some ⟨b9c,0,none⟩) 4 4),(.int .i64 2),(.pointer (some ⟨b9c,6,none⟩)),(.agg #[.bool r6b.Num.Neg,.slice A5d (sz r6b.Num.Abs) c6d,.slice A7d (sz r6b.Den) c8d]),A5d,c6d,A7d,c8d,((UpdS.refl _ _).upd U9p (.inl im0)),q1a7,n2a7,n3a7,(by simp only [S0,S1]<;>rfl)⟩
    ·have p4a7:=zN hz7l e7j
     have f5a7:=ifN p4a7 h1w
     refine wp_cond_false (Ak (evb rfl e7j))<|wp_skip ?_
     have q6a7:=((((q4f.ext E2a).ext E3a).updS U2b (nmc (Ne.symm ne4a) nm0)).ext E7a).ext E6a
     obtain rfl:=sj f5a7
     exact ⟨_,rfl,t8n,t9n,t0o,t1o,A4h,c5h,A6h,c7h,(UpdS.refl _ _),q6a7,(n8v.ext E6a),(n9v.ext E6a),(by simp only [S0,S1]<;>rfl)⟩
   ·rintro l' w5s ⟨t4p,t5p,t6p,t7p,A2i,c3i,A4i,c5i,U5b,q7g,n7a7,n8a7,hq'⟩ l'' hl
    rw [hq'] at hl
    clear hq'
    simp only [S0,S1] at hl
    subst hl
    have X9a7:=GQ X0w U5b (X0w).size (alc g1n al0)
    refine h5v _ _<|wp_seq_k fun K2w h2w=>DB [] 7 mo rfl fun w5f E9a S0q=>have X3w:=xtr X9a7 E9a;dA 0 rfl (fun _=>Aa rfl) ?_
    refine dA 1 rfl (fun _=>Aa rfl) ?_
    refine dA 2 rfl (fun _=>CO (o':=6) GX Fs rfl rfl (by decide) (by decide) (by decide)) ?_
    refine dV 3 rfl (fun _ hw=>Aq FG rfl (((((((((((((q2c.ext F1b).ext F5a).ext E1a).ext E0a).updS U8a (nmc ne8b nm0)).ext E2a).ext E3a).updS U2b (nmc ne0d nm0)).ext E7a).ext E6a).updS U5b (nmc ne8b nm0)).ext E9a).ext hw) (by simp only [List.drop_succ_cons,List.drop_zero,List.take_succ_cons,List.take_zero];rfl) rfl) S0q ?_
    refine dV 4 rfl (fun _ hw=>An FG rfl (((((q6g.ext E7a).ext E6a).updS U5b (nmc ne4a nm0)).ext E9a).ext hw) rfl) S0q ?_
    have n4w:RU w5f A5d c6d r6b.Num.Abs:=((n2p.ext E6a).updS U5b (alc ⟨_,_,by decide,((((q4f.ext E2a).ext E3a).updS U2b (nmc (Ne.symm ne4a) nm0)).ext E7a).ext E6a⟩ al0)).ext E9a
    have n5w:RU w5f A7d c8d r6b.Den:=((n3p.ext E6a).updS U5b (alc ⟨_,_,by decide,((((q4f.ext E2a).ext E3a).updS U2b (nmc (Ne.symm ne4a) nm0)).ext E7a).ext E6a⟩ al0)).ext E9a
    have n6w:RU w5f A8h c9h m5e.2.1:=(((n1a6.ext E7a).ext E6a).updS U5b (alc ⟨_,_,by decide,((((q4f.ext E2a).ext E3a).updS U2b (nmc (Ne.symm ne4a) nm0)).ext E7a).ext E6a⟩ al0)).ext E9a
    have n7w:RU w5f A0i c1i m5e.2.2:=(((n2a6.ext E7a).ext E6a).updS U5b (alc ⟨_,_,by decide,((((q4f.ext E2a).ext E3a).updS U2b (nmc (Ne.symm ne4a) nm0)).ext E7a).ext E6a⟩ al0)).ext E9a
    obtain ⟨r0a8,h1a8,f2a8⟩:=Ab f7a6
    refine dc 5 rfl (by kernel_rfl) (by rfl) (Ae Lc (by rfl)) (Dr r6b (⟨(⟨m5e.1,m5e.2.1⟩:Ai),m5e.2.2⟩:Cg) A5d c6d A7d c8d A8h c9h A0i c1i w5f (tbx X3w hT) n4w n5w n6w n7w r0a8 h1a8) ?_
    rintro _ w6s E0b rfl
    refine dnrm ?_
    have X8w:=xtr X3w E0b
    have S7af:=S0q.trans E0b
    refine dab 6 rfl (by kernel_rfl) (fun _ _ _ h=>h) (by rfl) (fun _=>Eh rfl rfl) fun z8l hz8l=>?_
    refine dnrm ?_
    refine Cv (by kernel_rfl) ?_
    refine h2w _ _ ?_
    obtain ⟨m7e,h9w,f3a8⟩:=Ab f2a8
    refine BM (fun l l' w'=>∃(t1q:Value) (t2q:Value) (t3q:Value) (t4q:Value) (A6i:Option Addr) (c7i:Nat) (A8i:Option Addr) (c9i:Nat),UpdS [b3h] w6s w'∧Bx w' b3h 65 [.bool m7e.1,.slice A6i (sz m7e.2.1) c7i,.slice A8i (sz m7e.2.2) c9i]∧RU w' A6i c7i m7e.2.1∧RU w' A8i c9i m7e.2.2∧l'=((((l.set 62 t1q).set 63 t2q).set 64 t3q).set 65 t4q)) ?_ ?_
    ·rcases bft z8l with e8j | e8j
     ·have p4a8:=zP hz8l e8j
      have f5a8:=ifP p4a8 h9w
      refine wp_cond_true (Ak (evb rfl e8j))<|Ag<|sV (Aa rfl) ?_
      refine sV (Aa rfl) ?_
      refine sV (CO (o':=6) GX Fs rfl rfl (by decide) (by decide) (by decide)) ?_
      have q6a8:=((((((((((((q2c.ext F1b).ext F5a).ext E1a).ext E0a).updS U8a (nmc ne8b nm0)).ext E2a).ext E3a).updS U2b (nmc ne0d nm0)).ext E7a).ext E6a).updS U5b (nmc ne8b nm0)).ext E9a).ext E0b
      refine sV (Aq FG rfl q6a8 (by simp only [List.drop_succ_cons,List.drop_zero,List.take_succ_cons,List.take_zero];rfl) rfl) ?_
      have q5q:=((((q6g.ext E7a).ext E6a).updS U5b (nmc ne4a nm0)).ext E9a).ext E0b
      refine As Fs rfl rfl q5q rfl rfl rfl rfl (by simp only [SP0,SP1,S0,S1,Nat.reduceAdd];rfl) fun w1d U6q q7a8=>?_
      refine Ad ?_
      have n8a8:=(n4w.ext E0b).upd U6q q5q (by decide)
      have n9a8:=(n5w.ext E0b).upd U6q q5q (by decide)
      obtain rfl:=sj f5a8
      exact ⟨_,rfl,(.slice (some ⟨b9c,0,none⟩) 4 4),(.int .i64 2),(.pointer (some ⟨b9c,6,none⟩)),(.agg #[.bool r6b.Num.Neg,.slice A5d (sz r6b.Num.Abs) c6d,.slice A7d (sz r6b.Den) c8d]),A5d,c6d,A7d,c8d,((UpdS.refl _ _).upd U6q (.inl im0)),q7a8,n8a8,n9a8,(by simp only [S0,S1]<;>rfl)⟩
     ·have p0a9:=zN hz8l e8j
      have f1a9:=ifN p0a9 h9w
      refine wp_cond_false (Ak (evb rfl e8j))<|wp_skip ?_
      have q2a9:=((((q6g.ext E7a).ext E6a).updS U5b (nmc ne4a nm0)).ext E9a).ext E0b
      obtain rfl:=sj f1a9
      exact ⟨_,rfl,t5o,t6o,t7o,t8o,A8h,c9h,A0i,c1i,(UpdS.refl _ _),q2a9,(n6w.ext E0b),(n7w.ext E0b),(by simp only [S0,S1]<;>rfl)⟩
    ·rintro l' w1d ⟨t1q,t2q,t3q,t4q,A6i,c7i,A8i,c9i,U1c,q9j,n3a9,n4a9,hq'⟩ l'' hl
     rw [hq'] at hl
     clear hq'
     simp only [S0,S1] at hl
     subst hl
     have X5a9:=GQ X8w U1c (X8w).size (alc g2n al0)
     refine h4v _ _<|Ag<|sV (Aa rfl) ?_
     refine sV (AN (c:=3) rfl rfl (by decide)) ?_
     refine sV (Ac rfl) ?_
     refine Ad<|Bg<|wp_seq_k fun K0x h0x=>wp_seq_k fun K1x h1x=>Ag<|sV (Aa rfl) ?_
     refine sV (IV (v:=.bool true) (Cz rfl rfl) (by rfl)) ?_
     refine Ad<|h1x _ _<|wp_cond_true (Ak (evb rfl rfl))<|wp_skip<|h0x _ _<|wp_seq_k fun K2x h2x=>?_
     apply wp_block
     refine wp_seq_k fun K3x h3x=>wp_seq_k fun K4x h4x=>DB [] 7 mo rfl fun w0g E4b S7q=>have X5x:=xtr X5a9 E4b;dA 0 rfl (fun _=>Aa rfl) ?_
     refine dA 1 rfl (fun _=>Aa rfl) ?_
     refine dA 2 rfl (fun _=>CO (o':=9) GX Fs rfl rfl (by decide) (by decide) (by decide)) ?_
     refine dV 3 rfl (fun _ hw=>Aq FG rfl ((((((((((((((((q2c.ext F1b).ext F5a).ext E1a).ext E0a).updS U8a (nmc ne8b nm0)).ext E2a).ext E3a).updS U2b (nmc ne0d nm0)).ext E7a).ext E6a).updS U5b (nmc ne8b nm0)).ext E9a).ext E0b).updS U1c (nmc ne0d nm0)).ext E4b).ext hw) (by simp only [List.drop_succ_cons,List.drop_zero,List.take_succ_cons,List.take_zero];rfl) rfl) S7q ?_
     refine dV 4 rfl (fun _ hw=>An FG rfl (((((q7g.ext E9a).ext E0b).updS U1c (nmc (Ne.symm ne4a) nm0)).ext E4b).ext hw) rfl) S7q ?_
     have n8q:RU w0g A9d c0e r7b.Num.Abs:=(((((((((((((((n1a2.ext E6c).ext F1b).ext F5a).ext E1a).ext E0a).updS U8a (alc ⟨_,_,by decide,((q7c.ext F5a).ext E1a).ext E0a⟩ al0)).ext E2a).ext E3a).updS U2b (alc ⟨_,_,by decide,((((q3e.ext E1a).ext E0a).updS U8a (nmc ne4a nm0)).ext E2a).ext E3a⟩ al0)).ext E7a).ext E6a).updS U5b (alc ⟨_,_,by decide,((((q4f.ext E2a).ext E3a).updS U2b (nmc (Ne.symm ne4a) nm0)).ext E7a).ext E6a⟩ al0)).ext E9a).ext E0b).updS U1c (alc ⟨_,_,by decide,((((q6g.ext E7a).ext E6a).updS U5b (nmc ne4a nm0)).ext E9a).ext E0b⟩ al0)).ext E4b
     have n9q:RU w0g A1e c2e r7b.Den:=(((((((((((((((n2a2.ext E6c).ext F1b).ext F5a).ext E1a).ext E0a).updS U8a (alc ⟨_,_,by decide,((q7c.ext F5a).ext E1a).ext E0a⟩ al0)).ext E2a).ext E3a).updS U2b (alc ⟨_,_,by decide,((((q3e.ext E1a).ext E0a).updS U8a (nmc ne4a nm0)).ext E2a).ext E3a⟩ al0)).ext E7a).ext E6a).updS U5b (alc ⟨_,_,by decide,((((q4f.ext E2a).ext E3a).updS U2b (nmc (Ne.symm ne4a) nm0)).ext E7a).ext E6a⟩ al0)).ext E9a).ext E0b).updS U1c (alc ⟨_,_,by decide,((((q6g.ext E7a).ext E6a).updS U5b (nmc ne4a nm0)).ext E9a).ext E0b⟩ al0)).ext E4b
     have n6x:RU w0g A2i c3i m6e.2.1:=(((n7a7.ext E9a).ext E0b).updS U1c (alc ⟨_,_,by decide,((((q6g.ext E7a).ext E6a).updS U5b (nmc ne4a nm0)).ext E9a).ext E0b⟩ al0)).ext E4b
     have n7x:RU w0g A4i c5i m6e.2.2:=(((n8a7.ext E9a).ext E0b).updS U1c (alc ⟨_,_,by decide,((((q6g.ext E7a).ext E6a).updS U5b (nmc ne4a nm0)).ext E9a).ext E0b⟩ al0)).ext E4b
     obtain ⟨r6a9,h7a9,f8a9⟩:=Ab f3a8
     refine dc 5 rfl (by kernel_rfl) (by rfl) (Ae Lc (by rfl)) (Dr r7b (⟨(⟨m6e.1,m6e.2.1⟩:Ai),m6e.2.2⟩:Cg) A9d c0e A1e c2e A2i c3i A4i c5i w0g (tbx X5x hT) n8q n9q n6x n7x r6a9 h7a9) ?_
     rintro _ w3j E3b rfl
     refine dnrm ?_
     have X8x:=xtr X5x E3b
     have S8af:=S7q.trans E3b
     refine dab 6 rfl (by kernel_rfl) (fun _ _ _ h=>h) (by rfl) (fun _=>Cz rfl rfl) fun z9l hz9l=>?_
     refine dnrm ?_
     refine Cv (by kernel_rfl) ?_
     refine h4x _ _ ?_
     obtain ⟨m8e,h9x,f9a9⟩:=Ab f8a9
     refine BM (fun l l' w'=>∃(t0y:Value) (t1y:Value) (t2y:Value) (t3y:Value) (A0k:Option Addr) (c1k:Nat) (A2k:Option Addr) (c3k:Nat),UpdS [b2h] w3j w'∧Bx w' b2h 65 [.bool m8e.1,.slice A0k (sz m8e.2.1) c1k,.slice A2k (sz m8e.2.2) c3k]∧RU w' A0k c1k m8e.2.1∧RU w' A2k c3k m8e.2.2∧l'=((((l.set 51 t0y).set 52 t1y).set 53 t2y).set 54 t3y)) ?_ ?_
     ·rcases bft z9l with e4k | e4k
      ·have p0aa:=zP hz9l e4k
       have f1aa:=ifP p0aa h9x
       refine wp_cond_true (Ak (evb rfl e4k))<|Ag<|sV (Aa rfl) ?_
       refine sV (Aa rfl) ?_
       refine sV (CO (o':=9) GX Fs rfl rfl (by decide) (by decide) (by decide)) ?_
       have q2aa:=(((((((((((((((q2c.ext F1b).ext F5a).ext E1a).ext E0a).updS U8a (nmc ne8b nm0)).ext E2a).ext E3a).updS U2b (nmc ne0d nm0)).ext E7a).ext E6a).updS U5b (nmc ne8b nm0)).ext E9a).ext E0b).updS U1c (nmc ne0d nm0)).ext E4b).ext E3b
       refine sV (Aq FG rfl q2aa (by simp only [List.drop_succ_cons,List.drop_zero,List.take_succ_cons,List.take_zero];rfl) rfl) ?_
       have q0r:=((((q7g.ext E9a).ext E0b).updS U1c (nmc (Ne.symm ne4a) nm0)).ext E4b).ext E3b
       refine As Fs rfl rfl q0r rfl rfl rfl rfl (by simp only [SP0,SP1,S0,S1,Nat.reduceAdd];rfl) fun w9m U1r q3aa=>?_
       refine Ad ?_
       have n4aa:=(n8q.ext E3b).upd U1r q0r (by decide)
       have n5aa:=(n9q.ext E3b).upd U1r q0r (by decide)
       obtain rfl:=sj f1aa
       exact ⟨_,rfl,(.slice (some ⟨b9c,0,none⟩) 4 4),(.int .i64 3),(.pointer (some ⟨b9c,9,none⟩)),(.agg #[.bool r7b.Num.Neg,.slice A9d (sz r7b.Num.Abs) c0e,.slice A1e (sz r7b.Den) c2e]),A9d,c0e,A1e,c2e,((UpdS.refl _ _).upd U1r (.inl im0)),q3aa,n4aa,n5aa,(by simp only [S0,S1]<;>rfl)⟩
      ·have p6aa:=zN hz9l e4k
       have f7aa:=ifN p6aa h9x
       refine wp_cond_false (Ak (evb rfl e4k))<|wp_skip ?_
       have q8aa:=((((q7g.ext E9a).ext E0b).updS U1c (nmc (Ne.symm ne4a) nm0)).ext E4b).ext E3b
       obtain rfl:=sj f7aa
       exact ⟨_,rfl,t4p,t5p,t6p,t7p,A2i,c3i,A4i,c5i,(UpdS.refl _ _),q8aa,(n6x.ext E3b),(n7x.ext E3b),(by simp only [S0,S1]<;>rfl)⟩
     ·rintro l' w9m ⟨t0y,t1y,t2y,t3y,A0k,c1k,A2k,c3k,U8c,q9aa,n0ab,n1ab,hq'⟩ l'' hl
      rw [hq'] at hl
      clear hq'
      simp only [S0,S1] at hl
      subst hl
      have X2ab:=GQ X8x U8c (X8x).size (alc g1n al0)
      refine h3x _ _<|wp_seq_k fun K4y h4y=>DB [] 7 mo rfl fun w1g E3c S2r=>have X5y:=xtr X2ab E3c;dA 0 rfl (fun _=>Aa rfl) ?_
      refine dA 1 rfl (fun _=>Aa rfl) ?_
      refine dA 2 rfl (fun _=>CO (o':=9) GX Fs rfl rfl (by decide) (by decide) (by decide)) ?_
      refine dV 3 rfl (fun _ hw=>Aq FG rfl (((((((((((((((((((q2c.ext F1b).ext F5a).ext E1a).ext E0a).updS U8a (nmc ne8b nm0)).ext E2a).ext E3a).updS U2b (nmc ne0d nm0)).ext E7a).ext E6a).updS U5b (nmc ne8b nm0)).ext E9a).ext E0b).updS U1c (nmc ne0d nm0)).ext E4b).ext E3b).updS U8c (nmc ne8b nm0)).ext E3c).ext hw) (by simp only [List.drop_succ_cons,List.drop_zero,List.take_succ_cons,List.take_zero];rfl) rfl) S2r ?_
      refine dV 4 rfl (fun _ hw=>An FG rfl (((((q9j.ext E4b).ext E3b).updS U8c (nmc ne4a nm0)).ext E3c).ext hw) rfl) S2r ?_
      have n6y:RU w1g A9d c0e r7b.Num.Abs:=((n8q.ext E3b).updS U8c (alc ⟨_,_,by decide,((((q7g.ext E9a).ext E0b).updS U1c (nmc (Ne.symm ne4a) nm0)).ext E4b).ext E3b⟩ al0)).ext E3c
      have n7y:RU w1g A1e c2e r7b.Den:=((n9q.ext E3b).updS U8c (alc ⟨_,_,by decide,((((q7g.ext E9a).ext E0b).updS U1c (nmc (Ne.symm ne4a) nm0)).ext E4b).ext E3b⟩ al0)).ext E3c
      have n8y:RU w1g A6i c7i m7e.2.1:=(((n3a9.ext E4b).ext E3b).updS U8c (alc ⟨_,_,by decide,((((q7g.ext E9a).ext E0b).updS U1c (nmc (Ne.symm ne4a) nm0)).ext E4b).ext E3b⟩ al0)).ext E3c
      have n9y:RU w1g A8i c9i m7e.2.2:=(((n4a9.ext E4b).ext E3b).updS U8c (alc ⟨_,_,by decide,((((q7g.ext E9a).ext E0b).updS U1c (nmc (Ne.symm ne4a) nm0)).ext E4b).ext E3b⟩ al0)).ext E3c
      obtain ⟨r3ab,h4ab,f5ab⟩:=Ab f9a9
      refine dc 5 rfl (by kernel_rfl) (by rfl) (Ae Lc (by rfl)) (Dr r7b (⟨(⟨m7e.1,m7e.2.1⟩:Ai),m7e.2.2⟩:Cg) A9d c0e A1e c2e A6i c7i A8i c9i w1g (tbx X5y hT) n6y n7y n8y n9y r3ab h4ab) ?_
      rintro _ w0l E4c rfl
      refine dnrm ?_
      have X0z:=xtr X5y E4c
      have S9af:=S2r.trans E4c
      refine dab 6 rfl (by kernel_rfl) (fun _ _ _ h=>h) (by rfl) (fun _=>Eh rfl rfl) fun z0m hz0m=>?_
      refine dnrm ?_
      refine Cv (by kernel_rfl) ?_
      refine h4y _ _ ?_
      obtain ⟨m7f,h1z,f6ab⟩:=Ab f5ab
      refine BM (fun l l' w'=>∃(t2z:Value) (t3z:Value) (t4z:Value) (t5z:Value) (A1m:Option Addr) (c2m:Nat) (A3m:Option Addr) (c4m:Nat),UpdS [b3h] w0l w'∧Bx w' b3h 65 [.bool m7f.1,.slice A1m (sz m7f.2.1) c2m,.slice A3m (sz m7f.2.2) c4m]∧RU w' A1m c2m m7f.2.1∧RU w' A3m c4m m7f.2.2∧l'=((((l.set 62 t2z).set 63 t3z).set 64 t4z).set 65 t5z)) ?_ ?_
      ·rcases bft z0m with e5k | e5k
       ·have p7ab:=zP hz0m e5k
        have f8ab:=ifP p7ab h1z
        refine wp_cond_true (Ak (evb rfl e5k))<|Ag<|sV (Aa rfl) ?_
        refine sV (Aa rfl) ?_
        refine sV (CO (o':=9) GX Fs rfl rfl (by decide) (by decide) (by decide)) ?_
        have q9ab:=((((((((((((((((((q2c.ext F1b).ext F5a).ext E1a).ext E0a).updS U8a (nmc ne8b nm0)).ext E2a).ext E3a).updS U2b (nmc ne0d nm0)).ext E7a).ext E6a).updS U5b (nmc ne8b nm0)).ext E9a).ext E0b).updS U1c (nmc ne0d nm0)).ext E4b).ext E3b).updS U8c (nmc ne8b nm0)).ext E3c).ext E4c
        refine sV (Aq FG rfl q9ab (by simp only [List.drop_succ_cons,List.drop_zero,List.take_succ_cons,List.take_zero];rfl) rfl) ?_
        have q3r:=((((q9j.ext E4b).ext E3b).updS U8c (nmc ne4a nm0)).ext E3c).ext E4c
        refine As Fs rfl rfl q3r rfl rfl rfl rfl (by simp only [SP0,SP1,S0,S1,Nat.reduceAdd];rfl) fun w9b U4r q0ac=>?_
        refine Ad ?_
        have n1ac:=(n6y.ext E4c).upd U4r q3r (by decide)
        have n2ac:=(n7y.ext E4c).upd U4r q3r (by decide)
        obtain rfl:=sj f8ab
        exact ⟨_,rfl,(.slice (some ⟨b9c,0,none⟩) 4 4),(.int .i64 3),(.pointer (some ⟨b9c,9,none⟩)),(.agg #[.bool r7b.Num.Neg,.slice A9d (sz r7b.Num.Abs) c0e,.slice A1e (sz r7b.Den) c2e]),A9d,c0e,A1e,c2e,((UpdS.refl _ _).upd U4r (.inl im0)),q0ac,n1ac,n2ac,(by simp only [S0,S1]<;>rfl)⟩
       ·have p3ac:=zN hz0m e5k
        have f4ac:=ifN p3ac h1z
        refine wp_cond_false (Ak (evb rfl e5k))<|wp_skip ?_
        have q5ac:=((((q9j.ext E4b).ext E3b).updS U8c (nmc ne4a nm0)).ext E3c).ext E4c
        obtain rfl:=sj f4ac
        exact ⟨_,rfl,t1q,t2q,t3q,t4q,A6i,c7i,A8i,c9i,(UpdS.refl _ _),q5ac,(n8y.ext E4c),(n9y.ext E4c),(by simp only [S0,S1]<;>rfl)⟩
      ·rintro l' w9b ⟨t2z,t3z,t4z,t5z,A1m,c2m,A3m,c4m,U6k,q6ac,n7ac,n8ac,hq'⟩ l'' hl
       rw [hq'] at hl
       clear hq'
       simp only [S0,S1] at hl
       subst hl
       have X6z:=GQ X0z U6k (X0z).size (alc g2n al0)
       refine h2x _ _<|Ag<|sV (Aa rfl) ?_
       refine sV (AN (c:=4) rfl rfl (by decide)) ?_
       refine sV (Ac rfl) ?_
       refine Ad<|Bg<|wp_seq_k fun K9ac h9ac=>wp_seq_k fun K7z h7z=>Ag<|sV (Aa rfl) ?_
       refine sV (IV (v:=.bool false) (Cz rfl rfl) (by rfl)) ?_
       refine Ad<|h7z _ _<|wp_cond_false (Ak (evb rfl rfl))<|wp_exit ?_
       simp only [Exit.then,Exit.inBlock,↓reduceIte,Nat.reduceEqDiff]
       refine h4t _ _<|wp_seq_k fun K8z h8z=>Ag<|have q0ad:=((q9aa.ext E3c).ext E4c).updS U6k (nmc (Ne.symm ne4a) nm0);sV (An FG rfl q0ad rfl) ?_
       refine sV (Aa rfl) ?_
       have n1ad:RU w9b A0k c1k m8e.2.1:=((n0ab.ext E3c).ext E4c).updS U6k (alc ⟨_,_,by decide,((((q9j.ext E4b).ext E3b).updS U8c (nmc ne4a nm0)).ext E3c).ext E4c⟩ al0)
       have n2ad:RU w9b A2k c3k m8e.2.2:=((n1ab.ext E3c).ext E4c).updS U6k (alc ⟨_,_,by decide,((((q9j.ext E4b).ext E3b).updS U8c (nmc ne4a nm0)).ext E3c).ext E4c⟩ al0)
       obtain ⟨r8g,h3ad,f4ad⟩:=Ab f6ab
       refine sc (Ae Oe (by rfl)) (He (⟨(⟨m8e.1,m8e.2.1⟩:Ai),m8e.2.2⟩:Cg) x2 5 A0k c1k A2k c3k w9b (tbx X6z hT) n1ad n2ad r8g h3ad) ?_
       rintro _ w4d E7k ⟨A5r,c6r,rfl,n5ad⟩
       refine nrm ?_
       have X9z:=xtr X6z E7k
       refine Ax FH fun b0ag w4j E6ad g0a0 q7ad=>?_
       refine nrm ?_
       have g1ag:=nlt X9z.size g0a0
       refine As Dq rfl rfl q7ad rfl rfl rfl rfl (by simp only [SP0,SP1,S0,S1,Nat.reduceAdd];rfl) fun w5c U8ad q9ad=>?_
       have F0j:=Bf E6ad U8ad g0a0
       have X1a0:=xtr X9z F0j
       refine Ad<|h8z _ _<|wp_seq_k fun K2a0 h2a0=>Ag<|sV (An FG rfl ((q6ac.ext E7k).ext F0j) rfl) ?_
       refine sV (Aa rfl) ?_
       obtain ⟨r9g,h0ae,f1ae⟩:=Ab f4ad
       refine sc (Ae Oe (by rfl)) (He (⟨(⟨m7f.1,m7f.2.1⟩:Ai),m7f.2.2⟩:Cg) x2 4 A1m c2m A3m c4m w5c (tbx X1a0 hT) ((n7ac.ext E7k).ext F0j) ((n8ac.ext E7k).ext F0j) r9g h0ae) ?_
       rintro _ w7s E5m ⟨A7r,c8r,rfl,n2ae⟩
       refine nrm ?_
       have X3a0:=xtr X1a0 E5m
       refine Ax FH fun b2ag w8s E3ae g4a0 q4ae=>?_
       refine nrm ?_
       have g3ag:=nlt X3a0.size g4a0
       refine As Dq rfl rfl q4ae rfl rfl rfl rfl (by simp only [SP0,SP1,S0,S1,Nat.reduceAdd];rfl) fun w1h U5ae q6ae=>?_
       have F8k:=Bf E3ae U5ae g4a0
       have X7ae:=xtr X3a0 F8k
       refine Ad<|h2a0 _ _<|wp_seq_k fun K5a0 h5a0=>Ag<|sV (An Bj rfl ((q9ad.ext E5m).ext F8k) rfl) ?_
       refine sV (An Bj rfl q6ae rfl) ?_
       refine sV (AV (vals:=[(0,.agg #[.bool r8g.Man.Neg,.slice A5r (sz r8g.Man.Abs) c6r,.int .i64 r8g.Exp]),(1,.agg #[.bool r9g.Man.Neg,.slice A7r (sz r9g.Man.Abs) c8r,.int .i64 r9g.Exp])]) (cells:=[.bool r8g.Man.Neg,.slice A5r (sz r8g.Man.Abs) c6r,.int .i64 r8g.Exp,.bool r9g.Man.Neg,.slice A7r (sz r9g.Man.Abs) c8r,.int .i64 r9g.Exp]) (by rfl) (by kernel_rfl)) ?_
       have ne6m:=(Bx.neT ((((((((((q3j.ext E9b).ext E1h).ext E5g).ext E3f).ext E2d).ext E6c).ext F1b).ext F5a).ext E1a).ext E0a) (((q7c.ext F5a).ext E1a).ext E0a) (by decide))
       have ne9r:=(Bx.neT (((((((((((((q3j.ext E9b).ext E1h).ext E5g).ext E3f).ext E2d).ext E6c).ext F1b).ext F5a).ext E1a).ext E0a).updS U8a (nmc ne6m nm0)).ext E2a).ext E3a) (((((q3e.ext E1a).ext E0a).updS U8a (nmc ne4a nm0)).ext E2a).ext E3a) (by decide))
       have q0s:=(((((((((((((((((((((((((((((q3j.ext E9b).ext E1h).ext E5g).ext E3f).ext E2d).ext E6c).ext F1b).ext F5a).ext E1a).ext E0a).updS U8a (nmc ne6m nm0)).ext E2a).ext E3a).updS U2b (nmc ne9r nm0)).ext E7a).ext E6a).updS U5b (nmc ne6m nm0)).ext E9a).ext E0b).updS U1c (nmc ne9r nm0)).ext E4b).ext E3b).updS U8c (nmc ne6m nm0)).ext E3c).ext E4c).updS U6k (nmc ne9r nm0)).ext E7k).ext F0j).ext E5m).ext F8k
       refine As Fx rfl rfl q0s rfl rfl rfl rfl (by simp only [SP0,SP1,S0,S1,Nat.reduceAdd];rfl) fun w6f U1s q8ae=>?_
       have X9ae:=Bf X7ae U1s g9m
       refine Ad<|h5a0 _ _<|wp_ret ?_
       have n0af:=(((n5ad.ext F0j).ext E5m).ext F8k).upd U1s q0s (by decide)
       have n1af:=(n2ae.ext F8k).upd U1s q0s (by decide)
       obtain rfl:=sj f1ae
       exact fin rfl (Res.cellN rfl BK q8ae rfl rfl Res.nil) (Al X9ae ⟨A5r,c6r,A7r,c8r,rfl,n0af,n1af⟩)
theorem c_sorobanref04_FitsSpan (x0:Am) (A1:Option Addr) (c2:Nat) (A4:Option Addr) (c5:Nat) (w:World) (hT:TB w) (n3:RU w A1 c2 x0.Lo.Man.Abs) (n6:RU w A4 c5 x0.Hi.Man.Abs) (r:Eu) (hr:ER x0=some r) :
  Calls Tryz.prog 108 #[.agg #[.bool x0.Lo.Man.Neg,.slice A1 (sz x0.Lo.Man.Abs) c2,.int .i64 x0.Lo.Exp,.bool x0.Hi.Man.Neg,.slice A4 (sz x0.Hi.Man.Abs) c5,.int .i64 x0.Hi.Exp]] w (Ret rep_81 w r):=by
 unfold ER at hr
 go_enter Tryz.func108,Tryz.ntmps108
 refine wp_seq_k fun K7 h7=>Ag<|BL rfl rfl fun b8 w1 E9 g7e q8a=>?_
 refine nrm ?_
 refine Ax Oo fun b8e w2 E3a g6c q2b=>?_
 refine nrm ?_
 have g3b:=nlt E9.size g6c
 have X9a:=xtr E9 E3a
 refine Ad<|h7 _ _<|wp_seq_k fun K4b h4b=>wp_seq_k fun K5b h5b=>Ag<|sV (Af (o':=0) FI rfl rfl) ?_
 refine sV (Aq Bj rfl (q8a.ext E3a) (by simp only [List.drop_zero,List.take_succ_cons,List.take_zero];rfl) rfl) ?_
 obtain ⟨r7c,h8c,f9c⟩:=Ab hr
 refine sc (Ae La (by rfl)) (Eb (⟨(⟨x0.Lo.Man.Neg,(limbs x0.Lo.Man.Abs)⟩:AR),x0.Lo.Exp⟩:AG) A1 c2 w2 (tbx X9a hT) (n3.ext X9a) r7c h8c) ?_
 rintro _ w3 E1a rfl
 refine nrm ?_
 have X4a:=xtr X9a E1a
 refine sb (GH rfl) fun z5a hz5a=>?_
 refine nrm ?_
 refine sV (Aa rfl) ?_
 obtain ⟨m6b,h7b,f8b⟩:=Ab f9c
 refine BR 10 (fun l l' w'=>∃(t9b:Value) (t0c:Value) (t1c:Value) (t2c:Value),UpdS [] w3 w'∧l'=(((((l.set 8 t9b).set 9 t0c).set 10 t1c).set 11 t2c).set 12 (.bool m6b))) ?_ ?_
 ·intro HJ45
  rcases bft z5a with e0a | e0a
  ·have p0d:=zP hz5a e0a
   have f1d:=ifP p0d h7b
   refine sP ?_ (hw:=wgF rfl e0a)
   refine sP ?_ (hw:=wgF rfl e0a)
   refine sP ?_ (hw:=wgF rfl e0a)
   refine sP ?_ (hw:=wgF rfl e0a)
   refine sV (Ay (evb rfl e0a) rfl) ?_
   obtain rfl:=sj f1d
   exact HJ45 _ _ ⟨uu,uu,uu,uu,(UpdS.refl _ _),(by simp only [S0,S1]<;>rfl)⟩
  ·have p2d:=zN hz5a e0a
   have f3d:=ifN p2d h7b
   refine sV (Af (o':=3) FY rfl rfl) ?_ (hw:=wgT rfl e0a)
   refine sV (Aq Bj rfl ((q8a.ext E3a).ext E1a) (by simp only [List.drop_succ_cons,List.drop_zero,List.take_succ_cons,List.take_zero];rfl) rfl) ?_ (hw:=wgT rfl e0a)
   obtain ⟨r6a,h4d,f5d⟩:=Ab f3d
   refine sc (Ae La (by rfl)) (Eb (⟨(⟨x0.Hi.Man.Neg,(limbs x0.Hi.Man.Abs)⟩:AR),x0.Hi.Exp⟩:AG) A4 c5 w3 (tbx X4a hT) (n6.ext X4a) r6a h4d) ?_ (hw:=wgT rfl e0a)
   rintro _ w4 E6d rfl
   refine nrm ?_
   refine sb (GH rfl) ?_ (hw:=wgT rfl e0a)
   intro z0b hz0b
   refine nrm ?_
   refine sV (AB (evb rfl e0a) rfl) ?_
   obtain rfl:z0b=decide (¬(r6a=true)):=bz hz0b
   obtain rfl:=sj f5d
   exact HJ45 _ _ ⟨(.pointer (some ⟨b8,3,none⟩)),(.agg #[.bool x0.Hi.Man.Neg,.slice A4 (sz x0.Hi.Man.Abs) c5,.int .i64 x0.Hi.Exp]),(.bool r6a),(.bool (decide (¬(r6a=true)))),((UpdS.refl _ _).ext E6d),(by simp only [S0,S1]<;>rfl)⟩
 ·rintro l' w4 ⟨t9b,t0c,t1c,t2c,U7a,hq'⟩ l'' hl
  rw [hq'] at hl
  clear hq'
  simp only [S0,S1] at hl
  subst hl
  have X3c:=GQ X4a U7a (X4a).size al0
  refine Ad<|h5b _ _ ?_
  rcases bft m6b with e2a | e2a
  ·have p7d:=e2a
   have f8d:=ifP p7d f8b
   refine wp_cond_true (Ak (evb rfl e2a))<|wp_seq_k fun K4c h4c=>Ag<|sV (AV (vals:=[(1,.int .i64 2)]) (cells:=[.bool false,.slice none 0 0,.int .i64 0,.bool false,.slice none 0 0,.int .i64 0,.int .i64 2]) (by rfl) (by kernel_rfl)) ?_
   refine As NL rfl rfl ((q2b.ext E1a).updS U7a nm0) rfl rfl rfl rfl (by simp only [SP0,SP1,S0,S1,Nat.reduceAdd];rfl) fun w5 U9d q0e=>?_
   have X1e:=Bf X3c U9d g3b
   refine Ad<|h4c _ _<|wp_ret ?_
   obtain rfl:=sj f8d
   exact fin rfl (Res.cellN rfl OA q0e rfl rfl Res.nil) (Al X1e ⟨none,0,none,0,rfl,(RU.nil _),(RU.nil _)⟩)
  ·have p2e:=bF e2a
   have f3e:=ifN p2e f8b
   refine wp_cond_false (Ak (evb rfl e2a))<|wp_skip<|h4b _ _<|wp_seq_k fun K5c h5c=>Ag<|have q4e:=((q8a.ext E3a).ext E1a).updS U7a nm0;sV (An BK rfl q4e rfl) ?_
   refine sV (AV (vals:=[(0,.agg #[.bool x0.Lo.Man.Neg,.slice A1 (sz x0.Lo.Man.Abs) c2,.int .i64 x0.Lo.Exp,.bool x0.Hi.Man.Neg,.slice A4 (sz x0.Hi.Man.Abs) c5,.int .i64 x0.Hi.Exp])]) (cells:=[.bool x0.Lo.Man.Neg,.slice A1 (sz x0.Lo.Man.Abs) c2,.int .i64 x0.Lo.Exp,.bool x0.Hi.Man.Neg,.slice A4 (sz x0.Hi.Man.Abs) c5,.int .i64 x0.Hi.Exp,.int .i64 0]) (by rfl) (by kernel_rfl)) ?_
   refine As NL rfl rfl ((q2b.ext E1a).updS U7a nm0) rfl rfl rfl rfl (by simp only [SP0,SP1,S0,S1,Nat.reduceAdd];rfl) fun w5 U5e q6e=>?_
   have X1b:=Bf X3c U5e g3b
   refine Ad<|h5c _ _<|wp_ret ?_
   obtain rfl:=sj f3e
   exact fin rfl (Res.cellN rfl OA q6e rfl rfl Res.nil) (Al X1b ⟨A1,c2,A4,c5,rfl,(n3.ext X1b),(n6.ext X1b)⟩)
theorem GM (x0:Am) (x1:Int) (x2:Int) (x3:Am) (A1:Option Addr) (c2:Nat) (A4:Option Addr) (c5:Nat) (A7:Option Addr) (c8:Nat) (A0b:Option Addr) (c1b:Nat) (w:World) (hT:TB w) (n3:RU w A1 c2 x0.Lo.Man.Abs) (n6:RU w A4 c5 x0.Hi.Man.Abs) (n9:RU w A7 c8 x3.Lo.Man.Abs) (n0e:RU w A0b c1b x3.Hi.Man.Abs) (r:Bool) (hr:Bs x0 x1 x2 x3=some r) :
  Calls Tryz.prog 22 #[.agg #[.bool x0.Lo.Man.Neg,.slice A1 (sz x0.Lo.Man.Abs) c2,.int .i64 x0.Lo.Exp,.bool x0.Hi.Man.Neg,.slice A4 (sz x0.Hi.Man.Abs) c5,.int .i64 x0.Hi.Exp],.int .i64 x1,.int .i64 x2,.agg #[.bool x3.Lo.Man.Neg,.slice A7 (sz x3.Lo.Man.Abs) c8,.int .i64 x3.Lo.Exp,.bool x3.Hi.Man.Neg,.slice A0b (sz x3.Hi.Man.Abs) c1b,.int .i64 x3.Hi.Exp]] w (Ret Gl w r):=by
 unfold Bs at hr
 go_enter Tryz.func22,Tryz.ntmps22
 refine wp_seq_k fun K3b h3b=>Ag<|BL rfl rfl fun b8h w1 E4b g9h q5b=>?_
 refine nrm ?_
 refine BL rfl rfl fun b0i w2 E2b g1e q2e=>?_
 refine nrm ?_
 have g1i:=nlt E4b.size g1e
 have X2a:=xtr E4b E2b
 refine sV (Ac rfl) ?_
 refine Ad<|h3b _ _<|wp_seq_k fun K6b h6b=>wp_seq_k fun K7b h7b=>Ag<|sV (Aa rfl) ?_
 refine sb (Ig rfl rfl) fun z6a hz6a=>?_
 refine nrm ?_
 refine Ad<|h7b _ _ ?_
 rcases bft z6a with e4a | e4a
 ·have p3e:=zP hz6a e4a
  have f4e:=ifP p3e hr
  refine wp_cond_true (Ak (evb rfl e4a))<|wp_seq_k fun K8b h8b=>Ag<|sV (Aa rfl) ?_
  refine sV (Aa rfl) ?_
  refine sb (BQ rfl rfl) fun z7a hz7a=>?_
  refine nrm ?_
  refine sV (Aa rfl) ?_
  obtain ⟨m5e,h9b,f6e⟩:=Ab f4e
  refine BR 8 (fun l l' w'=>∃(t0c:Value) (t1c:Value) (t2c:Value),UpdS [] w2 w'∧l'=((((l.set 16 t0c).set 17 t1c).set 18 t2c).set 19 (.bool m5e))) ?_ ?_
  ·intro HJ143
   rcases bft z7a with e1a | e1a
   ·have p7e:=zP hz7a e1a
    have f8e:=ifP p7e h9b
    refine sV (An BK rfl (q5b.ext E2b) rfl) ?_ (hw:=wgT rfl e1a)
    refine sV (AV (vals:=[]) (cells:=[.bool false,.slice none 0 0,.int .i64 0,.bool false,.slice none 0 0,.int .i64 0]) (by rfl) (by kernel_rfl)) ?_ (hw:=wgT rfl e1a)
    obtain ⟨r3c,h9e,f0f⟩:=Ab f8e
    refine sc (Ae LM (by rfl)) (DW x0 (⟨(⟨(⟨false,0⟩:Ai),0⟩:Aj),(⟨(⟨false,0⟩:Ai),0⟩:Aj)⟩:Am) A1 c2 A4 c5 none 0 none 0 w2 (tbx X2a hT) (n3.ext X2a) (n6.ext X2a) (RU.nil _) (RU.nil _) r3c h9e) ?_ (hw:=wgT rfl e1a)
    rintro _ w3 E1f rfl
    refine nrm ?_
    refine sV (Ay (evb rfl e1a) rfl) ?_
    obtain rfl:=sj f0f
    exact HJ143 _ _ ⟨(.agg #[.bool x0.Lo.Man.Neg,.slice A1 (sz x0.Lo.Man.Abs) c2,.int .i64 x0.Lo.Exp,.bool x0.Hi.Man.Neg,.slice A4 (sz x0.Hi.Man.Abs) c5,.int .i64 x0.Hi.Exp]),(.agg #[.bool false,.slice none 0 0,.int .i64 0,.bool false,.slice none 0 0,.int .i64 0]),(.bool r3c),((UpdS.refl _ _).ext E1f),(by simp only [S0,S1]<;>rfl)⟩
   ·have p2f:=zN hz7a e1a
    have f3f:=ifN p2f h9b
    refine sP ?_ (hw:=wgF rfl e1a)
    refine sP ?_ (hw:=wgF rfl e1a)
    refine sP ?_ (hw:=wgF rfl e1a)
    refine sV (AB (evb rfl e1a) rfl) ?_
    obtain rfl:=sj f3f
    exact HJ143 _ _ ⟨uu,uu,uu,(UpdS.refl _ _),(by simp only [S0,S1]<;>rfl)⟩
  ·rintro l' w3 ⟨t0c,t1c,t2c,U4f,hq'⟩ l'' hl
   rw [hq'] at hl
   clear hq'
   simp only [S0,S1] at hl
   subst hl
   have X5f:=GQ X2a U4f (X2a).size al0
   refine sV (Ac rfl) ?_
   refine Ad<|h8b _ _<|wp_ret ?_
   obtain rfl:=sj f6e
   exact fin rfl (Res.tmp rfl Res.nil) (Al X5f rfl)
 ·have p6f:=zN hz6a e4a
  have f7f:=ifN p6f hr
  refine wp_cond_false (Ak (evb rfl e4a))<|wp_skip<|h6b _ _<|wp_seq_k fun K4c h4c=>Ag<|sV (An BK rfl q2e rfl) ?_
  obtain ⟨r3a,h8f,f9f⟩:=Ab f7f
  refine sc (Ae en_108 (by rfl)) (c_sorobanref04_FitsSpan x3 A7 c8 A0b c1b w2 (tbx X2a hT) (n9.ext X2a) (n0e.ext X2a) r3a h8f) ?_
  rintro _ w3 E5c ⟨A6c,c7c,A8c,c9c,rfl,n0g,n1g⟩
  refine nrm ?_
  have X0d:=xtr X2a E5c
  refine Ax Oo fun b2g w4 E3g g1d q4g=>?_
  refine nrm ?_
  have g2i:=nlt X0d.size g1d
  refine As NL rfl rfl q4g rfl rfl rfl rfl (by simp only [SP0,SP1,S0,S1,Nat.reduceAdd];rfl) fun w5 U5g q2d=>?_
  have F8a:=Bf E3g U5g g1d
  have X5a:=xtr X0d F8a
  refine Ad<|h4c _ _<|wp_seq_k fun K3d h3d=>Ag<|sV (Aa rfl) ?_
  refine sV (Af (o':=6) fa_81_1 rfl rfl) ?_
  refine sV (Ah FW rfl (Bx.cell q2d rfl)) ?_
  refine sb (BQ rfl rfl) fun z9a hz9a=>?_
  refine nrm ?_
  refine sV (Aa rfl) ?_
  obtain ⟨m6g,h4d,f7g⟩:=Ab f9f
  refine BR 10 (fun l l' w'=>∃(t5d:Value) (t6d:Value) (t7d:Value) (t8d:Value),UpdS [] w5 w'∧l'=(((((l.set 27 t5d).set 28 t6d).set 29 t7d).set 30 t8d).set 31 (.bool m6g))) ?_ ?_
  ·intro HJ111
   rcases bft z9a with e0a | e0a
   ·have p8g:=zP hz9a e0a
    have f9g:=ifP p8g h4d
    have q0h:=((q5b.ext E2b).ext E5c).ext F8a
    refine sV (An BK rfl q0h rfl) ?_ (hw:=wgT rfl e0a)
    refine sV (Af (o':=0) fa_81_0 rfl rfl) ?_ (hw:=wgT rfl e0a)
    refine sV (Aq BK rfl q2d (by simp only [List.drop_zero,List.take_succ_cons,List.take_zero];rfl) rfl) ?_ (hw:=wgT rfl e0a)
    obtain ⟨r9d,h1h,f2h⟩:=Ab f9g
    refine sc (Ae LM (by rfl)) (DW x0 r3a.S A1 c2 A4 c5 A6c c7c A8c c9c w5 (tbx X5a hT) (n3.ext X5a) (n6.ext X5a) (n0g.ext F8a) (n1g.ext F8a) r9d h1h) ?_ (hw:=wgT rfl e0a)
    rintro _ w6 E3h rfl
    refine nrm ?_
    refine sV (Ay (evb rfl e0a) rfl) ?_
    obtain rfl:=sj f2h
    exact HJ111 _ _ ⟨(.agg #[.bool x0.Lo.Man.Neg,.slice A1 (sz x0.Lo.Man.Abs) c2,.int .i64 x0.Lo.Exp,.bool x0.Hi.Man.Neg,.slice A4 (sz x0.Hi.Man.Abs) c5,.int .i64 x0.Hi.Exp]),(.pointer (some ⟨b2g,0,none⟩)),(.agg #[.bool r3a.S.Lo.Man.Neg,.slice A6c (sz r3a.S.Lo.Man.Abs) c7c,.int .i64 r3a.S.Lo.Exp,.bool r3a.S.Hi.Man.Neg,.slice A8c (sz r3a.S.Hi.Man.Abs) c9c,.int .i64 r3a.S.Hi.Exp]),(.bool r9d),((UpdS.refl _ _).ext E3h),(by simp only [S0,S1]<;>rfl)⟩
   ·have p4h:=zN hz9a e0a
    have f5h:=ifN p4h h4d
    refine sP ?_ (hw:=wgF rfl e0a)
    refine sP ?_ (hw:=wgF rfl e0a)
    refine sP ?_ (hw:=wgF rfl e0a)
    refine sP ?_ (hw:=wgF rfl e0a)
    refine sV (AB (evb rfl e0a) rfl) ?_
    obtain rfl:=sj f5h
    exact HJ111 _ _ ⟨uu,uu,uu,uu,(UpdS.refl _ _),(by simp only [S0,S1]<;>rfl)⟩
  ·rintro l' w6 ⟨t5d,t6d,t7d,t8d,U6h,hq'⟩ l'' hl
   rw [hq'] at hl
   clear hq'
   simp only [S0,S1] at hl
   subst hl
   have X7h:=GQ X5a U6h (X5a).size al0
   refine sV (Ac rfl) ?_
   refine Ad<|h3d _ _<|wp_ret ?_
   obtain rfl:=sj f7g
   exact fin rfl (Res.tmp rfl Res.nil) (Al X7h rfl)
theorem c_sorobanref01_above (x0:Nat) (x1:Int) (x2:Nat) (A1:Option Addr) (c2:Nat) (A4:Option Addr) (c5:Nat) (w:World) (hT:TB w) (n3:RU w A1 c2 x0) (n6:RU w A4 c5 x2) (r:Bool) (hr:Ed x0 x1 x2=some r) :
  Calls Tryz.prog 239 #[.slice A1 (sz x0) c2,.int .i64 x1,.slice A4 (sz x2) c5] w (Ret Gl w r):=by
 unfold Ed at hr
 go_enter Tryz.func239,Tryz.ntmps239
 refine wp_seq_k fun K7 h7=>Ag<|sV (Ac rfl) ?_
 refine Ad<|h7 _ _<|wp_seq_k fun K8 h8=>Ag<|CM (vals:=[(0,.int .u32 1)]) (cs:=[.int .u32 1]) AD Ar Ex (by rfl) (by decide) (by kernel_rfl) fun b9 w1 E1d g8e q2d=>?_
 refine nrm ?_
 have n3d:=RL.lit1 q2d (by decide)
 refine sV (Ac rfl) ?_
 refine Ad<|h8 _ _<|wp_seq_k fun K6b h6b=>wp_seq_k fun K7b h7b=>Ag<|sV (Ac rfl) ?_
 refine Ad<|h7b _ _ ?_
 apply wp_block
 refine AZ (fun l n8b l' w'=>∃(v2a:Nat) (v1a:Int) (A3a:Option Addr) (c4a:Nat) (t0a:Nat→Value),Ext w1 w'∧RU w' A3a c4a v2a∧CK x0 x1 x2 n8b v2a v1a=some r∧l'=((((((((((((((l.set 7 (.slice A3a (sz v2a) c4a)).set 8 (.int .i64 v1a)).set 10 (t0a 0)).set 11 (t0a 1)).set 12 (t0a 2)).set 13 (t0a 3)).set 14 (t0a 4)).set 15 (t0a 5)).set 16 (t0a 6)).set 17 (t0a 7)).set 18 (t0a 8)).set 19 (t0a 9)).set 20 (t0a 10)).set 21 (t0a 11))) 18446744073709551616 ?_ ?_ ?_
 ·exact ⟨1,0,(some ⟨b9,0,none⟩),1,(tk [uu,uu,uu,uu,uu,uu,uu,uu,uu,uu,uu,uu]),(Ext.refl _),n3d,hr,(by simp only [S0,S1]<;>rfl)⟩
 ·rintro l' w' ⟨v2a,v1a,A3a,c4a,t0a,_,_,hz,_⟩
  exact nomatch hz
 ·rintro n8b ih4d l' w2 ⟨v2a,v1a,A3a,c4a,t0a,U9b,n5d,hr3b,hq'⟩ l'' hl
  rw [hq'] at hl
  clear hq'
  simp only [S0,S1] at hl
  subst hl
  unfold CK at hr3b
  refine Bg<|have X0b:=xtr E1d U9b;wp_seq_k fun K0c h0c=>wp_seq_k fun K1c h1c=>Ag<|sV (Aa rfl) ?_
  refine sV (Aa rfl) ?_
  refine sb (Cz rfl rfl) fun z5a hz5a=>?_
  refine nrm ?_
  refine Ad<|h1c _ _ ?_
  rcases bft z5a with e6a | e6a
  ·have p6d:=zP hz5a e6a
   have f7d:=ifP p6d hr3b
   refine wp_cond_true (Ak (evb rfl e6a))<|wp_skip<|h0c _ _<|wp_seq_k fun K2c h2c=>?_
   apply wp_block
   refine wp_seq_k fun K3c h3c=>Ag<|sV (Aa rfl) ?_
   refine sV (Aa rfl) ?_
   obtain ⟨r7a,h8d,f9d⟩:=Ab f7d
   refine sc (Ae Mr (by rfl)) (Fi v2a x0 A3a c4a A1 c2 w2 (tbx X0b hT) n5d (n3.ext X0b) r7a h8d) ?_
   rintro _ w3 E4c ⟨A1b,c2b,rfl,n5c⟩
   refine nrm ?_
   have X4b:=xtr X0b E4c
   refine sV (Ac rfl) ?_
   refine Ad<|h3c _ _<|wp_seq_k fun K6c h6c=>Ag<|sV (Aa rfl) ?_
   refine sV (Aa rfl) ?_
   obtain ⟨r7c,h0e,f8c⟩:=Ab f9d
   refine sc (Ae Jp (by rfl)) (CN r7a x2 A1b c2b A4 c5 w3 (tbx X4b hT) n5c (n6.ext X4b) r7c h0e) ?_
   rintro _ w4 E5b rfl
   refine nrm ?_
   have X1e:=xtr X4b E5b
   refine sb (Eh rfl rfl) fun z8a hz8a=>?_
   refine nrm ?_
   refine Ad<|h6c _ _ ?_
   rcases bft z8a with e9a | e9a
   ·have p2e:=zP hz8a e9a
    have f3e:=ifP p2e f8c
    refine wp_cond_true (Ak (evb rfl e9a))<|wp_seq_k fun K9c h9c=>Ag<|sV (Ac rfl) ?_
    refine Ad<|h9c _ _<|wp_ret ?_
    obtain rfl:=sj f3e
    exact fin rfl (Res.tmp rfl Res.nil) (Al X1e rfl)
   ·have p4e:=zN hz8a e9a
    have f5e:=ifN p4e f8c
    refine wp_cond_false (Ak (evb rfl e9a))<|wp_skip<|h2c _ _<|Ag<|sV (Aa rfl) ?_
    refine sV (AN (c:=wi64 (v1a+1)) rfl rfl rfl) ?_
    refine sV (Ac rfl) ?_
    refine Ad ?_
    exact ih4d _ _ ⟨r7a,(wi64 (v1a+1)),A1b,c2b,(tk [.int .i64 v1a,.int .i64 x1,.bool z5a,.int .i64 v1a,.int .i64 (wi64 (v1a+1)),.slice A3a (sz v2a) c4a,.slice A1 (sz x0) c2,.slice A1b (sz r7a) c2b,.slice A1b (sz r7a) c2b,.slice A4 (sz x2) c5,.int .i64 r7c,.bool z8a]),((U9b.trans E4c).trans E5b),(n5c.ext E5b),f5e,(by simp only [S0,S1]<;>rfl)⟩
  ·have p6e:=zN hz5a e6a
   have f7e:=ifN p6e hr3b
   refine wp_cond_false (Ak (evb rfl e6a))<|wp_exit ?_
   simp only [Exit.then,Exit.inBlock,↓reduceIte,Nat.reduceEqDiff]
   refine h6b _ _<|wp_seq_k fun K0d h0d=>Ag<|sV (Ac rfl) ?_
   refine Ad<|h0d _ _<|wp_ret ?_
   obtain rfl:=sj f7e
   exact fin rfl (Res.tmp rfl Res.nil) (Al X0b rfl)
theorem c_sorobanref01_Fits (x0:Nat) (A1:Option Addr) (c2:Nat) (w:World) (hT:TB w) (n3:RU w A1 c2 x0) (r:Bool) (hr:EW x0=some r) :
  Calls Tryz.prog 266 #[.slice A1 (sz x0) c2] w (Ret Gl w r):=by
 unfold EW at hr
 go_enter Tryz.func266,Tryz.ntmps266
 refine wp_seq_k fun K4 h4=>Ag<|sV (Ac rfl) ?_
 refine Ad<|h4 _ _<|wp_seq_k fun K5 h5=>Ag<|sV (Aa rfl) ?_
 refine sV (AH AD rfl) ?_
 refine sb (GR rfl rfl) fun z6 hz6=>?_
 refine nrm ?_
 refine sV (Ac rfl) ?_
 refine Ad<|h5 _ _<|wp_ret ?_
 obtain rfl:z6=decide ((sz x0:Int)≤1024):=bz hz6
 obtain rfl:=sj hr
 exact fin rfl (Res.tmp rfl Res.nil) (Al (Ext.refl _) rfl)
theorem c_sorobanref01_Pow (x0:Nat) (x1:Int) (A1:Option Addr) (c2:Nat) (w:World) (hT:TB w) (n3:RU w A1 c2 x0) (r:Nat × Bool) (hr:Fh x0 x1=some r) :
  Calls Tryz.prog 240 #[.slice A1 (sz x0) c2,.int .i64 x1] w (Ret rep_23_4 w r):=by
 unfold Fh at hr
 go_enter Tryz.func240,Tryz.ntmps240
 refine wp_seq_k fun K4 h4=>Ag<|sV (Ac rfl) ?_
 refine sV (Ac rfl) ?_
 refine Ad<|h4 _ _<|wp_seq_k fun K5 h5=>wp_seq_k fun K6 h6=>Ag<|sV (Aa rfl) ?_
 refine sb (BQ rfl rfl) fun z7 hz7=>?_
 refine nrm ?_
 refine sV (Aa rfl) ?_
 obtain ⟨m2c,h3c,f4c⟩:=Ab hr
 refine BR 7 (fun l l' w'=>∃(t4b:Nat→Value),Ext w w'∧l'=((((l.set 11 (t4b 0)).set 12 (t4b 1)).set 13 (t4b 2)).set 14 (.bool m2c))) ?_ ?_
 ·intro HJ28
  rcases bft z7 with e1a | e1a
  ·have p0f:=zP hz7 e1a
   have f1f:=ifP p0f h3c
   refine sP ?_ (hw:=wgF rfl e1a)
   refine sP ?_ (hw:=wgF rfl e1a)
   refine sP ?_ (hw:=wgF rfl e1a)
   refine sV (Ay (evb rfl e1a) rfl) ?_
   obtain rfl:=sj f1f
   exact HJ28 _ _ ⟨(tk [uu,uu,uu]),(Ext.refl _),(by simp only [S0,S1]<;>rfl)⟩
  ·have p2f:=zN hz7 e1a
   have f3f:=ifN p2f h3c
   refine sV (Aa rfl) ?_ (hw:=wgT rfl e1a)
   refine CM (vals:=[(0,.int .u32 1)]) (cs:=[.int .u32 1]) AD Ar Ex (by rfl) (by decide) (by kernel_rfl) ?_ (hw:=wgT rfl e1a)
   intro b5c w1 E9b g1j q4f
   refine nrm ?_
   have n5f:=RL.lit1 q4f (by decide)
   obtain ⟨r6c,h6f,f7f⟩:=Ab f3f
   refine sc (Ae Mt (by rfl)) (Fb (limbs x0) (limbs 1) A1 c2 (some ⟨b5c,0,none⟩) 1 w1 (tbx E9b hT) (n3.ext E9b) n5f r6c h6f) ?_ (hw:=wgT rfl e1a)
   rintro _ w2 E8f rfl
   refine nrm ?_
   refine sV (AB (evb rfl e1a) rfl) ?_
   obtain rfl:=sj f7f
   exact HJ28 _ _ ⟨(tk [.slice A1 (sz x0) c2,.slice (some ⟨b5c,0,none⟩) (sz 1) 1,.bool r6c]),(E9b.trans E8f),(by simp only [S0,S1]<;>rfl)⟩
 ·rintro l' w1 ⟨t4b,U6a,hq'⟩ l'' hl
  rw [hq'] at hl
  clear hq'
  simp only [S0,S1] at hl
  subst hl
  refine Ad<|h6 _ _ ?_
  rcases bft m2c with e7a | e7a
  ·have p9f:=e7a
   have f0g:=ifP p9f f4c
   refine wp_cond_true (Ak (evb rfl e7a))<|wp_seq_k fun K7c h7c=>Ag<|CM (vals:=[(0,.int .u32 1)]) (cs:=[.int .u32 1]) AD Ar Ex (by rfl) (by decide) (by kernel_rfl) fun b1g w2 E2g g3g q4g=>?_
   refine nrm ?_
   have g2j:=nlt U6a.size g3g
   have X5g:=xtr U6a E2g
   have n6g:=RL.lit1 q4g (by decide)
   refine sV (Ac rfl) ?_
   refine sV (Ac rfl) ?_
   refine Ad<|h7c _ _<|wp_ret ?_
   obtain rfl:=sj f0g
   exact fin rfl (Res.tmp rfl (Res.tmp rfl Res.nil)) (Al X5g ⟨(some ⟨b1g,0,none⟩),1,rfl,n6g⟩)
  ·have p7g:=bF e7a
   have f8c:=ifN p7g f4c
   refine wp_cond_false (Ak (evb rfl e7a))<|wp_skip<|h5 _ _<|wp_seq_k fun K9c h9c=>wp_seq_k fun K0d h0d=>Ag<|sV (Aa rfl) ?_
   refine sV (AH AD rfl) ?_
   refine sb (BQ rfl rfl) fun z5b hz5b=>?_
   refine nrm ?_
   refine Ad<|h0d _ _ ?_
   rcases bft z5b with e8a | e8a
   ·have p8g:=zP hz5b e8a
    have f9g:=ifP p8g f8c
    refine wp_cond_true (Ak (evb rfl e8a))<|wp_seq_k fun K1d h1d=>Ag<|sV (Aa rfl) ?_
    refine sV (Ac rfl) ?_
    refine sV (Ac rfl) ?_
    refine Ad<|h1d _ _<|wp_ret ?_
    obtain rfl:=sj f9g
    exact fin rfl (Res.tmp rfl (Res.tmp rfl Res.nil)) (Al U6a ⟨A1,c2,rfl,(n3.ext U6a)⟩)
   ·have p0h:=zN hz5b e8a
    have f1h:=ifN p0h f8c
    refine wp_cond_false (Ak (evb rfl e8a))<|wp_skip<|h9c _ _<|wp_seq_k fun K2d h2d=>Ag<|CM (vals:=[(0,.int .u32 1)]) (cs:=[.int .u32 1]) AD Ar Ex (by rfl) (by decide) (by kernel_rfl) fun b2h w2 E3h g4h q5h=>?_
    refine nrm ?_
    have g3j:=nlt U6a.size g4h
    have X6h:=xtr U6a E3h
    have n7h:=RL.lit1 q5h (by decide)
    refine sV (Ac rfl) ?_
    refine Ad<|h2d _ _<|wp_seq_k fun K3d h3d=>wp_seq_k fun K4d h4d=>Ag<|sV (Ac rfl) ?_
    refine Ad<|h4d _ _ ?_
    apply wp_block
    refine AZ (fun l n5d l' w'=>∃(v3a:Nat) (v2a:Int) (A4a:Option Addr) (c5a:Nat) (t0a:Nat→Value),Ext w2 w'∧RU w' A4a c5a v3a∧Da x0 x1 n5d v3a v2a=some r∧l'=(((((((((((((l.set 6 (.slice A4a (sz v3a) c5a)).set 7 (.int .i64 v2a)).set 21 (t0a 0)).set 22 (t0a 1)).set 23 (t0a 2)).set 24 (t0a 3)).set 25 (t0a 4)).set 26 (t0a 5)).set 27 (t0a 6)).set 28 (t0a 7)).set 29 (t0a 8)).set 30 (t0a 9)).set 31 (t0a 10))) 18446744073709551616 ?_ ?_ ?_
    ·exact ⟨1,0,(some ⟨b2h,0,none⟩),1,(tk [uu,uu,uu,uu,uu,uu,uu,uu,uu,uu,uu]),(Ext.refl _),n7h,f1h,(by simp only [S0,S1]<;>rfl)⟩
    ·rintro l' w' ⟨v3a,v2a,A4a,c5a,t0a,_,_,hz,_⟩
     exact nomatch hz
    ·rintro n5d ih8h l' w3 ⟨v3a,v2a,A4a,c5a,t0a,U6d,n7d,hr0c,hq'⟩ l'' hl
     rw [hq'] at hl
     clear hq'
     simp only [S0,S1] at hl
     subst hl
     unfold Da at hr0c
     refine Bg<|have X6b:=xtr X6h U6d;wp_seq_k fun K8d h8d=>wp_seq_k fun K9d h9d=>Ag<|sV (Aa rfl) ?_
     refine sV (Aa rfl) ?_
     refine sb (Cz rfl rfl) fun z9a hz9a=>?_
     refine nrm ?_
     refine Ad<|h9d _ _ ?_
     rcases bft z9a with e0b | e0b
     ·have p9h:=zP hz9a e0b
      have f0i:=ifP p9h hr0c
      refine wp_cond_true (Ak (evb rfl e0b))<|wp_skip<|h8d _ _<|wp_seq_k fun K0e h0e=>?_
      apply wp_block
      refine wp_seq_k fun K1e h1e=>Ag<|sV (Aa rfl) ?_
      refine sV (Aa rfl) ?_
      obtain ⟨r1b,h1i,f2i⟩:=Ab f0i
      refine sc (Ae Mr (by rfl)) (Fi v3a x0 A4a c5a A1 c2 w3 (tbx X6b hT) n7d (n3.ext X6b) r1b h1i) ?_
      rintro _ w4 E2e ⟨A7b,c8b,rfl,n3e⟩
      refine nrm ?_
      have X4e:=xtr X6b E2e
      refine sV (Ac rfl) ?_
      refine Ad<|h1e _ _<|wp_seq_k fun K5e h5e=>Ag<|sV (Aa rfl) ?_
      obtain ⟨r6e,h3i,f7e⟩:=Ab f2i
      refine sc (Ae en_266 (by rfl)) (c_sorobanref01_Fits r1b A7b c8b w4 (tbx X4e hT) n3e r6e h3i) ?_
      rintro _ w5 E1c rfl
      refine nrm ?_
      have X4i:=xtr X4e E1c
      refine sb (GH rfl) fun z2b hz2b=>?_
      refine nrm ?_
      refine Ad<|h5e _ _ ?_
      rcases bft z2b with e3b | e3b
      ·have p5i:=zP hz2b e3b
       have f6i:=ifP p5i f7e
       refine wp_cond_true (Ak (evb rfl e3b))<|wp_seq_k fun K8e h8e=>Ag<|sV (Ac rfl) ?_
       refine sV (Ac rfl) ?_
       refine Ad<|h8e _ _<|wp_ret ?_
       obtain rfl:=sj f6i
       exact fin rfl (Res.tmp rfl (Res.tmp rfl Res.nil)) (Al X4i ⟨none,0,rfl,(RU.nil _)⟩)
      ·have p7i:=zN hz2b e3b
       have f8i:=ifN p7i f7e
       refine wp_cond_false (Ak (evb rfl e3b))<|wp_skip<|h0e _ _<|Ag<|sV (Aa rfl) ?_
       refine sV (AN (c:=wi64 (v2a+1)) rfl rfl rfl) ?_
       refine sV (Ac rfl) ?_
       refine Ad ?_
       exact ih8h _ _ ⟨r1b,(wi64 (v2a+1)),A7b,c8b,(tk [.int .i64 v2a,.int .i64 x1,.bool z9a,.int .i64 v2a,.int .i64 (wi64 (v2a+1)),.slice A4a (sz v3a) c5a,.slice A1 (sz x0) c2,.slice A7b (sz r1b) c8b,.slice A7b (sz r1b) c8b,.bool r6e,.bool z2b]),((U6d.trans E2e).trans E1c),(n3e.ext E1c),f8i,(by simp only [S0,S1]<;>rfl)⟩
     ·have p9i:=zN hz9a e0b
      have f0j:=ifN p9i hr0c
      refine wp_cond_false (Ak (evb rfl e0b))<|wp_exit ?_
      simp only [Exit.then,Exit.inBlock,↓reduceIte,Nat.reduceEqDiff]
      refine h3d _ _<|wp_seq_k fun K9e h9e=>Ag<|sV (Aa rfl) ?_
      refine sV (Ac rfl) ?_
      refine sV (Ac rfl) ?_
      refine Ad<|h9e _ _<|wp_ret ?_
      obtain rfl:=sj f0j
      exact fin rfl (Res.tmp rfl (Res.tmp rfl Res.nil)) (Al X6b ⟨A4a,c5a,rfl,n7d⟩)
theorem c_sorobanref01_Root (x0:Nat) (x1:Int) (A1:Option Addr) (c2:Nat) (w:World) (hT:TB w) (n3:RU w A1 c2 x0) (r:Cp) (hr:EZ x0 x1=some r) :
  Calls Tryz.prog 188 #[.slice A1 (sz x0) c2,.int .i64 x1] w (Ret MV w r):=by
 unfold EZ at hr
 go_enter Tryz.func188,Tryz.ntmps188
 refine wp_seq_k fun K4 h4=>Ag<|Ax IM fun b5 w1 E6 g7 q8=>?_
 refine nrm ?_
 refine Ad<|h4 _ _<|wp_seq_k fun K9 h9=>wp_seq_k fun K9b h9b=>Ag<|sV (Aa rfl) ?_
 refine CM (vals:=[(0,.int .u32 1)]) (cs:=[.int .u32 1]) AD Ar Ex (by rfl) (by decide) (by kernel_rfl) fun b3j w2 E0c g4j q5j=>?_
 refine nrm ?_
 have g7q:=nlt E6.size g4j
 have X9c:=xtr E6 E0c
 have n6j:=RL.lit1 q5j (by decide)
 obtain ⟨r7j,h8j,f7f⟩:=Ab hr
 refine sc (Ae Jp (by rfl)) (CN x0 1 A1 c2 (some ⟨b3j,0,none⟩) 1 w2 (tbx X9c hT) (n3.ext X9c) n6j r7j h8j) ?_
 rintro _ w3 E1c rfl
 refine nrm ?_
 have X2c:=xtr X9c E1c
 refine sb (GR rfl rfl) fun z3c hz3c=>?_
 refine nrm ?_
 refine Ad<|h9b _ _ ?_
 rcases bft z3c with e3b | e3b
 ·have p9j:=zP hz3c e3b
  have f0k:=ifP p9j f7f
  refine wp_cond_true (Ak (evb rfl e3b))<|wp_seq_k fun K8f h8f=>Ag<|sV (Aa rfl) ?_
  refine sV (AV (vals:=[(0,.slice A1 (sz x0) c2)]) (cells:=[.slice A1 (sz x0) c2,.slice none 0 0]) (by rfl) (by kernel_rfl)) ?_
  refine As Hz rfl rfl ((q8.ext E0c).ext E1c) rfl rfl rfl rfl (by simp only [SP0,SP1,S0,S1,Nat.reduceAdd];rfl) fun w4 U1k q2k=>?_
  have X9f:=Bf X2c U1k g7
  refine Ad<|h8f _ _<|wp_ret ?_
  obtain rfl:=sj f0k
  exact fin rfl (Res.cellN rfl Jm q2k rfl rfl Res.nil) (Al X9f ⟨A1,c2,none,0,rfl,(n3.ext X9f),(RU.nil _)⟩)
 ·have p3k:=zN hz3c e3b
  have f4k:=ifN p3k f7f
  refine wp_cond_false (Ak (evb rfl e3b))<|wp_skip<|h9 _ _<|wp_seq_k fun K0g h0g=>wp_seq_k fun K1g h1g=>Ag<|sV (Aa rfl) ?_
  refine sV (Aa rfl) ?_
  obtain ⟨r5k,h6k,f2g⟩:=Ab f4k
  refine sc (Ae IN (by rfl)) (Ce x0 A1 c2 w3 (tbx X2c hT) (n3.ext X2c) r5k h6k) ?_
  rintro _ w4 E0d rfl
  refine nrm ?_
  have X4b:=xtr X2c E0d
  refine sb (Gi rfl rfl) fun z4c hz4c=>?_
  refine nrm ?_
  refine Ad<|h1g _ _ ?_
  rcases bft z4c with e5b | e5b
  ·have p7k:=zP hz4c e5b
   have f8k:=ifP p7k f2g
   refine wp_cond_true (Ak (evb rfl e5b))<|wp_seq_k fun K3g h3g=>Ag<|CM (vals:=[(0,.int .u32 1)]) (cs:=[.int .u32 1]) AD Ar Ex (by rfl) (by decide) (by kernel_rfl) fun b1d w5 E4g g9k q0l=>?_
   refine nrm ?_
   have g8q:=nlt X4b.size g9k
   have X5g:=xtr X4b E4g
   have n1l:=RL.lit1 q0l (by decide)
   refine sV (Aa rfl) ?_
   refine CM (vals:=[(0,.int .u32 1)]) (cs:=[.int .u32 1]) AD Ar Ex (by rfl) (by decide) (by kernel_rfl) fun b2l w6 E2d g3l q4l=>?_
   refine nrm ?_
   have g9q:=nlt X5g.size g3l
   have X3d:=xtr X5g E2d
   have n5l:=RL.lit1 q4l (by decide)
   obtain ⟨r4d,h6l,f7l⟩:=Ab f8k
   refine sc (Ae Ly (by rfl)) (EB x0 1 A1 c2 (some ⟨b2l,0,none⟩) 1 w6 (tbx X3d hT) (n3.ext X3d) n5l r4d h6l) ?_
   rintro _ w7 E5d ⟨A6d,c7d,rfl,n8l⟩
   refine nrm ?_
   have X9l:=xtr X3d E5d
   refine sV (AV (vals:=[(0,.slice (some ⟨b1d,0,none⟩) (sz 1) 1),(1,.slice A6d (sz r4d) c7d)]) (cells:=[.slice (some ⟨b1d,0,none⟩) (sz 1) 1,.slice A6d (sz r4d) c7d]) (by rfl) (by kernel_rfl)) ?_
   have n8d:=(((((q8.ext E0c).ext E1c).ext E0d).ext E4g).ext E2d).ext E5d
   refine As Hz rfl rfl n8d rfl rfl rfl rfl (by simp only [SP0,SP1,S0,S1,Nat.reduceAdd];rfl) fun w8 U9d q0m=>?_
   have X1m:=Bf X9l U9d g7
   refine Ad<|h3g _ _<|wp_ret ?_
   have n2m:=((n1l.ext E2d).ext E5d).upd U9d n8d (by decide)
   have n3m:=n8l.upd U9d n8d (by decide)
   obtain rfl:=sj f7l
   exact fin rfl (Res.cellN rfl Jm q0m rfl rfl Res.nil) (Al X1m ⟨(some ⟨b1d,0,none⟩),1,A6d,c7d,rfl,n2m,n3m⟩)
  ·have p4m:=zN hz4c e5b
   have f5m:=ifN p4m f2g
   refine wp_cond_false (Ak (evb rfl e5b))<|wp_skip<|h0g _ _<|wp_seq_k fun K6g h6g=>Ag<|sV (Ac rfl) ?_
   refine Ad<|h6g _ _<|wp_seq_k fun K7g h7g=>wp_seq_k fun K8g h8g=>Ag<|sV (Aa rfl) ?_
   obtain ⟨r0e,h6m,f7m⟩:=Ab f5m
   refine sc (Ae IN (by rfl)) (Ce x0 A1 c2 w4 (tbx X4b hT) (n3.ext X4b) r0e h6m) ?_
   rintro _ w5 E9g rfl
   refine nrm ?_
   have X0h:=xtr X4b E9g
   refine sV (Aa rfl) ?_
   obtain ⟨_,h8m,f9m⟩:=Ab f7m
   have gd93:=AI h8m
   refine sV (Hc (c:=wi64 (r0e.tdiv x1)) (decide_eq_true gd93) rfl rfl rfl) ?_
   refine sV (Ac rfl) ?_
   refine Ad<|h8g _ _ ?_
   obtain ⟨m8a,h0n,f1n⟩:=Ab f9m
   refine BM (fun l l' w'=>∃(A5a:Option Addr) (c6a:Nat) (t1a:Nat→Value),Ext w5 w'∧RU w' A5a c6a m8a∧l'=((((((((((((((((((l.set 5 (.slice A5a (sz m8a) c6a)).set 6 (t1a 0)).set 7 (t1a 1)).set 29 (t1a 2)).set 30 (t1a 3)).set 31 (t1a 4)).set 32 (t1a 5)).set 33 (t1a 6)).set 34 (t1a 7)).set 35 (t1a 8)).set 36 (t1a 9)).set 37 (t1a 10)).set 38 (t1a 11)).set 39 (t1a 12)).set 40 (t1a 13)).set 41 (t1a 14)).set 42 (t1a 15)).set 43 (t1a 16))) ?_ ?_
   ·apply wp_block
    refine AZ (fun l n1h l' w'=>∃(v7a:Nat) (v2a:Int) (A3a:Option Addr) (c4a:Nat) (t0a:Nat→Value),Ext w5 w'∧RU w' A3a c4a v7a∧BG x0 x1 n1h v7a v2a=some m8a∧l'=((((((((((((((((((l.set 5 (.slice A3a (sz v7a) c4a)).set 6 (.int .i64 v2a)).set 7 (t0a 0)).set 29 (t0a 1)).set 30 (t0a 2)).set 31 (t0a 3)).set 32 (t0a 4)).set 33 (t0a 5)).set 34 (t0a 6)).set 35 (t0a 7)).set 36 (t0a 8)).set 37 (t0a 9)).set 38 (t0a 10)).set 39 (t0a 11)).set 40 (t0a 12)).set 41 (t0a 13)).set 42 (t0a 14)).set 43 (t0a 15))) 18446744073709551616 ?_ ?_ ?_
    ·exact ⟨0,(wi64 (r0e.tdiv x1)),none,0,(tk [uu,uu,uu,uu,uu,uu,uu,uu,uu,uu,uu,uu,uu,uu,uu,uu]),(Ext.refl _),(RU.nil _),h0n,(by simp only [S0,S1]<;>rfl)⟩
    ·rintro l' w' ⟨v7a,v2a,A3a,c4a,t0a,_,_,hz,_⟩
     exact nomatch hz
    ·rintro n1h ih2n l' w6 ⟨v7a,v2a,A3a,c4a,t0a,U1e,n2e,hr3e,hq'⟩ l'' hl
     rw [hq'] at hl
     clear hq'
     simp only [S0,S1] at hl
     subst hl
     unfold BG at hr3e
     refine Bg<|have X2h:=xtr X0h U1e;wp_seq_k fun K3h h3h=>wp_seq_k fun K4h h4h=>Ag<|sV (Aa rfl) ?_
     refine sb (Gi rfl rfl) fun z9a hz9a=>?_
     refine nrm ?_
     refine Ad<|h4h _ _ ?_
     rcases bft z9a with e6b | e6b
     ·have p3n:=zP hz9a e6b
      have f4n:=ifP p3n hr3e
      refine wp_cond_true (Ak (evb rfl e6b))<|wp_skip<|h3h _ _<|wp_seq_k fun K5h h5h=>?_
      apply wp_block
      refine wp_seq_k fun K6h h6h=>Ag<|sV (Aa rfl) ?_
      refine CM (vals:=[(0,.int .u32 1)]) (cs:=[.int .u32 1]) AD Ar Ex (by rfl) (by decide) (by kernel_rfl) fun b7h w7 E5c g5n q6n=>?_
      refine nrm ?_
      have g0r:=nlt X2h.size g5n
      have X8h:=xtr X2h E5c
      have n7n:=RL.lit1 q6n (by decide)
      refine sV (Aa rfl) ?_
      obtain ⟨r4e,h8n,f9n⟩:=Ab f4n
      refine sc (Ae HA (by rfl)) (BJ 1 v2a (some ⟨b7h,0,none⟩) 1 w7 (tbx X8h hT) n7n r4e h8n) ?_
      rintro _ w8 E6c ⟨A9h,c0i,rfl,n0o⟩
      refine nrm ?_
      have X1i:=xtr X8h E6c
      obtain ⟨r0b,h1o,f2o⟩:=Ab f9n
      refine sc (Ae KK (by rfl)) (DQ v7a r4e A3a c4a A9h c0i w8 (tbx X1i hT) ((n2e.ext E5c).ext E6c) n0o r0b h1o) ?_
      rintro _ w9 E5e ⟨A1b,c2b,rfl,n2i⟩
      refine nrm ?_
      have X3i:=xtr X1i E5e
      refine sV (Ac rfl) ?_
      refine Ad<|h6h _ _<|wp_seq_k fun K4i h4i=>Ag<|sV (Aa rfl) ?_
      refine sV (Aa rfl) ?_
      refine sV (Aa rfl) ?_
      obtain ⟨r5i,h3o,f4o⟩:=Ab f2o
      refine sc (Ae en_239 (by rfl)) (c_sorobanref01_above r0b x1 x0 A1b c2b A1 c2 w9 (tbx X3i hT) n2i (n3.ext X3i) r5i h3o) ?_
      rintro _ w9b E6e rfl
      refine nrm ?_
      refine sb (GH rfl) fun z7b hz7b=>?_
      refine nrm ?_
      refine Ad<|h4i _ _ ?_
      obtain ⟨m7e,h6i,f5o⟩:=Ab f4o
      refine BM (fun l l' w'=>∃(A7c:Option Addr) (c8c:Nat) (t8e:Nat→Value),w9b=w'∧RU w' A7c c8c m7e∧l'=((l.set 5 (.slice A7c (sz m7e) c8c)).set 43 (t8e 0))) ?_ ?_
      ·rcases bft z7b with e8b | e8b
       ·have p6o:=zP hz7b e8b
        have f7o:=ifP p6o h6i
        refine wp_cond_true (Ak (evb rfl e8b))<|Ag<|sV (Aa rfl) ?_
        refine sV (Ac rfl) ?_
        refine Ad ?_
        obtain rfl:=sj f7o
        exact ⟨_,rfl,A1b,c2b,(tk [.slice A1b (sz r0b) c2b]),(by trivial),(n2i.ext E6e),(by simp only [S0,S1]<;>rfl)⟩
       ·have p8o:=zN hz7b e8b
        have f9o:=ifN p8o h6i
        refine wp_cond_false (Ak (evb rfl e8b))<|wp_skip ?_
        have n0p:=(((n2e.ext E5c).ext E6c).ext E5e).ext E6e
        obtain rfl:=sj f9o
        exact ⟨_,rfl,A3a,c4a,(tk [t0a 15]),(by trivial),n0p,(by simp only [S0,S1]<;>rfl)⟩
      ·rintro l' _ ⟨A7c,c8c,t8e,rfl,n1p,hq'⟩ l'' hl
       rw [hq'] at hl
       clear hq'
       simp only [S0,S1] at hl
       subst hl
       refine h5h _ _<|Ag<|sV (Aa rfl) ?_
       refine sV (Bq (c:=wi64 (v2a - 1)) rfl rfl rfl) ?_
       refine sV (Ac rfl) ?_
       refine Ad ?_
       exact ih2n _ _ ⟨m7e,(wi64 (v2a - 1)),A7c,c8c,(tk [.slice A1b (sz r0b) c2b,.int .i64 v2a,.bool z9a,.int .i64 v2a,.int .i64 (wi64 (v2a - 1)),.slice A3a (sz v7a) c4a,.slice (some ⟨b7h,0,none⟩) (sz 1) 1,.int .i64 v2a,.slice A9h (sz r4e) c0i,.slice A1b (sz r0b) c2b,.slice A1b (sz r0b) c2b,.int .i64 x1,.slice A1 (sz x0) c2,.bool r5i,.bool z7b,t8e 0]),((((U1e.trans E5c).trans E6c).trans E5e).trans E6e),n1p,f5o,(by simp only [S0,S1]<;>rfl)⟩
     ·have p2p:=zN hz9a e6b
      have f3p:=ifN p2p hr3e
      refine wp_cond_false (Ak (evb rfl e6b))<|wp_exit ?_
      simp only [Exit.then,Exit.inBlock,↓reduceIte,Nat.reduceEqDiff]
      obtain rfl:=sj f3p
      exact ⟨_,rfl,A3a,c4a,(tk [.int .i64 v2a,t0a 0,.int .i64 v2a,.bool z9a,t0a 3,t0a 4,t0a 5,t0a 6,t0a 7,t0a 8,t0a 9,t0a 10,t0a 11,t0a 12,t0a 13,t0a 14,t0a 15]),U1e,n2e,(by simp only [S0,S1]<;>rfl)⟩
   ·rintro l' w6 ⟨A5a,c6a,t1a,U7i,n8i,hq'⟩ l'' hl
    rw [hq'] at hl
    clear hq'
    simp only [S0,S1] at hl
    subst hl
    have X9i:=xtr X0h U7i
    refine h7g _ _<|wp_seq_k fun K0j h0j=>Ag<|sV (Aa rfl) ?_
    refine sV (Aa rfl) ?_
    obtain ⟨r1j,h4p,f5p⟩:=Ab f1n
    refine sc (Ae en_240 (by rfl)) (c_sorobanref01_Pow m8a x1 A5a c6a w6 (tbx X9i hT) n8i r1j h4p) ?_
    rintro _ w7 E9e ⟨A6p,c7p,rfl,n8p⟩
    refine nrm ?_
    have X0f:=xtr X9i E9e
    refine sV (Aa rfl) ?_
    refine sV (AW rfl rfl) ?_
    refine sV (AW rfl rfl) ?_
    refine sV (Ac rfl) ?_
    refine sV (Ac rfl) ?_
    refine Ad<|h0j _ _<|wp_seq_k fun K2j h2j=>Ag<|sV (Aa rfl) ?_
    refine sV (Aa rfl) ?_
    refine sV (Aa rfl) ?_
    obtain ⟨r1f,h9p,f0q⟩:=Ab f5p
    refine sc (Ae Ly (by rfl)) (EB x0 r1j.1 A1 c2 A6p c7p w7 (tbx X0f hT) (n3.ext X0f) n8p r1f h9p) ?_
    rintro _ w8 E2f ⟨A3f,c4f,rfl,n1q⟩
    refine nrm ?_
    have X2q:=xtr X0f E2f
    refine sV (AV (vals:=[(0,.slice A5a (sz m8a) c6a),(1,.slice A3f (sz r1f) c4f)]) (cells:=[.slice A5a (sz m8a) c6a,.slice A3f (sz r1f) c4f]) (by rfl) (by kernel_rfl)) ?_
    have n5f:=((((((q8.ext E0c).ext E1c).ext E0d).ext E9g).ext U7i).ext E9e).ext E2f
    refine As Hz rfl rfl n5f rfl rfl rfl rfl (by simp only [SP0,SP1,S0,S1,Nat.reduceAdd];rfl) fun w9 U6f q3q=>?_
    have X4q:=Bf X2q U6f g7
    refine Ad<|h2j _ _<|wp_ret ?_
    have n5q:=((n8i.ext E9e).ext E2f).upd U6f n5f (by decide)
    have n6q:=n1q.upd U6f n5f (by decide)
    obtain rfl:=sj f0q
    exact fin rfl (Res.cellN rfl Jm q3q rfl rfl Res.nil) (Al X4q ⟨A5a,c6a,A3f,c4f,rfl,n5q,n6q⟩)
theorem c_sorobanref04_Round (x0:Aj) (x1:Int) (x2:Int) (A1:Option Addr) (c2:Nat) (w:World) (hT:TB w) (n3:RU w A1 c2 x0.Man.Abs) (r:Aj) (hr:EO x0 x1 x2=some r) :
  Calls Tryz.prog 58 #[.agg #[.bool x0.Man.Neg,.slice A1 (sz x0.Man.Abs) c2,.int .i64 x0.Exp],.int .i64 x1,.int .i64 x2] w (Ret IS w r):=by
 unfold EO at hr
 go_enter Tryz.func58,Tryz.ntmps58
 refine wp_seq_k fun K4 h4=>Ag<|BL rfl rfl fun b5 w1 E6 g7 q8=>?_
 refine nrm ?_
 refine Ax FH fun b9 w2 E1a g8d q5b=>?_
 refine nrm ?_
 have g6b:=nlt E6.size g8d
 have X7a:=xtr E6 E1a
 refine Ad<|h4 _ _<|wp_seq_k fun K7b h7b=>Ag<|sV (Af (o':=0) DC rfl rfl) ?_
 refine sV (Af (o':=1) Bo rfl rfl) ?_
 refine sV (Ah BN rfl (Bx.cell (q8.ext E1a) rfl)) ?_
 obtain ⟨r2a,h9d,f8b⟩:=Ab hr
 refine sc (Ae IN (by rfl)) (Ce x0.Man.Abs A1 c2 w2 (tbx X7a hT) (n3.ext X7a) r2a h9d) ?_
 rintro _ w3 E3a rfl
 refine nrm ?_
 have X8a:=xtr X7a E3a
 refine sV (Aa rfl) ?_
 refine sV (Bq (c:=wi64 (r2a - x1)) rfl rfl rfl) ?_
 refine sV (Ac rfl) ?_
 refine Ad<|h7b _ _<|wp_seq_k fun K9b h9b=>wp_seq_k fun K0c h0c=>Ag<|sV (Aa rfl) ?_
 refine sb (GR rfl rfl) fun z6a hz6a=>?_
 refine nrm ?_
 refine Ad<|h0c _ _ ?_
 rcases bft z6a with e4a | e4a
 ·have p0e:=zP hz6a e4a
  have f1e:=ifP p0e f8b
  refine wp_cond_true (Ak (evb rfl e4a))<|wp_seq_k fun K1c h1c=>Ag<|sV (An Bj rfl ((q8.ext E1a).ext E3a) rfl) ?_
  refine As Dq rfl rfl (q5b.ext E3a) rfl rfl rfl rfl (by simp only [SP0,SP1,S0,S1,Nat.reduceAdd];rfl) fun w4 U2e q3e=>?_
  have X2c:=Bf X8a U2e g6b
  refine Ad<|h1c _ _<|wp_ret ?_
  obtain rfl:=sj f1e
  exact fin rfl (Res.cellN rfl Bj q3e rfl rfl Res.nil) (Al X2c ⟨A1,c2,rfl,(n3.ext X2c)⟩)
 ·have p4e:=zN hz6a e4a
  have f5e:=ifN p4e f8b
  refine wp_cond_false (Ak (evb rfl e4a))<|wp_skip<|h9b _ _<|wp_seq_k fun K3c h3c=>Ag ?_
  obtain ⟨r4c,h6e,f7e⟩:=Ab f5e
  refine sc (Ae LH (by rfl)) (FZ w3 (tbx X8a hT)  r4c h6e) ?_
  rintro _ w4 E9a ⟨A8e,c9e,rfl,n0f⟩
  refine nrm ?_
  have X5c:=xtr X8a E9a
  refine sV (Aa rfl) ?_
  obtain ⟨r0b,h1f,f2f⟩:=Ab f7e
  refine sc (Ae HA (by rfl)) (BJ r4c (wi64 (r2a - x1)) A8e c9e w4 (tbx X5c hT) n0f r0b h1f) ?_
  rintro _ w5 E1b ⟨A6c,c7c,rfl,n8c⟩
  refine nrm ?_
  have X2b:=xtr X5c E1b
  refine sV (Ac rfl) ?_
  refine Ad<|h3c _ _<|wp_seq_k fun K9c h9c=>Ag<|sV (Af (o':=0) DC rfl rfl) ?_
  refine sV (Af (o':=1) Bo rfl rfl) ?_
  have q3b:=(((q8.ext E1a).ext E3a).ext E9a).ext E1b
  refine sV (Ah BN rfl (Bx.cell q3b rfl)) ?_
  refine sV (Aa rfl) ?_
  obtain ⟨r4b,h3f,f4f⟩:=Ab f2f
  refine sc (Ae Ka (by rfl)) (Dm x0.Man.Abs r0b A1 c2 A6c c7c w5 (tbx X2b hT) (n3.ext X2b) n8c r4b h3f) ?_
  rintro _ w6 E5a ⟨A5f,c6f,A7f,c8f,rfl,n9f,n0g⟩
  refine nrm ?_
  have X0d:=xtr X2b E5a
  refine Ax IM fun b3h w7 E1g g1d q2g=>?_
  refine nrm ?_
  have g4h:=nlt X0d.size g1d
  refine As Hz rfl rfl q2g rfl rfl rfl rfl (by simp only [SP0,SP1,S0,S1,Nat.reduceAdd];rfl) fun w8 U3g q2d=>?_
  have F0a:=Bf E1g U3g g1d
  have X3d:=xtr X0d F0a
  refine Ad<|h9c _ _<|wp_seq_k fun K4d h4d=>Ag<|sV (Af (o':=0) IA rfl rfl) ?_
  refine sV (Ah BN rfl (Bx.cell q2d rfl)) ?_
  refine sV (Af (o':=1) Jo rfl rfl) ?_
  refine sV (Ah BN rfl (Bx.cell q2d rfl)) ?_
  refine sV (Aa rfl) ?_
  refine sV (Af (o':=0) DC rfl rfl) ?_
  refine sV (Af (o':=0) DP rfl rfl) ?_
  refine sV (Ah FS rfl (Bx.cell ((q3b.ext E5a).ext F0a) rfl)) ?_
  refine sV (Aa rfl) ?_
  refine sV (Af (o':=2) Ek rfl rfl) ?_
  refine sV (Ah Fl rfl (Bx.cell ((q3b.ext E5a).ext F0a) rfl)) ?_
  refine sV (Aa rfl) ?_
  refine sV (AN (c:=wi64 (x0.Exp+(wi64 (r2a - x1)))) rfl rfl rfl) ?_
  obtain ⟨r4g,h5g,f6g⟩:=Ab f4f
  refine sc (Ae Mi (by rfl)) (GP r4b.Q r4b.R r0b x0.Man.Neg x2 (wi64 (x0.Exp+(wi64 (r2a - x1)))) A5f c6f A7f c8f A6c c7c w8 (tbx X3d hT) (n9f.ext F0a) (n0g.ext F0a) ((n8c.ext E5a).ext F0a) r4g h5g) ?_
  rintro _ w9 E5d ⟨A7g,c8g,rfl,n9g⟩
  refine nrm ?_
  have X0h:=xtr X3d E5d
  have q6d:=(((((q5b.ext E3a).ext E9a).ext E1b).ext E5a).ext F0a).ext E5d
  refine As Dq rfl rfl q6d rfl rfl rfl rfl (by simp only [SP0,SP1,S0,S1,Nat.reduceAdd];rfl) fun w1a U7d q1h=>?_
  have X2h:=Bf X0h U7d g6b
  refine Ad<|h4d _ _<|wp_ret ?_
  obtain rfl:=sj f6g
  exact fin rfl (Res.cellN rfl Bj q1h rfl rfl Res.nil) (Al X2h ⟨A7g,c8g,rfl,(n9g.upd U7d q6d (by decide))⟩)
theorem HQ (x0:Aj) (x1:Int) (x2:Int) (A1:Option Addr) (c2:Nat) (w:World) (hT:TB w) (n3:RU w A1 c2 x0.Man.Abs) (r:Aj) (hr:Cf x0 x1 x2=some r) :
  Calls Tryz.prog 109 #[.agg #[.bool x0.Man.Neg,.slice A1 (sz x0.Man.Abs) c2,.int .i64 x0.Exp],.int .i64 x1,.int .i64 x2] w (Ret IS w r):=by
 unfold Cf at hr
 go_enter Tryz.func109,Tryz.ntmps109
 refine wp_seq_k fun K4 h4=>Ag<|BL rfl rfl fun b5 w1 E6 g7 q8=>?_
 refine nrm ?_
 refine Ax FH fun b9 w2 E0a g5a q5b=>?_
 refine nrm ?_
 have g9c:=nlt E6.size g5a
 have X6b:=xtr E6 E0a
 refine Ad<|h4 _ _<|wp_seq_k fun K0d h0d=>wp_seq_k fun K1d h1d=>Ag<|sV (Af (o':=0) DC rfl rfl) ?_
 refine sV (Af (o':=1) Bo rfl rfl) ?_
 refine sV (Ah BN rfl (Bx.cell (q8.ext E0a) rfl)) ?_
 refine sV (AH AD rfl) ?_
 refine sb (BQ rfl rfl) fun z6a hz6a=>?_
 refine nrm ?_
 refine Ad<|h1d _ _ ?_
 rcases bft z6a with e2a | e2a
 ·have p0h:=zP hz6a e2a
  have f32:=ifP p0h hr
  refine wp_cond_true (Ak (evb rfl e2a))<|wp_seq_k fun K2d h2d=>Ag<|sV (An Bj rfl (q8.ext E0a) rfl) ?_
  refine As Dq rfl rfl q5b rfl rfl rfl rfl (by simp only [SP0,SP1,S0,S1,Nat.reduceAdd];rfl) fun w3 U1h q2h=>?_
  have F3h:=Bf E0a U1h g5a
  have X3d:=xtr E6 F3h
  refine Ad<|h2d _ _<|wp_ret ?_
  obtain rfl:=sj f32
  exact fin rfl (Res.cellN rfl Bj q2h rfl rfl Res.nil) (Al X3d ⟨A1,c2,rfl,(n3.ext X3d)⟩)
 ·have p4h:=zN hz6a e2a
  have f5h:=ifN p4h hr
  refine wp_cond_false (Ak (evb rfl e2a))<|wp_skip<|h0d _ _<|wp_seq_k fun K4d h4d=>Ag<|sV (Aa rfl) ?_
  refine sV (Iz (c:=wi64 (2*x1)) rfl rfl rfl) ?_
  refine sV (AN (c:=wi64 ((wi64 (2*x1))+2)) rfl rfl rfl) ?_
  refine sV (Ac rfl) ?_
  refine Ad<|h4d _ _<|wp_seq_k fun K5d h5d=>wp_seq_k fun K6d h6d=>Ag<|sV (Af (o':=2) Ek rfl rfl) ?_
  refine sV (Ah Fl rfl (Bx.cell (q8.ext E0a) rfl)) ?_
  refine sV (Aa rfl) ?_
  refine sV (Bq (c:=wi64 (x0.Exp - (wi64 ((wi64 (2*x1))+2)))) rfl rfl rfl) ?_
  refine sV (Ip (c:=(wi64 (x0.Exp - (wi64 ((wi64 (2*x1))+2)))).tmod 2) (by decide) rfl rfl rfl) ?_
  refine sb (Ig rfl rfl) fun z7a hz7a=>?_
  refine nrm ?_
  refine Ad<|h6d _ _ ?_
  obtain ⟨m1a,h7d,f6h⟩:=Ab f5h
  refine BM (fun l l' w'=>∃(t8d:Value) (t9d:Value),w2=w'∧l'=(((l.set 7 (.int .i64 m1a)).set 25 t8d).set 26 t9d)) ?_ ?_
  ·rcases bft z7a with e3a | e3a
   ·have p7h:=zP hz7a e3a
    have f8h:=ifP p7h h7d
    refine wp_cond_true (Ak (evb rfl e3a))<|Ag<|sV (Aa rfl) ?_
    refine sV (AN (c:=wi64 ((wi64 ((wi64 (2*x1))+2))+1)) rfl rfl rfl) ?_
    refine sV (Ac rfl) ?_
    refine Ad ?_
    obtain rfl:=sj f8h
    exact ⟨_,rfl,(.int .i64 (wi64 ((wi64 (2*x1))+2))),(.int .i64 (wi64 ((wi64 ((wi64 (2*x1))+2))+1))),rfl,(by simp only [S0,S1]<;>rfl)⟩
   ·have p9h:=zN hz7a e3a
    have f0i:=ifN p9h h7d
    refine wp_cond_false (Ak (evb rfl e3a))<|wp_skip ?_
    obtain rfl:=sj f0i
    exact ⟨_,rfl,uu,uu,rfl,(by simp only [S0,S1]<;>rfl)⟩
  ·rintro l' _ ⟨t8d,t9d,rfl,hq'⟩ l'' hl
   rw [hq'] at hl
   clear hq'
   simp only [S0,S1] at hl
   subst hl
   refine h5d _ _<|wp_seq_k fun K0e h0e=>Ag<|sV (Af (o':=0) DC rfl rfl) ?_
   refine sV (Af (o':=1) Bo rfl rfl) ?_
   refine sV (Ah BN rfl (Bx.cell (q8.ext E0a) rfl)) ?_
   refine sV (Aa rfl) ?_
   obtain ⟨r1e,h1i,f2i⟩:=Ab f6h
   refine sc (Ae HA (by rfl)) (BJ x0.Man.Abs m1a A1 c2 w2 (tbx X6b hT) (n3.ext X6b) r1e h1i) ?_
   rintro _ w3 E7b ⟨A3i,c4i,rfl,n5i⟩
   refine nrm ?_
   have X2e:=xtr X6b E7b
   obtain ⟨r3e,h6i,f7i⟩:=Ab f2i
   refine sc (Ae en_188 (by rfl)) (c_sorobanref01_Root r1e 2 A3i c4i w3 (tbx X2e hT) n5i r3e h6i) ?_
   rintro _ w4 E8b ⟨A8i,c9i,A2n,c3n,rfl,n0j,n4n⟩
   refine nrm ?_
   have X4e:=xtr X2e E8b
   refine Ax IM fun b5n w5 E1j g5e q2j=>?_
   refine nrm ?_
   have g6n:=nlt X4e.size g5e
   refine As Hz rfl rfl q2j rfl rfl rfl rfl (by simp only [SP0,SP1,S0,S1,Nat.reduceAdd];rfl) fun w6 U3j q6e=>?_
   have F8a:=Bf E1j U3j g5e
   have X7e:=xtr X4e F8a
   refine Ad<|h0e _ _<|wp_seq_k fun K8e h8e=>Ag<|sV (Af (o':=0) IA rfl rfl) ?_
   refine sV (Ah BN rfl (Bx.cell q6e rfl)) ?_
   obtain ⟨r9b,h4j,f5j⟩:=Ab f7i
   refine sc (Ae HA (by rfl)) (BJ r3e.Q 1 A8i c9i w6 (tbx X7e hT) (n0j.ext F8a) r9b h4j) ?_
   rintro _ w7 E9a ⟨A0c,c1c,rfl,n9e⟩
   refine nrm ?_
   have X0b:=xtr X7e E9a
   refine sV (Ac rfl) ?_
   refine Ad<|h8e _ _<|wp_seq_k fun K0f h0f=>wp_seq_k fun K1f h1f=>Ag<|sV (Af (o':=1) Jo rfl rfl) ?_
   refine sV (Ah BN rfl (Bx.cell (q6e.ext E9a) rfl)) ?_
   refine sV (AH AD rfl) ?_
   refine sb (Eh rfl rfl) fun z1b hz1b=>?_
   refine nrm ?_
   refine Ad<|h1f _ _ ?_
   obtain ⟨m2c,h2f,f6j⟩:=Ab f5j
   refine BM (fun l l' w'=>∃(A2b:Option Addr) (c3b:Nat) (t3f:Value) (t4f:Value) (t5f:Value),UpdS [] w7 w'∧RU w' A2b c3b m2c∧l'=((((l.set 9 (.slice A2b (sz m2c) c3b)).set 40 t3f).set 41 t4f).set 42 t5f)) ?_ ?_
   ·rcases bft z1b with e4a | e4a
    ·have p7j:=zP hz1b e4a
     have f8j:=ifP p7j h2f
     refine wp_cond_true (Ak (evb rfl e4a))<|Ag<|sV (Aa rfl) ?_
     obtain ⟨r3c,h9j,f0k⟩:=Ab f8j
     refine sc (Ae LH (by rfl)) (FZ w7 (tbx X0b hT)  r3c h9j) ?_
     rintro _ w8 E4c ⟨A6f,c7f,rfl,n1k⟩
     refine nrm ?_
     have X2k:=xtr X0b E4c
     obtain ⟨r8f,h3k,f4k⟩:=Ab f0k
     refine sc (Ae KK (by rfl)) (DQ r9b r3c A0c c1c A6f c7f w8 (tbx X2k hT) (n9e.ext E4c) n1k r8f h3k) ?_
     rintro _ w9 E5k ⟨A9f,c0g,rfl,n6k⟩
     refine nrm ?_
     refine sV (Ac rfl) ?_
     refine Ad ?_
     obtain rfl:=sj f4k
     exact ⟨_,rfl,A9f,c0g,(.slice A0c (sz r9b) c1c),(.slice A6f (sz r3c) c7f),(.slice A9f (sz r8f) c0g),(((UpdS.refl _ _).ext E4c).ext E5k),n6k,(by simp only [S0,S1]<;>rfl)⟩
    ·have p7k:=zN hz1b e4a
     have f8k:=ifN p7k h2f
     refine wp_cond_false (Ak (evb rfl e4a))<|wp_skip ?_
     obtain rfl:=sj f8k
     exact ⟨_,rfl,A0c,c1c,uu,uu,uu,(UpdS.refl _ _),n9e,(by simp only [S0,S1]<;>rfl)⟩
   ·rintro l' w8 ⟨A2b,c3b,t3f,t4f,t5f,U5c,n9k,hq'⟩ l'' hl
    rw [hq'] at hl
    clear hq'
    simp only [S0,S1] at hl
    subst hl
    have X0l:=GQ X0b U5c (X0b).size al0
    refine h0f _ _<|wp_seq_k fun K1g h1g=>DB [12] 13 mo rfl fun w9 E4b S2g=>have X3g:=xtr X0l E4b;dA 0 rfl (fun _=>Aa rfl) ?_
    refine dA 2 rfl (fun _=>Af (o':=2) Ek rfl rfl) ?_
    refine dV 3 rfl (fun _ hw=>Ah Fl rfl (Bx.cell ((((((((q8.ext E0a).ext E7b).ext E8b).ext F8a).ext E9a).updS U5c nm0).ext E4b).ext hw) rfl)) S2g ?_
    refine dA 4 rfl (fun _=>Aa rfl) ?_
    refine dA 5 rfl (fun _=>Bq (c:=wi64 (x0.Exp - m1a)) rfl rfl rfl) ?_
    refine dA 6 rfl (fun _=>Hc (c:=wi64 ((wi64 (x0.Exp - m1a)).tdiv 2)) (by decide) rfl rfl rfl) ?_
    refine dA 7 rfl (fun _=>Bq (c:=wi64 ((wi64 ((wi64 (x0.Exp - m1a)).tdiv 2)) - 1)) rfl rfl rfl) ?_
    refine dA 9 rfl (fun _=>Aa rfl) ?_
    refine dA 10 rfl (fun _=>Aa rfl) ?_
    obtain ⟨r4g,h1l,f2l⟩:=Ab f6j
    refine dc 1 rfl (by kernel_rfl) (by rfl) (Ae HP (by rfl)) (Bm false m2c A2b c3b w9 (tbx X3g hT) (n9k.ext E4b) r4g h1l) ?_
    rintro _ w0a E6c ⟨A3l,c4l,rfl,n5l⟩
    refine dnrm ?_
    have X5g:=xtr X3g E6c
    have S6l:=S2g.trans E6c
    obtain ⟨r6g,h7l,f8l⟩:=Ab f2l
    refine dc 8 rfl (by kernel_rfl) (by rfl) (Ae MR (by rfl)) (Gx r4g (wi64 ((wi64 ((wi64 (x0.Exp - m1a)).tdiv 2)) - 1)) A3l c4l w0a (tbx X5g hT) n5l r6g h7l) ?_
    rintro _ w5a E7c ⟨A9l,c0m,rfl,n1m⟩
    refine dnrm ?_
    have X7g:=xtr X5g E7c
    have S2m:=S6l.trans E7c
    obtain ⟨r3m,h4m,f5m⟩:=Ab f8l
    refine dc 11 rfl (by kernel_rfl) (by rfl) (Ae en_58 (by rfl)) (c_sorobanref04_Round r6g x1 x2 A9l c0m w5a (tbx X7g hT) n1m r3m h4m) ?_
    rintro _ w5b E8c ⟨A6m,c7m,rfl,n8m⟩
    refine dnrm ?_
    have X9m:=xtr X7g E8c
    have S7n:=S2m.trans E8c
    have q8g:=((((((((q5b.ext E7b).ext E8b).ext F8a).ext E9a).updS U5c nm0).ext E4b).ext E6c).ext E7c).ext E8c
    refine dk 12 rfl (by kernel_rfl) (by decide) (by rfl) Dq rfl rfl q8g rfl rfl rfl rfl (by simp only [SP0,SP1,S0,S1,Nat.reduceAdd];rfl) fun w9c U9g q0n=>?_
    have X1n:=Bf X9m U9g g9c
    refine Cv (by kernel_rfl) ?_
    refine h1g _ _<|wp_ret ?_
    obtain rfl:=sj f5m
    exact fin rfl (Res.cellN rfl Bj q0n rfl rfl Res.nil) (Al X1n ⟨A6m,c7m,rfl,(n8m.upd U9g q8g (by decide))⟩)
theorem c_sorobanref04_Root (x0:Am) (x1:Int) (A1:Option Addr) (c2:Nat) (A4:Option Addr) (c5:Nat) (w:World) (hT:TB w) (n3:RU w A1 c2 x0.Lo.Man.Abs) (n6:RU w A4 c5 x0.Hi.Man.Abs) (r:Am) (hr:ES x0 x1=some r) :
  Calls Tryz.prog 24 #[.agg #[.bool x0.Lo.Man.Neg,.slice A1 (sz x0.Lo.Man.Abs) c2,.int .i64 x0.Lo.Exp,.bool x0.Hi.Man.Neg,.slice A4 (sz x0.Hi.Man.Abs) c5,.int .i64 x0.Hi.Exp],.int .i64 x1] w (Ret JI w r):=by
 unfold ES at hr
 go_enter Tryz.func24,Tryz.ntmps24
 refine wp_seq_k fun K7 h7=>Ag<|BL rfl rfl fun b8 w1 E9 g6e q5b=>?_
 refine nrm ?_
 refine Ax FU fun b7e w2 E5a g3c q4c=>?_
 refine nrm ?_
 have g5c:=nlt E9.size g3c
 have X6a:=xtr E9 E5a
 refine Ad<|h7 _ _<|wp_seq_k fun K6b h6b=>Ag<|sV (Af (o':=0) FI rfl rfl) ?_
 refine sV (Aq Bj rfl (q5b.ext E5a) (by simp only [List.drop_zero,List.take_succ_cons,List.take_zero];rfl) rfl) ?_
 refine sV (Aa rfl) ?_
 obtain ⟨r0a,h6c,f7c⟩:=Ab hr
 refine sc (Ae NZ (by rfl)) (HQ x0.Lo x1 5 A1 c2 w2 (tbx X6a hT) (n3.ext X6a) r0a h6c) ?_
 rintro _ w3 E7a ⟨A8a,c9a,rfl,n8c⟩
 refine nrm ?_
 have X7b:=xtr X6a E7a
 refine Ax FH fun b8e w4 E9c g8b q0d=>?_
 refine nrm ?_
 have g9e:=nlt X7b.size g8b
 refine As Dq rfl rfl q0d rfl rfl rfl rfl (by simp only [SP0,SP1,S0,S1,Nat.reduceAdd];rfl) fun w5 U1d q2d=>?_
 have F3a:=Bf E9c U1d g8b
 have X0b:=xtr X7b F3a
 refine Ad<|h6b _ _<|wp_seq_k fun K9b h9b=>Ag<|sV (Af (o':=3) FY rfl rfl) ?_
 have q3d:=((q5b.ext E5a).ext E7a).ext F3a
 refine sV (Aq Bj rfl q3d (by simp only [List.drop_succ_cons,List.drop_zero,List.take_succ_cons,List.take_zero];rfl) rfl) ?_
 refine sV (Aa rfl) ?_
 obtain ⟨r1a,h4d,f5d⟩:=Ab f7c
 refine sc (Ae NZ (by rfl)) (HQ x0.Hi x1 4 A4 c5 w5 (tbx X0b hT) (n6.ext X0b) r1a h4d) ?_
 rintro _ w6 E4a ⟨A1b,c2b,rfl,n6d⟩
 refine nrm ?_
 have X0c:=xtr X0b E4a
 refine Ax FH fun b0f w7 E7d g1c q8d=>?_
 refine nrm ?_
 have g1f:=nlt X0c.size g1c
 refine As Dq rfl rfl q8d rfl rfl rfl rfl (by simp only [SP0,SP1,S0,S1,Nat.reduceAdd];rfl) fun w8 U9d q0e=>?_
 have F2a:=Bf E7d U9d g1c
 have X1e:=xtr X0c F2a
 refine Ad<|h9b _ _<|wp_seq_k fun K2c h2c=>Ag<|sV (An Bj rfl ((q2d.ext E4a).ext F2a) rfl) ?_
 refine sV (An Bj rfl q0e rfl) ?_
 refine sV (AV (vals:=[(0,.agg #[.bool r0a.Man.Neg,.slice A8a (sz r0a.Man.Abs) c9a,.int .i64 r0a.Exp]),(1,.agg #[.bool r1a.Man.Neg,.slice A1b (sz r1a.Man.Abs) c2b,.int .i64 r1a.Exp])]) (cells:=[.bool r0a.Man.Neg,.slice A8a (sz r0a.Man.Abs) c9a,.int .i64 r0a.Exp,.bool r1a.Man.Neg,.slice A1b (sz r1a.Man.Abs) c2b,.int .i64 r1a.Exp]) (by rfl) (by kernel_rfl)) ?_
 have q3b:=(((q4c.ext E7a).ext F3a).ext E4a).ext F2a
 refine As Fx rfl rfl q3b rfl rfl rfl rfl (by simp only [SP0,SP1,S0,S1,Nat.reduceAdd];rfl) fun w9 U4b q2e=>?_
 have X3e:=Bf X1e U4b g5c
 refine Ad<|h2c _ _<|wp_ret ?_
 have n4e:=(((n8c.ext F3a).ext E4a).ext F2a).upd U4b q3b (by decide)
 have n5e:=(n6d.ext F2a).upd U4b q3b (by decide)
 obtain rfl:=sj f5d
 exact fin rfl (Res.cellN rfl BK q2e rfl rfl Res.nil) (Al X3e ⟨A8a,c9a,A1b,c2b,rfl,n4e,n5e⟩)
theorem c_sorobanlaw04_DyadQuotients (x0:Au) (x1:Au) (x2:Int) (A1:Option Addr) (c2:Nat) (A4:Option Addr) (c5:Nat) (A7:Option Addr) (c8:Nat) (A2a:Option Addr) (c0a:Nat) (w:World) (hT:TB w) (n3:RLu w A1 c2 x0.Lo.Man.Abs) (n6:RLu w A4 c5 x0.Hi.Man.Abs) (n9:RLu w A7 c8 x1.Lo.Man.Abs) (n3c:RLu w A2a c0a x1.Hi.Man.Abs) (r:Bool) (hr:DM x0 x1 x2=some r) :
  Calls Tryz.prog 3 #[.agg #[.bool x0.Lo.Man.Neg,.slice A1 x0.Lo.Man.Abs.length c2,.int .i64 x0.Lo.Exp,.bool x0.Hi.Man.Neg,.slice A4 x0.Hi.Man.Abs.length c5,.int .i64 x0.Hi.Exp],.agg #[.bool x1.Lo.Man.Neg,.slice A7 x1.Lo.Man.Abs.length c8,.int .i64 x1.Lo.Exp,.bool x1.Hi.Man.Neg,.slice A2a x1.Hi.Man.Abs.length c0a,.int .i64 x1.Hi.Exp],.int .i64 x2] w (Ret Gl w r):=by
 unfold DM at hr
 go_enter Tryz.func3,Tryz.ntmps3
 refine wp_seq_k fun K4f h4f=>Ag<|BL rfl rfl fun b2j w1 E5f g3j q2b=>?_
 refine nrm ?_
 refine BL rfl rfl fun b5c w2 E3b g7h q6c=>?_
 refine nrm ?_
 have g4j:=nlt E5f.size g7h
 have X7c:=xtr E5f E3b
 refine sV (Ac rfl) ?_
 refine Ad<|h4f _ _<|wp_seq_k fun K6f h6f=>wp_seq_k fun K5j h5j=>Ag<|sV (An BK rfl (q2b.ext E3b) rfl) ?_
 obtain ⟨r2v,h3v,f4v⟩:=Ab hr
 refine sc (Ae Oj (by rfl)) (Ij x0 A1 c2 A4 c5 w2 (tbx X7c hT) (n3.ext X7c) (n6.ext X7c) r2v h3v) ?_
 rintro _ w3 E6a rfl
 refine nrm ?_
 have X7d:=xtr X7c E6a
 refine sb (GH rfl) fun z7f hz7f=>?_
 refine nrm ?_
 refine sV (Aa rfl) ?_
 obtain ⟨m6j,h7j,f5v⟩:=Ab f4v
 refine BR 8 (fun l l' w'=>∃(t8j:Value) (t9j:Value) (t0k:Value),UpdS [] w3 w'∧l'=((((l.set 19 t8j).set 20 t9j).set 21 t0k).set 22 (.bool m6j))) ?_ ?_
 ·intro HJ50
  rcases bft z7f with e7a | e7a
  ·have p6v:=zP hz7f e7a
   have f7v:=ifP p6v h7j
   refine sP ?_ (hw:=wgF rfl e7a)
   refine sP ?_ (hw:=wgF rfl e7a)
   refine sP ?_ (hw:=wgF rfl e7a)
   refine sV (Ay (evb rfl e7a) rfl) ?_
   obtain rfl:=sj f7v
   exact HJ50 _ _ ⟨uu,uu,uu,(UpdS.refl _ _),(by simp only [S0,S1]<;>rfl)⟩
  ·have p8v:=zN hz7f e7a
   have f9v:=ifN p8v h7j
   refine sV (An BK rfl (q6c.ext E6a) rfl) ?_ (hw:=wgT rfl e7a)
   obtain ⟨r8f,h0w,f1w⟩:=Ab f9v
   refine sc (Ae Oj (by rfl)) (Ij x1 A7 c8 A2a c0a w3 (tbx X7d hT) (n9.ext X7d) (n3c.ext X7d) r8f h0w) ?_ (hw:=wgT rfl e7a)
   rintro _ w4 E2w rfl
   refine nrm ?_
   refine sb (GH rfl) ?_ (hw:=wgT rfl e7a)
   intro z8h hz8h
   refine nrm ?_
   refine sV (AB (evb rfl e7a) rfl) ?_
   obtain rfl:z8h=decide (¬(r8f=true)):=bz hz8h
   obtain rfl:=sj f1w
   exact HJ50 _ _ ⟨(.agg #[.bool x1.Lo.Man.Neg,.slice A7 x1.Lo.Man.Abs.length c8,.int .i64 x1.Lo.Exp,.bool x1.Hi.Man.Neg,.slice A2a x1.Hi.Man.Abs.length c0a,.int .i64 x1.Hi.Exp]),(.bool r8f),(.bool (decide (¬(r8f=true)))),((UpdS.refl _ _).ext E2w),(by simp only [S0,S1]<;>rfl)⟩
 ·rintro l' w4 ⟨t8j,t9j,t0k,U8a,hq'⟩ l'' hl
  rw [hq'] at hl
  clear hq'
  simp only [S0,S1] at hl
  subst hl
  have X9f:=GQ X7d U8a (X7d).size al0
  refine sV (Aa rfl) ?_
  obtain ⟨m1k,h2k,f3k⟩:=Ab f5v
  refine BR 12 (fun l l' w'=>∃(t4k:Value) (t5k:Value),w4=w'∧l'=(((l.set 24 t4k).set 25 t5k).set 26 (.bool m1k))) ?_ ?_
  ·intro HJ75
   rcases bft m6j with e6b | e6b
   ·have p3w:=e6b
    have f4w:=ifP p3w h2k
    refine sP ?_ (hw:=wgF rfl e6b)
    refine sP ?_ (hw:=wgF rfl e6b)
    refine sV (Ay (evb rfl e6b) rfl) ?_
    obtain rfl:=sj f4w
    exact HJ75 _ _ ⟨uu,uu,rfl,(by simp only [S0,S1]<;>rfl)⟩
   ·have p5w:=bF e6b
    have f6w:=ifN p5w h2k
    refine sV (Aa rfl) ?_ (hw:=wgT rfl e6b)
    refine sb (Eh rfl rfl) ?_ (hw:=wgT rfl e6b)
    intro z9h hz9h
    refine nrm ?_
    refine sV (AB (evb rfl e6b) rfl) ?_
    obtain rfl:z9h=decide (500<x2):=bz hz9h
    obtain rfl:=sj f6w
    exact HJ75 _ _ ⟨(.int .i64 x2),(.bool (decide (500<x2))),rfl,(by simp only [S0,S1]<;>rfl)⟩
  ·rintro l' _ ⟨t4k,t5k,rfl,hq'⟩ l'' hl
   rw [hq'] at hl
   clear hq'
   simp only [S0,S1] at hl
   subst hl
   refine Ad<|h5j _ _ ?_
   rcases bft m1k with e8d | e8d
   ·have p7w:=e8d
    have f8w:=ifP p7w f3k
    refine wp_cond_true (Ak (evb rfl e8d))<|wp_seq_k fun K6k h6k=>Ag ?_
    obtain ⟨r9w,h0x,f1x⟩:=Ab f8w
    refine sc (Ae Ow (by rfl)) (Hs w4 (tbx X9f hT)  r9w h0x) ?_
    rintro _ w5 E2x rfl
    refine nrm ?_
    have X3x:=xtr X9f E2x
    refine sV (Ac rfl) ?_
    refine Ad<|h6k _ _<|wp_ret ?_
    obtain rfl:=sj f1x
    exact fin rfl (Res.tmp rfl Res.nil) (Al X3x rfl)
   ·have p4x:=bF e8d
    have f5x:=ifN p4x f3k
    refine wp_cond_false (Ak (evb rfl e8d))<|wp_skip<|h6f _ _<|wp_seq_k fun K7k h7k=>Ag<|sV (Aa rfl) ?_
    obtain ⟨r8k,h6x,f7x⟩:=Ab f5x
    refine sc (Ae en_16 (by rfl)) (c_sorobanlaw04_fine x2 w4 (tbx X9f hT)  r8k h6x) ?_
    rintro _ w5 E9a rfl
    refine nrm ?_
    have X9d:=xtr X9f E9a
    refine sV (Aa rfl) ?_
    obtain ⟨m0i,h9k,f8x⟩:=Ab f7x
    refine BR 6 (fun l l' w'=>∃(t0l:Value) (t1l:Value),UpdS [] w5 w'∧l'=(((l.set 31 t0l).set 32 t1l).set 33 (.bool m0i))) ?_ ?_
    ·intro HJ121
     rcases bft r8k with e7b | e7b
     ·have p9x:=e7b
      have f0y:=ifP p9x h9k
      have q1y:=(((q2b.ext E3b).ext E6a).updS U8a nm0).ext E9a
      refine sV (An BK rfl q1y rfl) ?_ (hw:=wgT rfl e7b)
      obtain ⟨r2l,h2y,f3y⟩:=Ab f0y
      refine sc (Ae Oy (by rfl)) (Hq x0 A1 c2 A4 c5 w5 (tbx X9d hT) (n3.ext X9d) (n6.ext X9d) r2l h2y) ?_ (hw:=wgT rfl e7b)
      rintro _ w6 E4y rfl
      refine nrm ?_
      refine sV (Ay (evb rfl e7b) rfl) ?_
      obtain rfl:=sj f3y
      exact HJ121 _ _ ⟨(.agg #[.bool x0.Lo.Man.Neg,.slice A1 x0.Lo.Man.Abs.length c2,.int .i64 x0.Lo.Exp,.bool x0.Hi.Man.Neg,.slice A4 x0.Hi.Man.Abs.length c5,.int .i64 x0.Hi.Exp]),(.bool r2l),((UpdS.refl _ _).ext E4y),(by simp only [S0,S1]<;>rfl)⟩
     ·have p5y:=bF e7b
      have f6y:=ifN p5y h9k
      refine sP ?_ (hw:=wgF rfl e7b)
      refine sP ?_ (hw:=wgF rfl e7b)
      refine sV (AB (evb rfl e7b) rfl) ?_
      obtain rfl:=sj f6y
      exact HJ121 _ _ ⟨uu,uu,(UpdS.refl _ _),(by simp only [S0,S1]<;>rfl)⟩
    ·rintro l' w6 ⟨t0l,t1l,U4b,hq'⟩ l'' hl
     rw [hq'] at hl
     clear hq'
     simp only [S0,S1] at hl
     subst hl
     have X0e:=GQ X9d U4b (X9d).size al0
     refine sV (Ac rfl) ?_
     refine Ad<|h7k _ _<|wp_seq_k fun K3l h3l=>Ag<|sV (Aa rfl) ?_
     refine sV (Aa rfl) ?_
     obtain ⟨m4l,h5l,f7y⟩:=Ab f8x
     refine BR 5 (fun l l' w'=>∃(t6l:Value) (t7l:Value),UpdS [] w6 w'∧l'=(((l.set 36 t6l).set 37 t7l).set 38 (.bool m4l))) ?_ ?_
     ·intro HJ152
      rcases bft m0i with e8b | e8b
      ·have p8y:=e8b
       have f9y:=ifP p8y h5l
       have q0z:=(((q6c.ext E6a).updS U8a nm0).ext E9a).updS U4b nm0
       refine sV (An BK rfl q0z rfl) ?_ (hw:=wgT rfl e8b)
       obtain ⟨r8l,h1z,f2z⟩:=Ab f9y
       refine sc (Ae Oy (by rfl)) (Hq x1 A7 c8 A2a c0a w6 (tbx X0e hT) (n9.ext X0e) (n3c.ext X0e) r8l h1z) ?_ (hw:=wgT rfl e8b)
       rintro _ w7 E3z rfl
       refine nrm ?_
       refine sV (Ay (evb rfl e8b) rfl) ?_
       obtain rfl:=sj f2z
       exact HJ152 _ _ ⟨(.agg #[.bool x1.Lo.Man.Neg,.slice A7 x1.Lo.Man.Abs.length c8,.int .i64 x1.Lo.Exp,.bool x1.Hi.Man.Neg,.slice A2a x1.Hi.Man.Abs.length c0a,.int .i64 x1.Hi.Exp]),(.bool r8l),((UpdS.refl _ _).ext E3z),(by simp only [S0,S1]<;>rfl)⟩
      ·have p4z:=bF e8b
       have f5z:=ifN p4z h5l
       refine sP ?_ (hw:=wgF rfl e8b)
       refine sP ?_ (hw:=wgF rfl e8b)
       refine sV (AB (evb rfl e8b) rfl) ?_
       obtain rfl:=sj f5z
       exact HJ152 _ _ ⟨uu,uu,(UpdS.refl _ _),(by simp only [S0,S1]<;>rfl)⟩
     ·rintro l' w7 ⟨t6l,t7l,U9b,hq'⟩ l'' hl
      rw [hq'] at hl
      clear hq'
      simp only [S0,S1] at hl
      subst hl
      have X9l:=GQ X0e U9b (X0e).size al0
      obtain ⟨r6z,h7z,f8z⟩:=Ab f7y
      refine sc (Ae OC (by rfl)) (Ib m4l w7 (tbx X9l hT)  r6z h7z) ?_
      rintro _ w8 E0c rfl
      refine nrm ?_
      have X0m:=xtr X9l E0c
      refine sV (Ac rfl) ?_
      refine Ad<|h3l _ _<|wp_seq_k fun K1m h1m=>Ag<|Ax FU fun b2m w9 E8c g1i q0g=>?_
      refine nrm ?_
      have g9z:=nlt X0m.size g1i
      have X3m:=xtr X0m E8c
      refine Ax FU fun b4m w2a E4c g1g q5m=>?_
      refine nrm ?_
      have g0a0:=nlt X3m.size g1g
      have X1e:=xtr X3m E4c
      refine Ad<|h1m _ _<|wp_seq_k fun K6m h6m=>wp_seq_k fun K7m h7m=>Ag<|sV (Aa rfl) ?_
      refine sb (BQ rfl rfl) fun z2g hz2g=>?_
      refine nrm ?_
      refine sV (Aa rfl) ?_
      obtain ⟨m8m,h9m,f1a0⟩:=Ab f8z
      refine BR 7 (fun l l' w'=>∃(t0n:Value) (t1n:Value) (t2n:Value),UpdS [] w2a w'∧l'=((((l.set 43 t0n).set 44 t1n).set 45 t2n).set 46 (.bool m8m))) ?_ ?_
      ·intro HJ215
       rcases bft z2g with e0b | e0b
       ·have p2a0:=zP hz2g e0b
        have f3a0:=ifP p2a0 h9m
        have q4a0:=(((((((q6c.ext E6a).updS U8a nm0).ext E9a).updS U4b nm0).updS U9b nm0).ext E0c).ext E8c).ext E4c
        refine sV (An BK rfl q4a0 rfl) ?_ (hw:=wgT rfl e0b)
        obtain ⟨m3n,h5a0,f6a0⟩:=Ab f3a0
        have hx4n:=Cu h5a0
        have n7a0:RU w2a A7 c8 m3n:=by unfold RU;rw [hx4n];exact (n9.ext X1e)
        obtain ⟨m5n,h8a0,f9a0⟩:=Ab f6a0
        have hx6n:=Cu h8a0
        have n0a1:RU w2a A2a c0a m5n:=by unfold RU;rw [hx6n];exact (n3c.ext X1e)
        obtain ⟨r3g,h1a1,f2a1⟩:=Ab f9a0
        refine sc (Ae en_19 (by simp only [sz,hx4n,hx6n];rfl)) (c_sorobanref04_Side (⟨(⟨(⟨x1.Lo.Man.Neg,m3n⟩:Ai),x1.Lo.Exp⟩:Aj),(⟨(⟨x1.Hi.Man.Neg,m5n⟩:Ai),x1.Hi.Exp⟩:Aj)⟩:Am) A7 c8 A2a c0a w2a (tbx X1e hT) n7a0 n0a1 r3g h1a1) ?_ (hw:=wgT rfl e0b)
        rintro _ w0a E3a1 rfl
        refine nrm ?_
        refine sb (BQ rfl rfl) ?_ (hw:=wgT rfl e0b)
        intro z2i hz2i
        refine nrm ?_
        refine sV (Ay (evb rfl e0b) rfl) ?_
        obtain rfl:z2i=decide (r3g=0):=bz hz2i
        obtain rfl:=sj f2a1
        exact HJ215 _ _ ⟨(.agg #[.bool x1.Lo.Man.Neg,.slice A7 x1.Lo.Man.Abs.length c8,.int .i64 x1.Lo.Exp,.bool x1.Hi.Man.Neg,.slice A2a x1.Hi.Man.Abs.length c0a,.int .i64 x1.Hi.Exp]),(.int .i64 r3g),(.bool (decide (r3g=0))),((UpdS.refl _ _).ext E3a1),(by simp only [S0,S1]<;>rfl)⟩
       ·have p4a1:=zN hz2g e0b
        have f5a1:=ifN p4a1 h9m
        refine sP ?_ (hw:=wgF rfl e0b)
        refine sP ?_ (hw:=wgF rfl e0b)
        refine sP ?_ (hw:=wgF rfl e0b)
        refine sV (AB (evb rfl e0b) rfl) ?_
        obtain rfl:=sj f5a1
        exact HJ215 _ _ ⟨uu,uu,uu,(UpdS.refl _ _),(by simp only [S0,S1]<;>rfl)⟩
      ·rintro l' w0a ⟨t0n,t1n,t2n,U1c,hq'⟩ l'' hl
       rw [hq'] at hl
       clear hq'
       simp only [S0,S1] at hl
       subst hl
       have X9c:=GQ X1e U1c (X1e).size al0
       refine Ad<|h7m _ _ ?_
       obtain ⟨m7n,h8n,f6a1⟩:=Ab f1a0
       refine BM (fun l l' w'=>w0a=w'∧l'=(l.set 8 (.int .i64 m7n))) ?_ ?_
       ·rcases bft m8m with e2e | e2e
        ·have p7a1:=e2e
         have f8a1:=ifP p7a1 h8n
         refine wp_cond_true (Ak (evb rfl e2e))<|Ag<|sV (Ac rfl) ?_
         refine Ad ?_
         obtain rfl:=sj f8a1
         exact ⟨_,rfl,rfl,(by simp only [S0,S1]<;>rfl)⟩
        ·have p9a1:=bF e2e
         have f0a2:=ifN p9a1 h8n
         refine wp_cond_false (Ak (evb rfl e2e))<|wp_skip ?_
         obtain rfl:=sj f0a2
         exact ⟨_,rfl,rfl,(by simp only [S0,S1]<;>rfl)⟩
       ·rintro l' _ ⟨rfl,hq'⟩ l'' hl
        rw [hq'] at hl
        clear hq'
        simp only [S0,S1] at hl
        subst hl
        refine h6m _ _<|wp_seq_k fun K9n h9n=>wp_seq_k fun K0o h0o=>Ag<|sV (Aa rfl) ?_
        refine sb (BQ rfl rfl) fun z4g hz4g=>?_
        refine nrm ?_
        refine Ad<|h0o _ _ ?_
        obtain ⟨m4a,h1o,f1a2⟩:=Ab f6a1
        refine BM (fun l l' w'=>∃(t2o:Value) (t3o:Value) (t4o:Value) (t5o:Value) (A5g:Option Addr) (c6g:Nat) (A7g:Option Addr) (c8g:Nat),UpdS [b2m] w0a w'∧Bx w' b2m 29 [.bool m4a.1,.slice A5g (sz m4a.2.1) c6g,.int .i64 m4a.2.2.1,.bool m4a.2.2.2.1,.slice A7g (sz m4a.2.2.2.2.1) c8g,.int .i64 m4a.2.2.2.2.2]∧RU w' A5g c6g m4a.2.1∧RU w' A7g c8g m4a.2.2.2.2.1∧l'=((((l.set 49 t2o).set 50 t3o).set 51 t4o).set 52 t5o)) ?_ ?_
        ·rcases bft z4g with e3e | e3e
         ·have p2a2:=zP hz4g e3e
          have f3a2:=ifP p2a2 h1o
          refine wp_cond_true (Ak (evb rfl e3e))<|Ag<|have q4a2:=(((((((((q2b.ext E3b).ext E6a).updS U8a nm0).ext E9a).updS U4b nm0).updS U9b nm0).ext E0c).ext E8c).ext E4c).updS U1c nm0;sV (An BK rfl q4a2 rfl) ?_
          have q5a2:=((((((((q6c.ext E6a).updS U8a nm0).ext E9a).updS U4b nm0).updS U9b nm0).ext E0c).ext E8c).ext E4c).updS U1c nm0
          refine sV (An BK rfl q5a2 rfl) ?_
          refine sV (Aa rfl) ?_
          obtain ⟨m6o,h6a2,f7a2⟩:=Ab f3a2
          have hx7o:=Cu h6a2
          have n8a2:RU w0a A1 c2 m6o:=by unfold RU;rw [hx7o];exact (n3.ext X9c)
          obtain ⟨m8o,h9a2,f0a3⟩:=Ab f7a2
          have hx9o:=Cu h9a2
          have n1a3:RU w0a A4 c5 m8o:=by unfold RU;rw [hx9o];exact (n6.ext X9c)
          obtain ⟨m0p,h2a3,f3a3⟩:=Ab f0a3
          have hx1p:=Cu h2a3
          have n4a3:RU w0a A7 c8 m0p:=by unfold RU;rw [hx1p];exact (n9.ext X9c)
          obtain ⟨m2p,h5a3,f6a3⟩:=Ab f3a3
          have hx3p:=Cu h5a3
          have n7a3:RU w0a A2a c0a m2p:=by unfold RU;rw [hx3p];exact (n3c.ext X9c)
          obtain ⟨r0d,h8a3,f9a3⟩:=Ab f6a3
          refine sc (Ae en_20 (by simp only [sz,hx7o,hx9o,hx1p,hx3p];rfl)) (c_sorobanref04_Over (⟨(⟨(⟨x0.Lo.Man.Neg,m6o⟩:Ai),x0.Lo.Exp⟩:Aj),(⟨(⟨x0.Hi.Man.Neg,m8o⟩:Ai),x0.Hi.Exp⟩:Aj)⟩:Am) (⟨(⟨(⟨x1.Lo.Man.Neg,m0p⟩:Ai),x1.Lo.Exp⟩:Aj),(⟨(⟨x1.Hi.Man.Neg,m2p⟩:Ai),x1.Hi.Exp⟩:Aj)⟩:Am) x2 A1 c2 A4 c5 A7 c8 A2a c0a w0a (tbx X9c hT) n8a2 n1a3 n4a3 n7a3 r0d h8a3) ?_
          rintro _ w3c E4p ⟨A5p,c6p,A7p,c8p,rfl,n0a4,n1a4⟩
          refine nrm ?_
          have q3i:=((q0g.ext E4c).updS U1c nm0).ext E4p
          refine As Fx rfl rfl q3i rfl rfl rfl rfl (by simp only [SP0,SP1,S0,S1,Nat.reduceAdd];rfl) fun w4f U4i q2a4=>?_
          refine Ad ?_
          obtain rfl:=sj f9a3
          exact ⟨_,rfl,(.agg #[.bool x0.Lo.Man.Neg,.slice A1 x0.Lo.Man.Abs.length c2,.int .i64 x0.Lo.Exp,.bool x0.Hi.Man.Neg,.slice A4 x0.Hi.Man.Abs.length c5,.int .i64 x0.Hi.Exp]),(.agg #[.bool x1.Lo.Man.Neg,.slice A7 x1.Lo.Man.Abs.length c8,.int .i64 x1.Lo.Exp,.bool x1.Hi.Man.Neg,.slice A2a x1.Hi.Man.Abs.length c0a,.int .i64 x1.Hi.Exp]),(.int .i64 x2),(.agg #[.bool r0d.Lo.Man.Neg,.slice A5p (sz r0d.Lo.Man.Abs) c6p,.int .i64 r0d.Lo.Exp,.bool r0d.Hi.Man.Neg,.slice A7p (sz r0d.Hi.Man.Abs) c8p,.int .i64 r0d.Hi.Exp]),A5p,c6p,A7p,c8p,(((UpdS.refl _ _).ext E4p).upd U4i (.inl im0)),q2a4,(n0a4.upd U4i q3i (by decide)),(n1a4.upd U4i q3i (by decide)),(by simp only [S0,S1]<;>rfl)⟩
         ·have p3a4:=zN hz4g e3e
          have f4a4:=ifN p3a4 h1o
          refine wp_cond_false (Ak (evb rfl e3e))<|wp_skip ?_
          obtain rfl:=sj f4a4
          exact ⟨_,rfl,uu,uu,uu,uu,none,0,none,0,(UpdS.refl _ _),((q0g.ext E4c).updS U1c nm0),(RU.nil _),(RU.nil _),(by simp only [S0,S1]<;>rfl)⟩
        ·rintro l' w3c ⟨t2o,t3o,t4o,t5o,A5g,c6g,A7g,c8g,U4e,q5a4,n6a4,n7a4,hq'⟩ l'' hl
         rw [hq'] at hl
         clear hq'
         simp only [S0,S1] at hl
         subst hl
         have X3d:=GQ X9c U4e (X9c).size (alc g9z al0)
         refine h9n _ _<|wp_seq_k fun K9p h9p=>Ag<|have ne8a4:=(Bx.ne (((((((q2b.ext E3b).ext E6a).updS U8a nm0).ext E9a).updS U4b nm0).updS U9b nm0).ext E0c) g1i);have q9g:=((((((((((q2b.ext E3b).ext E6a).updS U8a nm0).ext E9a).updS U4b nm0).updS U9b nm0).ext E0c).ext E8c).ext E4c).updS U1c nm0).updS U4e (nmc ne8a4 nm0);sV (An BK rfl q9g rfl) ?_
         have ne9a4:=(Bx.ne ((((((q6c.ext E6a).updS U8a nm0).ext E9a).updS U4b nm0).updS U9b nm0).ext E0c) g1i)
         have q0a5:=(((((((((q6c.ext E6a).updS U8a nm0).ext E9a).updS U4b nm0).updS U9b nm0).ext E0c).ext E8c).ext E4c).updS U1c nm0).updS U4e (nmc ne9a4 nm0)
         refine sV (An BK rfl q0a5 rfl) ?_
         refine sV (Aa rfl) ?_
         obtain ⟨r5i,h1a5,f2a5⟩:=Ab f1a2
         refine sc (Ae NP (by rfl)) (Ji x0 x1 x2 A1 c2 A4 c5 A7 c8 A2a c0a w3c (tbx X3d hT) (n3.ext X3d) (n6.ext X3d) (n9.ext X3d) (n3c.ext X3d) r5i h1a5) ?_
         rintro _ w4f E2c ⟨A3a5,c4a5,A5a5,c6a5,rfl,n7a5,n8a5⟩
         refine nrm ?_
         have X0q:=xtr X3d E2c
         refine sV (Aa rfl) ?_
         refine sV (AW rfl rfl) ?_
         refine sV (AW rfl rfl) ?_
         refine Ax FU fun b8ad w2j E9a5 g1q q0a6=>?_
         refine nrm ?_
         have g9ad:=nlt X0q.size g1q
         refine As Fx rfl rfl q0a6 rfl rfl rfl rfl (by simp only [SP0,SP1,S0,S1,Nat.reduceAdd];rfl) fun w5f U1a6 q2a6=>?_
         have F1b:=Bf E9a5 U1a6 g1q
         have X2q:=xtr X0q F1b
         refine sV (Ac rfl) ?_
         refine Ad<|h9p _ _<|wp_seq_k fun K3q h3q=>wp_seq_k fun K4q h4q=>Ag<|sV (An BK rfl q2a6 rfl) ?_
         refine sV (Aa rfl) ?_
         refine sV (Aa rfl) ?_
         refine sV (An BK rfl ((q5a4.ext E2c).ext F1b) rfl) ?_
         obtain ⟨r3a6,h4a6,f5q⟩:=Ab f2a5
         refine sc (Ae Om (by rfl)) (GM r5i.1 r5i.2 m7n (⟨(⟨(⟨m4a.1,m4a.2.1⟩:Ai),m4a.2.2.1⟩:Aj),(⟨(⟨m4a.2.2.2.1,m4a.2.2.2.2.1⟩:Ai),m4a.2.2.2.2.2⟩:Aj)⟩:Am) A3a5 c4a5 A5a5 c6a5 A5g c6g A7g c8g w5f (tbx X2q hT) (n7a5.ext F1b) (n8a5.ext F1b) ((n6a4.ext E2c).ext F1b) ((n7a4.ext E2c).ext F1b) r3a6 h4a6) ?_
         rintro _ w3j E4d rfl
         refine nrm ?_
         have X6i:=xtr X2q E4d
         refine sb (GH rfl) fun z0h hz0h=>?_
         refine nrm ?_
         refine Ad<|h4q _ _ ?_
         rcases bft z0h with e5e | e5e
         ·have p5a6:=zP hz0h e5e
          have f6a6:=ifP p5a6 f5q
          refine wp_cond_true (Ak (evb rfl e5e))<|wp_seq_k fun K6q h6q=>Ag<|sV (Ac rfl) ?_
          refine Ad<|h6q _ _<|wp_ret ?_
          obtain rfl:=sj f6a6
          exact fin rfl (Res.tmp rfl Res.nil) (Al X6i rfl)
         ·have p7a6:=zN hz0h e5e
          have f8a6:=ifN p7a6 f5q
          refine wp_cond_false (Ak (evb rfl e5e))<|wp_skip<|h3q _ _<|wp_seq_k fun K7q h7q=>Ag<|sV (Aa rfl) ?_
          obtain ⟨r9a6,h0a7,f1a7⟩:=Ab f8a6
          refine sc (Ae OC (by rfl)) (Ib m0i w3j (tbx X6i hT)  r9a6 h0a7) ?_
          rintro _ w2b E5d rfl
          refine nrm ?_
          have X1h:=xtr X6i E5d
          refine sV (Ac rfl) ?_
          refine Ad<|h7q _ _<|wp_seq_k fun K8q h8q=>wp_seq_k fun K9q h9q=>Ag<|sV (Aa rfl) ?_
          refine sb (BQ rfl rfl) fun z2h hz2h=>?_
          refine nrm ?_
          refine sV (Aa rfl) ?_
          obtain ⟨m0r,h1r,f2a7⟩:=Ab f1a7
          refine BR 8 (fun l l' w'=>∃(t2r:Value) (t3r:Value) (t4r:Value) (t5r:Value),UpdS [] w2b w'∧l'=(((((l.set 71 t2r).set 72 t3r).set 73 t4r).set 74 t5r).set 75 (.bool m0r))) ?_ ?_
          ·intro HJ437
           rcases bft z2h with e5a | e5a
           ·have p3a7:=zP hz2h e5a
            have f4a7:=ifP p3a7 h1r
            refine sV (Af (o':=0) FI rfl rfl) ?_ (hw:=wgT rfl e5a)
            have q5a7:=(((q9g.ext E2c).ext F1b).ext E4d).ext E5d
            refine sV (Aq Bj rfl q5a7 (by simp only [List.drop_zero,List.take_succ_cons,List.take_zero];rfl) rfl) ?_ (hw:=wgT rfl e5a)
            obtain ⟨m6r,h6a7,f7a7⟩:=Ab f4a7
            have hx7r:=Cu h6a7
            have n8a7:RU w2b A1 c2 m6r:=by unfold RU;rw [hx7r];exact (n3.ext X1h)
            obtain ⟨r3h,h9a7,f0a8⟩:=Ab f7a7
            refine sc (Ae MN (by simp only [sz,hx7r];rfl)) (FJ (⟨(⟨x0.Lo.Man.Neg,m6r⟩:Ai),x0.Lo.Exp⟩:Aj) A1 c2 w2b (tbx X1h hT) n8a7 r3h h9a7) ?_ (hw:=wgT rfl e5a)
            rintro _ w5c E1a8 rfl
            refine nrm ?_
            refine sb (Cz rfl rfl) ?_ (hw:=wgT rfl e5a)
            intro z7i hz7i
            refine nrm ?_
            refine sV (Ay (evb rfl e5a) rfl) ?_
            obtain rfl:z7i=decide (r3h<0):=bz hz7i
            obtain rfl:=sj f0a8
            exact HJ437 _ _ ⟨(.pointer (some ⟨b2j,0,none⟩)),(.agg #[.bool x0.Lo.Man.Neg,.slice A1 x0.Lo.Man.Abs.length c2,.int .i64 x0.Lo.Exp]),(.int .i64 r3h),(.bool (decide (r3h<0))),((UpdS.refl _ _).ext E1a8),(by simp only [S0,S1]<;>rfl)⟩
           ·have p2a8:=zN hz2h e5a
            have f3a8:=ifN p2a8 h1r
            refine sP ?_ (hw:=wgF rfl e5a)
            refine sP ?_ (hw:=wgF rfl e5a)
            refine sP ?_ (hw:=wgF rfl e5a)
            refine sP ?_ (hw:=wgF rfl e5a)
            refine sV (AB (evb rfl e5a) rfl) ?_
            obtain rfl:=sj f3a8
            exact HJ437 _ _ ⟨uu,uu,uu,uu,(UpdS.refl _ _),(by simp only [S0,S1]<;>rfl)⟩
          ·rintro l' w5c ⟨t2r,t3r,t4r,t5r,U6e,hq'⟩ l'' hl
           rw [hq'] at hl
           clear hq'
           simp only [S0,S1] at hl
           subst hl
           have X7e:=GQ X1h U6e (X1h).size al0
           refine Ad<|h9q _ _ ?_
           obtain ⟨m8i,h8r,f4a8⟩:=Ab f2a7
           refine BM (fun l l' w'=>w5c=w'∧l'=(l.set 8 (.int .i64 m8i))) ?_ ?_
           ·rcases bft m0r with e8e | e8e
            ·have p5a8:=e8e
             have f6a8:=ifP p5a8 h8r
             refine wp_cond_true (Ak (evb rfl e8e))<|Ag<|sV (Ac rfl) ?_
             refine Ad ?_
             obtain rfl:=sj f6a8
             exact ⟨_,rfl,rfl,(by simp only [S0,S1]<;>rfl)⟩
            ·have p7a8:=bF e8e
             have f8a8:=ifN p7a8 h8r
             refine wp_cond_false (Ak (evb rfl e8e))<|wp_skip ?_
             obtain rfl:=sj f8a8
             exact ⟨_,rfl,rfl,(by simp only [S0,S1]<;>rfl)⟩
           ·rintro l' _ ⟨rfl,hq'⟩ l'' hl
            rw [hq'] at hl
            clear hq'
            simp only [S0,S1] at hl
            subst hl
            refine h8q _ _<|wp_seq_k fun K9r h9r=>wp_seq_k fun K0s h0s=>Ag<|sV (Aa rfl) ?_
            refine sb (BQ rfl rfl) fun z4h hz4h=>?_
            refine nrm ?_
            refine Ad<|h0s _ _ ?_
            obtain ⟨m1a,h1s,f9a8⟩:=Ab f4a8
            refine BM (fun l l' w'=>∃(t2s:Value) (t3s:Value) (t4s:Value) (A9e:Option Addr) (c0f:Nat) (A1f:Option Addr) (c2f:Nat),UpdS [b4m] w5c w'∧Bx w' b4m 29 [.bool m1a.1,.slice A9e (sz m1a.2.1) c0f,.int .i64 m1a.2.2.1,.bool m1a.2.2.2.1,.slice A1f (sz m1a.2.2.2.2.1) c2f,.int .i64 m1a.2.2.2.2.2]∧RU w' A9e c0f m1a.2.1∧RU w' A1f c2f m1a.2.2.2.2.1∧l'=(((l.set 78 t2s).set 79 t3s).set 80 t4s)) ?_ ?_
            ·rcases bft z4h with e3f | e3f
             ·have p0a9:=zP hz4h e3f
              have f1a9:=ifP p0a9 h1s
              refine wp_cond_true (Ak (evb rfl e3f))<|Ag<|have q2a9:=((((q9g.ext E2c).ext F1b).ext E4d).ext E5d).updS U6e nm0;sV (An BK rfl q2a9 rfl) ?_
              refine sV (Aa rfl) ?_
              obtain ⟨m5s,h3a9,f4a9⟩:=Ab f1a9
              have hx6s:=Cu h3a9
              have n5a9:RU w5c A1 c2 m5s:=by unfold RU;rw [hx6s];exact (n3.ext X7e)
              obtain ⟨m7s,h6a9,f7a9⟩:=Ab f4a9
              have hx8s:=Cu h6a9
              have n8a9:RU w5c A4 c5 m7s:=by unfold RU;rw [hx8s];exact (n6.ext X7e)
              obtain ⟨r1d,h9a9,f0aa⟩:=Ab f7a9
              refine sc (Ae en_24 (by simp only [sz,hx6s,hx8s];rfl)) (c_sorobanref04_Root (⟨(⟨(⟨x0.Lo.Man.Neg,m5s⟩:Ai),x0.Lo.Exp⟩:Aj),(⟨(⟨x0.Hi.Man.Neg,m7s⟩:Ai),x0.Hi.Exp⟩:Aj)⟩:Am) x2 A1 c2 A4 c5 w5c (tbx X7e hT) n5a9 n8a9 r1d h9a9) ?_
              rintro _ w3b E9s ⟨A0t,c1t,A2t,c3t,rfl,n1aa,n2aa⟩
              refine nrm ?_
              have ne3aa:=(Bx.ne q0g g1g).symm
              have q9i:=(((((((q5m.updS U1c nm0).updS U4e (nmc ne3aa nm0)).ext E2c).ext F1b).ext E4d).ext E5d).updS U6e nm0).ext E9s
              refine As Fx rfl rfl q9i rfl rfl rfl rfl (by simp only [SP0,SP1,S0,S1,Nat.reduceAdd];rfl) fun w7h U0j q4aa=>?_
              refine Ad ?_
              obtain rfl:=sj f0aa
              exact ⟨_,rfl,(.agg #[.bool x0.Lo.Man.Neg,.slice A1 x0.Lo.Man.Abs.length c2,.int .i64 x0.Lo.Exp,.bool x0.Hi.Man.Neg,.slice A4 x0.Hi.Man.Abs.length c5,.int .i64 x0.Hi.Exp]),(.int .i64 x2),(.agg #[.bool r1d.Lo.Man.Neg,.slice A0t (sz r1d.Lo.Man.Abs) c1t,.int .i64 r1d.Lo.Exp,.bool r1d.Hi.Man.Neg,.slice A2t (sz r1d.Hi.Man.Abs) c3t,.int .i64 r1d.Hi.Exp]),A0t,c1t,A2t,c3t,(((UpdS.refl _ _).ext E9s).upd U0j (.inl im0)),q4aa,(n1aa.upd U0j q9i (by decide)),(n2aa.upd U0j q9i (by decide)),(by simp only [S0,S1]<;>rfl)⟩
             ·have p5aa:=zN hz4h e3f
              have f6aa:=ifN p5aa h1s
              refine wp_cond_false (Ak (evb rfl e3f))<|wp_skip ?_
              have ne7aa:=(Bx.ne q0g g1g).symm
              have q8aa:=((((((q5m.updS U1c nm0).updS U4e (nmc ne7aa nm0)).ext E2c).ext F1b).ext E4d).ext E5d).updS U6e nm0
              obtain rfl:=sj f6aa
              exact ⟨_,rfl,uu,uu,uu,none,0,none,0,(UpdS.refl _ _),q8aa,(RU.nil _),(RU.nil _),(by simp only [S0,S1]<;>rfl)⟩
            ·rintro l' w3b ⟨t2s,t3s,t4s,A9e,c0f,A1f,c2f,U4t,q9aa,n0ab,n1ab,hq'⟩ l'' hl
             rw [hq'] at hl
             clear hq'
             simp only [S0,S1] at hl
             subst hl
             have X5h:=GQ X7e U4t (X7e).size (alc g0a0 al0)
             refine h9r _ _<|wp_seq_k fun K5t h5t=>Ag<|have ne2ab:=(Bx.ne ((((((((q2b.ext E3b).ext E6a).updS U8a nm0).ext E9a).updS U4b nm0).updS U9b nm0).ext E0c).ext E8c) g1g);have q3ab:=(((((q9g.ext E2c).ext F1b).ext E4d).ext E5d).updS U6e nm0).updS U4t (nmc ne2ab nm0);sV (An BK rfl q3ab rfl) ?_
             refine sV (Aa rfl) ?_
             obtain ⟨r5b,h4ab,f5ab⟩:=Ab f9a8
             refine sc (Ae Oz (by rfl)) (Km x0 x2 A1 c2 A4 c5 w3b (tbx X5h hT) (n3.ext X5h) (n6.ext X5h) r5b h4ab) ?_
             rintro _ w7h E6h ⟨A6t,c7t,A8t,c9t,rfl,n6ab,n7ab⟩
             refine nrm ?_
             have X0u:=xtr X5h E6h
             refine sV (Aa rfl) ?_
             refine sV (AW rfl rfl) ?_
             refine sV (AW rfl rfl) ?_
             refine Ax FU fun b0ae w6c E8ab g1u q9ab=>?_
             refine nrm ?_
             have g1ae:=nlt X0u.size g1u
             refine As Fx rfl rfl q9ab rfl rfl rfl rfl (by simp only [SP0,SP1,S0,S1,Nat.reduceAdd];rfl) fun w4j U0ac q1ac=>?_
             have F6d:=Bf E8ab U0ac g1u
             have X2u:=xtr X0u F6d
             refine sV (Ac rfl) ?_
             refine Ad<|h5t _ _<|wp_seq_k fun K3u h3u=>Ag ?_
             obtain ⟨r4u,h2ac,f3ac⟩:=Ab f5ab
             refine sc (Ae Ow (by rfl)) (Hs w4j (tbx X2u hT)  r4u h2ac) ?_
             rintro _ w7c E2d rfl
             refine nrm ?_
             have X1j:=xtr X2u E2d
             refine sV (Aa rfl) ?_
             obtain ⟨m4ac,h5u,f5ac⟩:=Ab f3ac
             refine BR 8 (fun l l' w'=>∃(t6u:Value) (t7u:Value) (t8u:Value) (t9u:Value) (t0v:Value),UpdS [] w7c w'∧l'=((((((l.set 89 t6u).set 90 t7u).set 91 t8u).set 92 t9u).set 93 t0v).set 94 (.bool m4ac))) ?_ ?_
             ·intro HJ608
              rcases bft r4u with e3a | e3a
              ·have p6ac:=e3a
               have f7ac:=ifP p6ac h5u
               refine sV (An BK rfl (q1ac.ext E2d) rfl) ?_ (hw:=wgT rfl e3a)
               refine sV (Aa rfl) ?_ (hw:=wgT rfl e3a)
               refine sV (Aa rfl) ?_ (hw:=wgT rfl e3a)
               have q8ac:=((q9aa.ext E6h).ext F6d).ext E2d
               refine sV (An BK rfl q8ac rfl) ?_ (hw:=wgT rfl e3a)
               have n9ac:=((n0ab.ext E6h).ext F6d).ext E2d
               have n0ad:=((n1ab.ext E6h).ext F6d).ext E2d
               obtain ⟨r1v,h1ad,f2ad⟩:=Ab f7ac
               refine sc (Ae Om (by rfl)) (GM r5b.1 r5b.2 m8i (⟨(⟨(⟨m1a.1,m1a.2.1⟩:Ai),m1a.2.2.1⟩:Aj),(⟨(⟨m1a.2.2.2.1,m1a.2.2.2.2.1⟩:Ai),m1a.2.2.2.2.2⟩:Aj)⟩:Am) A6t c7t A8t c9t A9e c0f A1f c2f w7c (tbx X1j hT) ((n6ab.ext F6d).ext E2d) ((n7ab.ext F6d).ext E2d) n9ac n0ad r1v h1ad) ?_ (hw:=wgT rfl e3a)
               rintro _ w6f E3ad rfl
               refine nrm ?_
               refine sV (Ay (evb rfl e3a) rfl) ?_
               obtain rfl:=sj f2ad
               exact HJ608 _ _ ⟨(.agg #[.bool r5b.1.Lo.Man.Neg,.slice A6t (sz r5b.1.Lo.Man.Abs) c7t,.int .i64 r5b.1.Lo.Exp,.bool r5b.1.Hi.Man.Neg,.slice A8t (sz r5b.1.Hi.Man.Abs) c9t,.int .i64 r5b.1.Hi.Exp]),(.int .i64 r5b.2),(.int .i64 m8i),(.agg #[.bool m1a.1,.slice A9e (sz m1a.2.1) c0f,.int .i64 m1a.2.2.1,.bool m1a.2.2.2.1,.slice A1f (sz m1a.2.2.2.2.1) c2f,.int .i64 m1a.2.2.2.2.2]),(.bool r1v),((UpdS.refl _ _).ext E3ad),(by simp only [S0,S1]<;>rfl)⟩
              ·have p4ad:=bF e3a
               have f5ad:=ifN p4ad h5u
               refine sP ?_ (hw:=wgF rfl e3a)
               refine sP ?_ (hw:=wgF rfl e3a)
               refine sP ?_ (hw:=wgF rfl e3a)
               refine sP ?_ (hw:=wgF rfl e3a)
               refine sP ?_ (hw:=wgF rfl e3a)
               refine sV (AB (evb rfl e3a) rfl) ?_
               obtain rfl:=sj f5ad
               exact HJ608 _ _ ⟨uu,uu,uu,uu,uu,(UpdS.refl _ _),(by simp only [S0,S1]<;>rfl)⟩
             ·rintro l' w6f ⟨t6u,t7u,t8u,t9u,t0v,U6ad,hq'⟩ l'' hl
              rw [hq'] at hl
              clear hq'
              simp only [S0,S1] at hl
              subst hl
              have X7ad:=GQ X1j U6ad (X1j).size al0
              refine sV (Ac rfl) ?_
              refine Ad<|h3u _ _<|wp_ret ?_
              obtain rfl:=sj f5ac
              exact fin rfl (Res.tmp rfl Res.nil) (Al X7ad rfl)
end Go.Proofs

