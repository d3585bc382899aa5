import Derived.Test.YtabiobmfelafoaaGreatDoorGen1
namespace Go.Proofs
set_option linter.unusedVariables false
set_option linter.unusedSimpArgs false
set_option maxHeartbeats 4000000
open Go.RowKit Go.Sb Go.Proofs.Sbn
theorem c_sorobanref03_AddInt (x0:Ah) (x1:Ah) (A1:Option Addr) (c2:Nat) (A4:Option Addr) (c5:Nat) (w:World) (hT:TB w) (n3:RU w A1 c2 x0.Abs) (n6:RU w A4 c5 x1.Abs) (r:Ah) (hr:Fj x0 x1=some r) :
  Calls Tryz.prog 129 #[.agg #[.bool x0.Neg,.slice A1 (sz x0.Abs) c2],.agg #[.bool x1.Neg,.slice A4 (sz x1.Abs) c5]] w (Ret Jw w r):=by
 unfold Fj at hr
 go_enter Tryz.func129,Tryz.ntmps129
 refine wp_seq_k fun K7 h7=>Ai<|Bp rfl rfl fun b8 w1 E9 g6k q3a=>?_
 refine nrm ?_
 refine Bp rfl rfl fun b7k w2 E2a g9e q4a=>?_
 refine nrm ?_
 have g8k:=nlt E9.size g9e
 have X7c:=xtr E9 E2a
 refine Aw KI fun b9k w3 E0a g0f q9b=>?_
 refine nrm ?_
 have g0c:=nlt X7c.size g0f
 have X5a:=xtr X7c E0a
 refine Ad<|h7 _ _<|wp_seq_k fun K8c h8c=>wp_seq_k fun K9c h9c=>Ai<|sV (Af (o':=0) FA rfl rfl) ?_
 refine sV (Aj Gd rfl (Bx.cell ((q3a.ext E2a).ext E0a) rfl)) ?_
 refine sV (Af (o':=0) FA rfl rfl) ?_
 refine sV (Aj Gd rfl (Bx.cell (q4a.ext E0a) rfl)) ?_
 refine sb (Lr LU rfl rfl) fun z1b hz1b=>?_
 refine nrm ?_
 refine Ad<|h9c _ _ ?_
 rcases bft z1b with e6a | e6a
 ·have p1f:=zP hz1b e6a
  have f2f:=ifP p1f hr
  refine wp_cond_true (Al (evb rfl e6a))<|wp_seq_k fun K0d h0d=>Di [8] 9 mo rfl fun w4 E7a S2b=>have X3b:=xtr X5a E7a;dA 0 rfl (fun _=>Af (o':=0) FA rfl rfl) ?_
  refine dV 1 rfl (fun _ hw=>Aj Gd rfl (Bx.cell ((((q3a.ext E2a).ext E0a).ext E7a).ext hw) rfl)) S2b ?_
  refine dA 2 rfl (fun _=>Af (o':=1) Ct rfl rfl) ?_
  refine dV 3 rfl (fun _ hw=>Aj EA rfl (Bx.cell ((((q3a.ext E2a).ext E0a).ext E7a).ext hw) rfl)) S2b ?_
  refine dA 4 rfl (fun _=>Af (o':=1) Ct rfl rfl) ?_
  refine dV 5 rfl (fun _ hw=>Aj EA rfl (Bx.cell (((q4a.ext E0a).ext E7a).ext hw) rfl)) S2b ?_
  obtain ⟨r1d,h3f,f4f⟩:=Ab f2f
  refine dc 6 rfl (by kernel_rfl) (by rfl) (Ae LK (by rfl)) (Fc x0.Abs x1.Abs A1 c2 A4 c5 w4 (tbx X3b hT) (n3.ext X3b) (n6.ext X3b) r1d h3f) ?_
  rintro _ w5 E1c ⟨A5f,c6f,rfl,n7f⟩
  refine dnrm ?_
  have X2d:=xtr X3b E1c
  have S8f:=S2b.trans E1c
  obtain ⟨r9f,h0g,f1g⟩:=Ab f4f
  refine dc 7 rfl (by kernel_rfl) (by rfl) (Ae Jb (by rfl)) (Cn x0.Neg r1d A5f c6f w5 (tbx X2d hT) n7f r9f h0g) ?_
  rintro _ w6 E2c ⟨A2g,c3g,rfl,n4g⟩
  refine dnrm ?_
  have X5g:=xtr X2d E2c
  have S0l:=S8f.trans E2c
  have q3d:=((q9b.ext E7a).ext E1c).ext E2c
  refine dk 8 rfl (by kernel_rfl) (by decide) (by rfl) Jt rfl rfl q3d rfl rfl rfl rfl (by simp only [SP0,SP1,S0,S1,Nat.reduceAdd];rfl) fun w7 U4d q6g=>?_
  have X7g:=AW X5g U4d g0c
  refine Ci (by kernel_rfl) ?_
  refine h0d _ _<|wp_ret ?_
  obtain rfl:=sj f1g
  exact fin rfl (Res.cellN rfl Gz q6g rfl rfl Res.nil) (An X7g ⟨A2g,c3g,rfl,(n4g.upd U4d q3d (by decide))⟩)
 ·have p8g:=zN hz1b e6a
  have f9g:=ifN p8g hr
  refine wp_cond_false (Al (evb rfl e6a))<|wp_skip<|h8c _ _<|wp_seq_k fun K5d h5d=>wp_seq_k fun K6d h6d=>Ai<|sV (Af (o':=1) Ct rfl rfl) ?_
  refine sV (Aj EA rfl (Bx.cell ((q3a.ext E2a).ext E0a) rfl)) ?_
  refine sV (Af (o':=1) Ct rfl rfl) ?_
  refine sV (Aj EA rfl (Bx.cell (q4a.ext E0a) rfl)) ?_
  obtain ⟨r0h,h1h,f7d⟩:=Ab f9g
  refine sc (Ae Lg (by rfl)) (Fb x0.Abs x1.Abs A1 c2 A4 c5 w3 (tbx X5a hT) (n3.ext X5a) (n6.ext X5a) r0h h1h) ?_
  rintro _ w4 E1a rfl
  refine nrm ?_
  have X8d:=xtr X5a E1a
  refine sb (Gf rfl rfl) fun z4b hz4b=>?_
  refine nrm ?_
  refine Ad<|h6d _ _ ?_
  rcases bft z4b with e8a | e8a
  ·have p2h:=zP hz4b e8a
   have f3h:=ifP p2h f7d
   refine wp_cond_true (Al (evb rfl e8a))<|wp_seq_k fun K9d h9d=>Di [8] 9 mo rfl fun w5 E9a S5b=>have X6b:=xtr X8d E9a;dA 0 rfl (fun _=>Af (o':=0) FA rfl rfl) ?_
   refine dV 1 rfl (fun _ hw=>Aj Gd rfl (Bx.cell (((((q3a.ext E2a).ext E0a).ext E1a).ext E9a).ext hw) rfl)) S5b ?_
   refine dA 2 rfl (fun _=>Af (o':=1) Ct rfl rfl) ?_
   refine dV 3 rfl (fun _ hw=>Aj EA rfl (Bx.cell (((((q3a.ext E2a).ext E0a).ext E1a).ext E9a).ext hw) rfl)) S5b ?_
   refine dA 4 rfl (fun _=>Af (o':=1) Ct rfl rfl) ?_
   refine dV 5 rfl (fun _ hw=>Aj EA rfl (Bx.cell ((((q4a.ext E0a).ext E1a).ext E9a).ext hw) rfl)) S5b ?_
   obtain ⟨r0e,h4h,f5h⟩:=Ab f3h
   refine dc 6 rfl (by kernel_rfl) (by rfl) (Ae ML (by rfl)) (FS x0.Abs x1.Abs A1 c2 A4 c5 w5 (tbx X6b hT) (n3.ext X6b) (n6.ext X6b) r0e h4h) ?_
   rintro _ w6 E3c ⟨A6h,c7h,rfl,n8h⟩
   refine dnrm ?_
   have X1e:=xtr X6b E3c
   have S9h:=S5b.trans E3c
   obtain ⟨r0i,h1i,f2i⟩:=Ab f5h
   refine dc 7 rfl (by kernel_rfl) (by rfl) (Ae Jb (by rfl)) (Cn x0.Neg r0e A6h c7h w6 (tbx X1e hT) n8h r0i h1i) ?_
   rintro _ w7 E4c ⟨A3i,c4i,rfl,n5i⟩
   refine dnrm ?_
   have X6i:=xtr X1e E4c
   have S1l:=S9h.trans E4c
   have q2e:=(((q9b.ext E1a).ext E9a).ext E3c).ext E4c
   refine dk 8 rfl (by kernel_rfl) (by decide) (by rfl) Jt rfl rfl q2e rfl rfl rfl rfl (by simp only [SP0,SP1,S0,S1,Nat.reduceAdd];rfl) fun w8 U3e q7i=>?_
   have X8i:=AW X6i U3e g0c
   refine Ci (by kernel_rfl) ?_
   refine h9d _ _<|wp_ret ?_
   obtain rfl:=sj f2i
   exact fin rfl (Res.cellN rfl Gz q7i rfl rfl Res.nil) (An X8i ⟨A3i,c4i,rfl,(n5i.upd U3e q2e (by decide))⟩)
  ·have p9i:=zN hz4b e8a
   have f0j:=ifN p9i f7d
   refine wp_cond_false (Al (evb rfl e8a))<|wp_skip<|h5d _ _<|wp_seq_k fun K4e h4e=>Di [8] 9 mo rfl fun w5 E0b S7b=>have X8b:=xtr X8d E0b;dA 0 rfl (fun _=>Af (o':=0) FA rfl rfl) ?_
   refine dV 1 rfl (fun _ hw=>Aj Gd rfl (Bx.cell ((((q4a.ext E0a).ext E1a).ext E0b).ext hw) rfl)) S7b ?_
   refine dA 2 rfl (fun _=>Af (o':=1) Ct rfl rfl) ?_
   refine dV 3 rfl (fun _ hw=>Aj EA rfl (Bx.cell ((((q4a.ext E0a).ext E1a).ext E0b).ext hw) rfl)) S7b ?_
   refine dA 4 rfl (fun _=>Af (o':=1) Ct rfl rfl) ?_
   refine dV 5 rfl (fun _ hw=>Aj EA rfl (Bx.cell (((((q3a.ext E2a).ext E0a).ext E1a).ext E0b).ext hw) rfl)) S7b ?_
   obtain ⟨r5e,h1j,f2j⟩:=Ab f0j
   refine dc 6 rfl (by kernel_rfl) (by rfl) (Ae ML (by rfl)) (FS x1.Abs x0.Abs A4 c5 A1 c2 w5 (tbx X8b hT) (n6.ext X8b) (n3.ext X8b) r5e h1j) ?_
   rintro _ w6 E5c ⟨A3j,c4j,rfl,n5j⟩
   refine dnrm ?_
   have X6e:=xtr X8b E5c
   have S6j:=S7b.trans E5c
   obtain ⟨r7j,h8j,f9j⟩:=Ab f2j
   refine dc 7 rfl (by kernel_rfl) (by rfl) (Ae Jb (by rfl)) (Cn x1.Neg r5e A3j c4j w6 (tbx X6e hT) n5j r7j h8j) ?_
   rintro _ w7 E6c ⟨A0k,c1k,rfl,n2k⟩
   refine dnrm ?_
   have X3k:=xtr X6e E6c
   have S2l:=S6j.trans E6c
   have q7e:=(((q9b.ext E1a).ext E0b).ext E5c).ext E6c
   refine dk 8 rfl (by kernel_rfl) (by decide) (by rfl) Jt rfl rfl q7e rfl rfl rfl rfl (by simp only [SP0,SP1,S0,S1,Nat.reduceAdd];rfl) fun w8 U8e q4k=>?_
   have X5k:=AW X3k U8e g0c
   refine Ci (by kernel_rfl) ?_
   refine h4e _ _<|wp_ret ?_
   obtain rfl:=sj f9j
   exact fin rfl (Res.cellN rfl Gz q4k rfl rfl Res.nil) (An X5k ⟨A0k,c1k,rfl,(n2k.upd U8e q7e (by decide))⟩)
theorem GK (x0:Ag) (x1:Ag) (A1:Option Addr) (c2:Nat) (A4:Option Addr) (c5:Nat) (w:World) (hT:TB w) (n3:RU w A1 c2 x0.Man.Abs) (n6:RU w A4 c5 x1.Man.Abs) (r:Ag) (hr:Bs x0 x1=some r) :
  Calls Tryz.prog 46 #[.agg #[.bool x0.Man.Neg,.slice A1 (sz x0.Man.Abs) c2,.int .i64 x0.Exp],.agg #[.bool x1.Man.Neg,.slice A4 (sz x1.Man.Abs) c5,.int .i64 x1.Exp]] w (Ret IK w r):=by
 unfold Bs at hr
 go_enter Tryz.func46,Tryz.ntmps46
 refine wp_seq_k fun K7 h7=>Ai<|Bp rfl rfl fun b8 w1 E9 g0i q3a=>?_
 refine nrm ?_
 refine Bp rfl rfl fun b1i w2 E1a g7d q4a=>?_
 refine nrm ?_
 have g2i:=nlt E9.size g7d
 have X8a:=xtr E9 E1a
 refine Aw Fh fun b3i w3 E0a g2b q3b=>?_
 refine nrm ?_
 have g8d:=nlt X8a.size g2b
 have X9d:=xtr X8a E0a
 refine Ad<|h7 _ _<|wp_seq_k fun K9b h9b=>wp_seq_k fun K0c h0c=>Ai<|sV (Af (o':=0) Em rfl rfl) ?_
 refine sV (Af (o':=1) Ct rfl rfl) ?_
 refine sV (Aj EA rfl (Bx.cell ((q3a.ext E1a).ext E0a) rfl)) ?_
 refine sV (AI AH rfl) ?_
 refine sb (Cd rfl rfl) fun z9a hz9a=>?_
 refine nrm ?_
 refine Ad<|h0c _ _ ?_
 rcases bft z9a with e5a | e5a
 ·have p0e:=zP hz9a e5a
  have f1e:=ifP p0e hr
  refine wp_cond_true (Al (evb rfl e5a))<|wp_seq_k fun K1c h1c=>Ai<|sV (Am AJ rfl (q4a.ext E0a) rfl) ?_
  refine Av Cg rfl rfl q3b rfl rfl rfl rfl (by simp only [SP0,SP1,S0,S1,Nat.reduceAdd];rfl) fun w4 U2e q3e=>?_
  have F4e:=AW E0a U2e g2b
  have X2c:=xtr X8a F4e
  refine Ad<|h1c _ _<|wp_ret ?_
  obtain rfl:=sj f1e
  exact fin rfl (Res.cellN rfl AJ q3e rfl rfl Res.nil) (An X2c ⟨A4,c5,rfl,(n6.ext X2c)⟩)
 ·have p5e:=zN hz9a e5a
  have f3c:=ifN p5e hr
  refine wp_cond_false (Al (evb rfl e5a))<|wp_skip<|h9b _ _<|wp_seq_k fun K4c h4c=>wp_seq_k fun K5c h5c=>Ai<|sV (Af (o':=0) Em rfl rfl) ?_
  refine sV (Af (o':=1) Ct rfl rfl) ?_
  refine sV (Aj EA rfl (Bx.cell (q4a.ext E0a) rfl)) ?_
  refine sV (AI AH rfl) ?_
  refine sb (Cd rfl rfl) fun z0b hz0b=>?_
  refine nrm ?_
  refine Ad<|h5c _ _ ?_
  rcases bft z0b with e6a | e6a
  ·have p6e:=zP hz0b e6a
   have f7e:=ifP p6e f3c
   refine wp_cond_true (Al (evb rfl e6a))<|wp_seq_k fun K6c h6c=>Ai<|sV (Am AJ rfl ((q3a.ext E1a).ext E0a) rfl) ?_
   refine Av Cg rfl rfl q3b rfl rfl rfl rfl (by simp only [SP0,SP1,S0,S1,Nat.reduceAdd];rfl) fun w4 U8e q9e=>?_
   have F0f:=AW E0a U8e g2b
   have X7c:=xtr X8a F0f
   refine Ad<|h6c _ _<|wp_ret ?_
   obtain rfl:=sj f7e
   exact fin rfl (Res.cellN rfl AJ q9e rfl rfl Res.nil) (An X7c ⟨A1,c2,rfl,(n3.ext X7c)⟩)
  ·have p1f:=zN hz0b e6a
   have f2f:=ifN p1f f3c
   refine wp_cond_false (Al (evb rfl e6a))<|wp_skip<|h4c _ _<|wp_seq_k fun K8c h8c=>Ai<|sV (Af (o':=2) ES rfl rfl) ?_
   refine sV (Aj EY rfl (Bx.cell ((q3a.ext E1a).ext E0a) rfl)) ?_
   refine sV (Af (o':=2) ES rfl rfl) ?_
   refine sV (Aj EY rfl (Bx.cell (q4a.ext E0a) rfl)) ?_
   refine sV (Lx rfl rfl) ?_
   refine sV (Ac rfl) ?_
   refine Ad<|h8c _ _<|wp_seq_k fun K9c h9c=>Di [17] 18 mo rfl fun w4 E2a S7a=>have X4b:=xtr X9d E2a;dA 0 rfl (fun _=>Af (o':=0) Em rfl rfl) ?_
   refine dV 1 rfl (fun _ hw=>Ar Gz rfl ((((q3a.ext E1a).ext E0a).ext E2a).ext hw) (by simp only [List.drop_zero,List.take_succ_cons,List.take_zero];rfl) rfl) S7a ?_
   refine dA 2 rfl (fun _=>Af (o':=2) ES rfl rfl) ?_
   refine dV 3 rfl (fun _ hw=>Aj EY rfl (Bx.cell ((((q3a.ext E1a).ext E0a).ext E2a).ext hw) rfl)) S7a ?_
   refine dA 4 rfl (fun _=>Aa rfl) ?_
   refine dA 5 rfl (fun _=>Bz (c:=wi64 (x0.Exp - (min x0.Exp x1.Exp))) rfl rfl rfl) ?_
   refine dA 7 rfl (fun _=>Af (o':=0) Em rfl rfl) ?_
   refine dV 8 rfl (fun _ hw=>Ar Gz rfl (((q4a.ext E0a).ext E2a).ext hw) (by simp only [List.drop_zero,List.take_succ_cons,List.take_zero];rfl) rfl) S7a ?_
   refine dA 9 rfl (fun _=>Af (o':=2) ES rfl rfl) ?_
   refine dV 10 rfl (fun _ hw=>Aj EY rfl (Bx.cell (((q4a.ext E0a).ext E2a).ext hw) rfl)) S7a ?_
   refine dA 11 rfl (fun _=>Aa rfl) ?_
   refine dA 12 rfl (fun _=>Bz (c:=wi64 (x1.Exp - (min x0.Exp x1.Exp))) rfl rfl rfl) ?_
   refine dA 15 rfl (fun _=>Aa rfl) ?_
   obtain ⟨r0d,h3f,f4f⟩:=Ab f2f
   refine dc 6 rfl (by kernel_rfl) (by rfl) (Ae ME (by rfl)) (GX x0.Man (wi64 (x0.Exp - (min x0.Exp x1.Exp))) A1 c2 w4 (tbx X4b hT) (n3.ext X4b) r0d h3f) ?_
   rintro _ w5 E5b ⟨A5f,c6f,rfl,n7f⟩
   refine dnrm ?_
   have X6b:=xtr X4b E5b
   have S8f:=S7a.trans E5b
   obtain ⟨r1d,h9f,f0g⟩:=Ab f4f
   refine dc 13 rfl (by kernel_rfl) (by rfl) (Ae ME (by rfl)) (GX x1.Man (wi64 (x1.Exp - (min x0.Exp x1.Exp))) A4 c5 w5 (tbx X6b hT) (n6.ext X6b) r1d h9f) ?_
   rintro _ w6 E1b ⟨A1g,c2g,rfl,n3g⟩
   refine dnrm ?_
   have X2d:=xtr X6b E1b
   have S4g:=S8f.trans E1b
   obtain ⟨r3d,h5g,f6g⟩:=Ab f0g
   refine dc 14 rfl (by kernel_rfl) (by rfl) (Ae en_129 (by rfl)) (c_sorobanref03_AddInt r0d r1d A5f c6f A1g c2g w6 (tbx X2d hT) (n7f.ext E1b) n3g r3d h5g) ?_
   rintro _ w7 E7b ⟨A7g,c8g,rfl,n9g⟩
   refine dnrm ?_
   have X4d:=xtr X2d E7b
   have S0h:=S4g.trans E7b
   obtain ⟨r1h,h2h,f3h⟩:=Ab f6g
   refine dc 16 rfl (by kernel_rfl) (by rfl) (Ae Mu (by rfl)) (Gg r3d (min x0.Exp x1.Exp) A7g c8g w7 (tbx X4d hT) n9g r1h h2h) ?_
   rintro _ w8 E8b ⟨A4h,c5h,rfl,n6h⟩
   refine dnrm ?_
   have X7h:=xtr X4d E8b
   have S4i:=S0h.trans E8b
   have q5d:=((((q3b.ext E2a).ext E5b).ext E1b).ext E7b).ext E8b
   refine dk 17 rfl (by kernel_rfl) (by decide) (by rfl) Cg rfl rfl q5d rfl rfl rfl rfl (by simp only [SP0,SP1,S0,S1,Nat.reduceAdd];rfl) fun w9 U6d q8h=>?_
   have X9h:=AW X7h U6d g8d
   refine Ci (by kernel_rfl) ?_
   refine h9c _ _<|wp_ret ?_
   obtain rfl:=sj f3h
   exact fin rfl (Res.cellN rfl AJ q8h rfl rfl Res.nil) (An X9h ⟨A4h,c5h,rfl,(n6h.upd U6d q5d (by decide))⟩)
theorem c_sorobanref04_Sign (x0:Ag) (A1:Option Addr) (c2:Nat) (w:World) (hT:TB w) (n3:RU w A1 c2 x0.Man.Abs) (r:Int) (hr:Eg x0=some r) :
  Calls Tryz.prog 23 #[.agg #[.bool x0.Man.Neg,.slice A1 (sz x0.Man.Abs) c2,.int .i64 x0.Exp]] w (Ret Gx w r):=by
 unfold Eg at hr
 go_enter Tryz.func23,Tryz.ntmps23
 refine wp_seq_k fun K4 h4=>Ai<|Bp rfl rfl fun b5 w1 E6 g7 q8=>?_
 refine nrm ?_
 refine sV (Ac rfl) ?_
 refine Ad<|h4 _ _<|wp_seq_k fun K9 h9=>wp_seq_k fun K3a h3a=>Ai<|sV (Af (o':=0) Em rfl rfl) ?_
 refine sV (Af (o':=1) Ct rfl rfl) ?_
 refine sV (Aj EA rfl (Bx.cell q8 rfl)) ?_
 refine sV (AI AH rfl) ?_
 refine sb (Cd rfl rfl) fun z2a hz2a=>?_
 refine nrm ?_
 refine Ad<|h3a _ _ ?_
 rcases bft z2a with e0a | e0a
 ·have p0b:=zP hz2a e0a
  have f1b:=ifP p0b hr
  refine wp_cond_true (Al (evb rfl e0a))<|wp_seq_k fun K4a h4a=>Ai<|sV (Ac rfl) ?_
  refine Ad<|h4a _ _<|wp_ret ?_
  obtain rfl:=sj f1b
  exact fin rfl (Res.tmp rfl Res.nil) (An E6 rfl)
 ·have p2b:=zN hz2a e0a
  have f5a:=ifN p2b hr
  refine wp_cond_false (Al (evb rfl e0a))<|wp_skip<|h9 _ _<|wp_seq_k fun K6a h6a=>wp_seq_k fun K7a h7a=>Ai<|sV (Af (o':=0) Em rfl rfl) ?_
  refine sV (Af (o':=0) FA rfl rfl) ?_
  refine sV (Aj Gd rfl (Bx.cell q8 rfl)) ?_
  refine Ad<|h7a _ _ ?_
  rcases bft x0.Man.Neg with e1a | e1a
  ·have p3b:=e1a
   have f4b:=ifP p3b f5a
   refine wp_cond_true (Al (evb rfl e1a))<|wp_seq_k fun K8a h8a=>Ai<|sV (Ac rfl) ?_
   refine Ad<|h8a _ _<|wp_ret ?_
   obtain rfl:=sj f4b
   exact fin rfl (Res.tmp rfl Res.nil) (An E6 rfl)
  ·have p5b:=bF e1a
   have f6b:=ifN p5b f5a
   refine wp_cond_false (Al (evb rfl e1a))<|wp_skip<|h6a _ _<|wp_seq_k fun K9a h9a=>Ai<|sV (Ac rfl) ?_
   refine Ad<|h9a _ _<|wp_ret ?_
   obtain rfl:=sj f6b
   exact fin rfl (Res.tmp rfl Res.nil) (An E6 rfl)
theorem CH (x0:Ag) (x1:Ag) (A1:Option Addr) (c2:Nat) (A4:Option Addr) (c5:Nat) (w:World) (hT:TB w) (n3:RU w A1 c2 x0.Man.Abs) (n6:RU w A4 c5 x1.Man.Abs) (r:Int) (hr:Bc x0 x1=some r) :
  Calls Tryz.prog 83 #[.agg #[.bool x0.Man.Neg,.slice A1 (sz x0.Man.Abs) c2,.int .i64 x0.Exp],.agg #[.bool x1.Man.Neg,.slice A4 (sz x1.Man.Abs) c5,.int .i64 x1.Exp]] w (Ret Gx w r):=by
 unfold Bc at hr
 go_enter Tryz.func83,Tryz.ntmps83
 refine wp_seq_k fun K7 h7=>Ai<|Bp rfl rfl fun b8 w1 E9 g2d q2b=>?_
 refine nrm ?_
 refine Bp rfl rfl fun b3d w2 E4a g3b q4b=>?_
 refine nrm ?_
 have g4d:=nlt E9.size g3b
 have X5b:=xtr E9 E4a
 refine sV (Ac rfl) ?_
 refine Ad<|h7 _ _<|wp_seq_k fun K5a h5a=>Di [] 6 mo rfl fun w3 E0a S1a=>have X2a:=xtr X5b E0a;dV 0 rfl (fun _ hw=>Am AJ rfl (((q2b.ext E4a).ext E0a).ext hw) rfl) S1a ?_
 refine dV 1 rfl (fun _ hw=>Am AJ rfl ((q4b.ext E0a).ext hw) rfl) S1a ?_
 obtain ⟨r6a,h6b,f7b⟩:=Ab hr
 refine dc 2 rfl (by kernel_rfl) (by rfl) (Ae MM (by rfl)) (Gu x1 A4 c5 w3 (tbx X2a hT) (n6.ext X2a) r6a h6b) ?_
 rintro _ w4 E7a ⟨A8b,c9b,rfl,n0c⟩
 refine dnrm ?_
 have X3a:=xtr X2a E7a
 have S1c:=S1a.trans E7a
 obtain ⟨r8a,h2c,f3c⟩:=Ab f7b
 refine dc 3 rfl (by kernel_rfl) (by rfl) (Ae MT (by rfl)) (GK x0 r6a A1 c2 A8b c9b w4 (tbx X3a hT) (n3.ext X3a) n0c r8a h2c) ?_
 rintro _ w5 E9a ⟨A4c,c5c,rfl,n6c⟩
 refine dnrm ?_
 have X0b:=xtr X3a E9a
 have S7c:=S1c.trans E9a
 obtain ⟨r8c,h9c,f0d⟩:=Ab f3c
 refine dc 4 rfl (by kernel_rfl) (by rfl) (Ae en_23 (by rfl)) (c_sorobanref04_Sign r8a A4c c5c w5 (tbx X0b hT) n6c r8c h9c) ?_
 rintro _ w6 E1b rfl
 refine dnrm ?_
 have X1d:=xtr X0b E1b
 have S5d:=S7c.trans E1b
 refine dA 5 rfl (fun _=>Ac rfl) ?_
 refine Ci (by kernel_rfl) ?_
 refine h5a _ _<|wp_ret ?_
 obtain rfl:=sj f0d
 exact fin rfl (Res.tmp rfl Res.nil) (An X1d rfl)
theorem He (x0:Ap) (A1:Option Addr) (c2:Nat) (A4:Option Addr) (c5:Nat) (w:World) (hT:TB w) (n3:RLu w A1 c2 x0.Lo.Man.Abs) (n6:RLu w A4 c5 x0.Hi.Man.Abs) (r:Bool) (hr:Dx x0=some r) :
  Calls Tryz.prog 17 #[.agg #[.bool x0.Lo.Man.Neg,.slice A1 x0.Lo.Man.Abs.length c2,.int .i64 x0.Lo.Exp,.bool x0.Hi.Man.Neg,.slice A4 x0.Hi.Man.Abs.length c5,.int .i64 x0.Hi.Exp]] w (Ret FW w r):=by
 unfold Dx at hr
 go_enter Tryz.func17,Tryz.ntmps17
 refine wp_seq_k fun K7 h7=>Ai<|Bp rfl rfl fun b8 w1 E9 g5f q3a=>?_
 refine nrm ?_
 refine sV (Ac rfl) ?_
 refine Ad<|h7 _ _<|wp_seq_k fun K9a h9a=>Ai<|sV (Af (o':=0) Fw rfl rfl) ?_
 refine sV (Ar AJ rfl q3a (by simp only [List.drop_zero,List.take_succ_cons,List.take_zero];rfl) rfl) ?_
 obtain ⟨r0b,h8c,f9c⟩:=Ab hr
 refine sc (Ae Lz (by rfl)) (EL x0.Lo A1 c2 w1 (tbx E9 hT) (n3.ext E9) r0b h8c) ?_
 rintro _ w2 E4a rfl
 refine nrm ?_
 have X5a:=xtr E9 E4a
 refine sV (Aa rfl) ?_
 obtain ⟨m1b,h2b,f0d⟩:=Ab f9c
 refine BT 8 (fun l l' w'=>∃(t3b:Value) (t4b:Value) (t5b:Value),UpdS [] w2 w'∧l'=((((l.set 7 t3b).set 8 t4b).set 9 t5b).set 10 (.bool m1b))) ?_ ?_
 ·intro HJ35
  rcases bft r0b with e1a | e1a
  ·have p1d:=e1a
   have f2d:=ifP p1d h2b
   refine sV (Af (o':=3) Fx rfl rfl) ?_ (hw:=wgT rfl e1a)
   refine sV (Ar AJ rfl (q3a.ext E4a) (by simp only [List.drop_succ_cons,List.drop_zero,List.take_succ_cons,List.take_zero];rfl) rfl) ?_ (hw:=wgT rfl e1a)
   obtain ⟨r6b,h3d,f4d⟩:=Ab f2d
   refine sc (Ae Lz (by rfl)) (EL x0.Hi A4 c5 w2 (tbx X5a hT) (n6.ext X5a) r6b h3d) ?_ (hw:=wgT rfl e1a)
   rintro _ w3 E5d rfl
   refine nrm ?_
   refine sV (AA (evb rfl e1a) rfl) ?_
   obtain rfl:=sj f4d
   exact HJ35 _ _ ⟨(.pointer (some ⟨b8,3,none⟩)),(.agg #[.bool x0.Hi.Man.Neg,.slice A4 x0.Hi.Man.Abs.length c5,.int .i64 x0.Hi.Exp]),(.bool r6b),((UpdS.refl _ _).ext E5d),(by simp only [S0,S1]<;>rfl)⟩
  ·have p6d:=bF e1a
   have f7d:=ifN p6d h2b
   refine sP ?_ (hw:=wgF rfl e1a)
   refine sP ?_ (hw:=wgF rfl e1a)
   refine sP ?_ (hw:=wgF rfl e1a)
   refine sV (AE (evb rfl e1a) rfl) ?_
   obtain rfl:=sj f7d
   exact HJ35 _ _ ⟨uu,uu,uu,(UpdS.refl _ _),(by simp only [S0,S1]<;>rfl)⟩
 ·rintro l' w3 ⟨t3b,t4b,t5b,U7a,hq'⟩ l'' hl
  rw [hq'] at hl
  clear hq'
  simp only [S0,S1] at hl
  subst hl
  have X2a:=GB X5a U7a (X5a).size al0
  refine sV (Aa rfl) ?_
  obtain ⟨m8d,h7b,f9d⟩:=Ab f0d
  refine BT 16 (fun l l' w'=>∃(t8b:Value) (t9b:Value) (t0c:Value) (t1c:Value) (t2c:Value) (t3c:Value),UpdS [] w3 w'∧l'=(((((((l.set 12 t8b).set 13 t9b).set 14 t0c).set 15 t1c).set 16 t2c).set 17 t3c).set 18 (.bool m8d))) ?_ ?_
  ·intro HJ78
   rcases bft m1b with e0a | e0a
   ·have p0e:=e0a
    have f1e:=ifP p0e h7b
    refine sV (Af (o':=0) Fw rfl rfl) ?_ (hw:=wgT rfl e0a)
    refine sV (Ar AJ rfl ((q3a.ext E4a).updS U7a nm0) (by simp only [List.drop_zero,List.take_succ_cons,List.take_zero];rfl) rfl) ?_ (hw:=wgT rfl e0a)
    refine sV (Af (o':=3) Fx rfl rfl) ?_ (hw:=wgT rfl e0a)
    refine sV (Ar AJ rfl ((q3a.ext E4a).updS U7a nm0) (by simp only [List.drop_succ_cons,List.drop_zero,List.take_succ_cons,List.take_zero];rfl) rfl) ?_ (hw:=wgT rfl e0a)
    obtain ⟨m4c,h2e,f3e⟩:=Ab f1e
    have hx5c:=BX h2e
    have n4e:RU w3 A1 c2 m4c:=by unfold RU;rw [hx5c];exact (n3.ext X2a)
    obtain ⟨m6c,h5e,f6e⟩:=Ab f3e
    have hx7c:=BX h5e
    have n7e:RU w3 A4 c5 m6c:=by unfold RU;rw [hx7c];exact (n6.ext X2a)
    obtain ⟨r6a,h8e,f9e⟩:=Ab f6e
    refine sc (Ae Kt (by simp only [sz,hx5c,hx7c];rfl)) (CH (⟨(⟨x0.Lo.Man.Neg,m4c⟩:Ah),x0.Lo.Exp⟩:Ag) (⟨(⟨x0.Hi.Man.Neg,m6c⟩:Ah),x0.Hi.Exp⟩:Ag) A1 c2 A4 c5 w3 (tbx X2a hT) n4e n7e r6a h8e) ?_ (hw:=wgT rfl e0a)
    rintro _ w4 E0f rfl
    refine nrm ?_
    refine sb (GP rfl rfl) ?_ (hw:=wgT rfl e0a)
    intro z8a hz8a
    refine nrm ?_
    refine sV (AA (evb rfl e0a) rfl) ?_
    obtain rfl:z8a=decide (r6a≤0):=bz hz8a
    obtain rfl:=sj f9e
    exact HJ78 _ _ ⟨(.pointer (some ⟨b8,0,none⟩)),(.agg #[.bool x0.Lo.Man.Neg,.slice A1 x0.Lo.Man.Abs.length c2,.int .i64 x0.Lo.Exp]),(.pointer (some ⟨b8,3,none⟩)),(.agg #[.bool x0.Hi.Man.Neg,.slice A4 x0.Hi.Man.Abs.length c5,.int .i64 x0.Hi.Exp]),(.int .i64 r6a),(.bool (decide (r6a≤0))),((UpdS.refl _ _).ext E0f),(by simp only [S0,S1]<;>rfl)⟩
   ·have p1f:=bF e0a
    have f2f:=ifN p1f h7b
    refine sP ?_ (hw:=wgF rfl e0a)
    refine sP ?_ (hw:=wgF rfl e0a)
    refine sP ?_ (hw:=wgF rfl e0a)
    refine sP ?_ (hw:=wgF rfl e0a)
    refine sP ?_ (hw:=wgF rfl e0a)
    refine sP ?_ (hw:=wgF rfl e0a)
    refine sV (AE (evb rfl e0a) rfl) ?_
    obtain rfl:=sj f2f
    exact HJ78 _ _ ⟨uu,uu,uu,uu,uu,uu,(UpdS.refl _ _),(by simp only [S0,S1]<;>rfl)⟩
  ·rintro l' w4 ⟨t8b,t9b,t0c,t1c,t2c,t3c,U3f,hq'⟩ l'' hl
   rw [hq'] at hl
   clear hq'
   simp only [S0,S1] at hl
   subst hl
   have X4f:=GB X2a U3f (X2a).size al0
   refine sV (Ac rfl) ?_
   refine Ad<|h9a _ _<|wp_ret ?_
   obtain rfl:=sj f9d
   exact fin rfl (Res.tmp rfl Res.nil) (An X4f rfl)
theorem c_sorobanlaw04_arg (x0:Bool) (w:World) (hT:TB w) (r:Int) (hr:Fa x0=some r) :
  Calls Tryz.prog 18 #[.bool x0] w (Ret rep_33 w r):=by
 unfold Fa at hr
 go_enter Tryz.func18,Tryz.ntmps18
 refine wp_seq_k fun K1 h1=>Ai<|sV (Ac rfl) ?_
 refine Ad<|h1 _ _<|wp_seq_k fun K2 h2=>wp_seq_k fun K3 h3=>Ai<|sV (Aa rfl) ?_
 refine sb (GE rfl) fun z4 hz4=>?_
 refine nrm ?_
 refine Ad<|h3 _ _ ?_
 rcases bft z4 with e0a | e0a
 ·have p3a:=zP hz4 e0a
  have f4a:=ifP p3a hr
  refine wp_cond_true (Al (evb rfl e0a))<|wp_seq_k fun K1a h1a=>Ai<|sV (Ac rfl) ?_
  refine Ad<|h1a _ _<|wp_ret ?_
  obtain rfl:=sj f4a
  exact fin rfl (Res.tmp rfl Res.nil) (An (Ext.refl _) rfl)
 ·have p5a:=zN hz4 e0a
  have f6a:=ifN p5a hr
  refine wp_cond_false (Al (evb rfl e0a))<|wp_skip<|h2 _ _<|wp_seq_k fun K2a h2a=>Ai<|sV (Ac rfl) ?_
  refine Ad<|h2a _ _<|wp_ret ?_
  obtain rfl:=sj f6a
  exact fin rfl (Res.tmp rfl Res.nil) (An (Ext.refl _) rfl)
theorem HY (w:World) (hT:TB w) (r:Nat) (hr:Ew=some r) :
  Calls Tryz.prog 146 #[] w (Ret IX w r):=by
 unfold Ew at hr
 go_enter Tryz.func146,Tryz.ntmps146
 refine wp_seq_k fun K1 h1=>Ai<|sV (Ac rfl) ?_
 refine Ad<|h1 _ _<|wp_seq_k fun K2 h2=>Ai<|DT (vals:=[(0,.int .u32 1)]) (cs:=[.int .u32 1]) AH Au FK (by rfl) (by decide) (by kernel_rfl) fun b3 w1 E4 g5 q6=>?_
 refine nrm ?_
 have n7:=RL.lit1 q6 (by decide)
 refine sV (Ac rfl) ?_
 refine Ad<|h2 _ _<|wp_ret ?_
 obtain rfl:=sj hr
 exact fin rfl (Res.tmp rfl Res.nil) (An E4 ⟨(some ⟨b3,0,none⟩),1,rfl,n7⟩)
theorem c_sorobanref03_MulInt (x0:Ah) (x1:Ah) (A1:Option Addr) (c2:Nat) (A4:Option Addr) (c5:Nat) (w:World) (hT:TB w) (n3:RU w A1 c2 x0.Abs) (n6:RU w A4 c5 x1.Abs) (r:Ah) (hr:Fl x0 x1=some r) :
  Calls Tryz.prog 132 #[.agg #[.bool x0.Neg,.slice A1 (sz x0.Abs) c2],.agg #[.bool x1.Neg,.slice A4 (sz x1.Abs) c5]] w (Ret Jw w r):=by
 unfold Fl at hr
 go_enter Tryz.func132,Tryz.ntmps132
 refine wp_seq_k fun K7 h7=>Ai<|Bp rfl rfl fun b8 w1 E9 g6d q8a=>?_
 refine nrm ?_
 refine Bp rfl rfl fun b7d w2 E4a g6b q9a=>?_
 refine nrm ?_
 have g8d:=nlt E9.size g6b
 have X0b:=xtr E9 E4a
 refine Aw KI fun b9d w3 E1a g7b q8b=>?_
 refine nrm ?_
 have g9b:=nlt X0b.size g7b
 have X0c:=xtr X0b E1a
 refine Ad<|h7 _ _<|wp_seq_k fun K1b h1b=>Di [11] 12 mo rfl fun w4 E0a S2a=>have X3a:=xtr X0c E0a;dA 0 rfl (fun _=>Af (o':=0) FA rfl rfl) ?_
 refine dV 1 rfl (fun _ hw=>Aj Gd rfl (Bx.cell ((((q8a.ext E4a).ext E1a).ext E0a).ext hw) rfl)) S2a ?_
 refine dA 2 rfl (fun _=>Af (o':=0) FA rfl rfl) ?_
 refine dV 3 rfl (fun _ hw=>Aj Gd rfl (Bx.cell (((q9a.ext E1a).ext E0a).ext hw) rfl)) S2a ?_
 refine dab 4 rfl (by kernel_rfl) (fun _ _ _ h=>h) (by rfl) (fun _=>LY LU rfl rfl) fun z5a hz5a=>?_
 refine dnrm ?_
 refine dA 5 rfl (fun _=>Af (o':=1) Ct rfl rfl) ?_
 refine dV 6 rfl (fun _ hw=>Aj EA rfl (Bx.cell ((((q8a.ext E4a).ext E1a).ext E0a).ext hw) rfl)) S2a ?_
 refine dA 7 rfl (fun _=>Af (o':=1) Ct rfl rfl) ?_
 refine dV 8 rfl (fun _ hw=>Aj EA rfl (Bx.cell (((q9a.ext E1a).ext E0a).ext hw) rfl)) S2a ?_
 obtain ⟨r2b,h1c,f2c⟩:=Ab hr
 refine dc 9 rfl (by kernel_rfl) (by rfl) (Ae en_200 (by rfl)) (GI x0.Abs x1.Abs A1 c2 A4 c5 w4 (tbx X3a hT) (n3.ext X3a) (n6.ext X3a) r2b h1c) ?_
 rintro _ w5 E6a ⟨A3c,c4c,rfl,n5c⟩
 refine dnrm ?_
 have X3b:=xtr X3a E6a
 have S6c:=S2a.trans E6a
 obtain rfl:z5a=decide (¬x0.Neg=x1.Neg):=bz hz5a
 obtain ⟨r7c,h8c,f9c⟩:=Ab f2c
 refine dc 10 rfl (by kernel_rfl) (by rfl) (Ae Jb (by rfl)) (Cn (decide (¬x0.Neg=x1.Neg)) r2b A3c c4c w5 (tbx X3b hT) n5c r7c h8c) ?_
 rintro _ w6 E7a ⟨A0d,c1d,rfl,n2d⟩
 refine dnrm ?_
 have X3d:=xtr X3b E7a
 have S0e:=S6c.trans E7a
 have q4b:=((q8b.ext E0a).ext E6a).ext E7a
 refine dk 11 rfl (by kernel_rfl) (by decide) (by rfl) Jt rfl rfl q4b rfl rfl rfl rfl (by simp only [SP0,SP1,S0,S1,Nat.reduceAdd];rfl) fun w7 U5b q4d=>?_
 have X5d:=AW X3d U5b g9b
 refine Ci (by kernel_rfl) ?_
 refine h1b _ _<|wp_ret ?_
 obtain rfl:=sj f9c
 exact fin rfl (Res.cellN rfl Gz q4d rfl rfl Res.nil) (An X5d ⟨A0d,c1d,rfl,(n2d.upd U5b q4b (by decide))⟩)
theorem c_sorobanref03_Rounded (x0:Nat) (x1:Nat) (x2:Nat) (x3:Bool) (x4:Int) (A1:Option Addr) (c2:Nat) (A4:Option Addr) (c5:Nat) (A7:Option Addr) (c8:Nat) (w:World) (hT:TB w) (n3:RU w A1 c2 x0) (n6:RU w A4 c5 x1) (n9:RU w A7 c8 x2) (r:Nat) (hr:Ed x0 x1 x2 x3 x4=some r) :
  Calls Tryz.prog 212 #[.slice A1 (sz x0) c2,.slice A4 (sz x1) c5,.slice A7 (sz x2) c8,.bool x3,.int .i64 x4] w (Ret IX w r):=by
 unfold Ed at hr
 go_enter Tryz.func212,Tryz.ntmps212
 refine wp_seq_k fun K6h h6h=>Ai<|sV (Ac rfl) ?_
 refine Ad<|h6h _ _<|wp_seq_k fun K7h h7h=>wp_seq_k fun K8h h8h=>Ai<|sV (Aa rfl) ?_
 refine sV (AI AH rfl) ?_
 refine sb (Cd rfl rfl) fun z8b hz8b=>?_
 refine nrm ?_
 refine Ad<|h8h _ _ ?_
 rcases bft z8b with e3b | e3b
 ·have p7o:=zP hz8b e3b
  have f8o:=ifP p7o hr
  refine wp_cond_true (Al (evb rfl e3b))<|wp_seq_k fun K9h h9h=>Ai<|sV (Aa rfl) ?_
  refine sV (Ac rfl) ?_
  refine Ad<|h9h _ _<|wp_ret ?_
  obtain rfl:=sj f8o
  exact fin rfl (Res.tmp rfl Res.nil) (An (Ext.refl _) ⟨A1,c2,rfl,n3⟩)
 ·have p9o:=zN hz8b e3b
  have f0p:=ifN p9o hr
  refine wp_cond_false (Al (evb rfl e3b))<|wp_skip<|h7h _ _<|wp_seq_k fun K0i h0i=>Ai<|sV (Aa rfl) ?_
  refine sb (Cd rfl rfl) fun z9b hz9b=>?_
  refine nrm ?_
  refine sV (Aa rfl) ?_
  obtain ⟨m1i,h2i,f1p⟩:=Ab f0p
  refine BT 6 (fun l l' w'=>∃(t3i:Value) (t4i:Value),w=w'∧l'=(((l.set 20 t3i).set 21 t4i).set 22 (.bool m1i))) ?_ ?_
  ·intro HJ39
   rcases bft z9b with e5a | e5a
   ·have p2p:=zP hz9b e5a
    have f3p:=ifP p2p h2i
    refine sV (Aa rfl) ?_ (hw:=wgT rfl e5a)
    refine sb (GE rfl) ?_ (hw:=wgT rfl e5a)
    intro z3c hz3c
    refine nrm ?_
    refine sV (AA (evb rfl e5a) rfl) ?_
    obtain rfl:z3c=decide (¬(x3=true)):=bz hz3c
    obtain rfl:=sj f3p
    exact HJ39 _ _ ⟨(.bool x3),(.bool (decide (¬(x3=true)))),rfl,(by simp only [S0,S1]<;>rfl)⟩
   ·have p4p:=zN hz9b e5a
    have f5p:=ifN p4p h2i
    refine sP ?_ (hw:=wgF rfl e5a)
    refine sP ?_ (hw:=wgF rfl e5a)
    refine sV (AE (evb rfl e5a) rfl) ?_
    obtain rfl:=sj f5p
    exact HJ39 _ _ ⟨uu,uu,rfl,(by simp only [S0,S1]<;>rfl)⟩
  ·rintro l' _ ⟨t3i,t4i,rfl,hq'⟩ l'' hl
   rw [hq'] at hl
   clear hq'
   simp only [S0,S1] at hl
   subst hl
   refine sV (Aa rfl) ?_
   obtain ⟨m6p,h5i,f7p⟩:=Ab f1p
   refine BT 13 (fun l l' w'=>∃(t6i:Value) (t7i:Value) (t8i:Value) (t9i:Value) (t0j:Value),w=w'∧l'=((((((l.set 24 t6i).set 25 t7i).set 26 t8i).set 27 t9i).set 28 t0j).set 29 (.bool m6p))) ?_ ?_
   ·intro HJ77
    rcases bft m1i with e2a | e2a
    ·have p8p:=e2a
     have f9p:=ifP p8p h5i
     refine sP ?_ (hw:=wgF rfl e2a)
     refine sP ?_ (hw:=wgF rfl e2a)
     refine sP ?_ (hw:=wgF rfl e2a)
     refine sP ?_
     refine sP ?_ (hw:=wgF rfl e2a)
     refine sV (AA (evb rfl e2a) rfl) ?_
     obtain rfl:=sj f9p
     exact HJ77 _ _ ⟨uu,uu,uu,uu,uu,rfl,(by simp only [S0,S1]<;>rfl)⟩
    ·have p0q:=bF e2a
     have f1q:=ifN p0q h5i
     refine sV (Aa rfl) ?_ (hw:=wgT rfl e2a)
     refine sb (Cd rfl rfl) ?_ (hw:=wgT rfl e2a)
     intro z8a hz8a
     refine nrm ?_
     refine sV (Aa rfl) ?_ (hw:=wgT rfl e2a)
     obtain ⟨m1j,h2j,f2q⟩:=Ab f1q
     refine BT 12 (fun l l' w'=>∃(t4c:Value),w=w'∧l'=((l.set 27 t4c).set 28 (.bool m1j))) ?_ ?_
     ·intro HJ94
      rcases bft z8a with e7a | e7a
      ·have p3q:=zP hz8a e7a
       have f4q:=ifP p3q h2j
       refine sV (Aa rfl) ?_ (hw:=wgT rfl e7a)
       refine sV (AA (evb rfl e7a) rfl) ?_ (hw:=wgT rfl e2a)
       obtain rfl:=sj f4q
       exact HJ94 _ _ ⟨(.bool x3),rfl,(by simp only [S0,S1]<;>rfl)⟩
      ·have p5q:=zN hz8a e7a
       have f6q:=ifN p5q h2j
       refine sP ?_ (hw:=wgF rfl e7a)
       refine sV (AE (evb rfl e7a) rfl) ?_ (hw:=wgT rfl e2a)
       obtain rfl:=sj f6q
       exact HJ94 _ _ ⟨uu,rfl,(by simp only [S0,S1]<;>rfl)⟩
     ·rintro l' _ ⟨t4c,rfl,hq'⟩ l'' hl
      rw [hq'] at hl
      clear hq'
      simp only [S0,S1] at hl
      subst hl
      refine sV (AE (evb rfl e2a) rfl) ?_
      obtain rfl:=sj f2q
      exact HJ77 _ _ ⟨(.int .i64 x4),(.bool z8a),(.bool z8a),t4c,(.bool m1j),rfl,(by simp only [S0,S1]<;>rfl)⟩
   ·rintro l' _ ⟨t6i,t7i,t8i,t9i,t0j,rfl,hq'⟩ l'' hl
    rw [hq'] at hl
    clear hq'
    simp only [S0,S1] at hl
    subst hl
    refine sV (Ac rfl) ?_
    refine Ad<|h0i _ _<|wp_seq_k fun K3j h3j=>wp_seq_k fun K4j h4j=>Ai<|sV (Aa rfl) ?_
    refine sb (Cd rfl rfl) fun z0c hz0c=>?_
    refine nrm ?_
    refine sV (Aa rfl) ?_
    obtain ⟨m5j,h6j,f7q⟩:=Ab f7p
    refine BT 6 (fun l l' w'=>∃(t7j:Value) (t8j:Value),w=w'∧l'=(((l.set 33 t7j).set 34 t8j).set 35 (.bool m5j))) ?_ ?_
    ·intro HJ115
     rcases bft z0c with e6a | e6a
     ·have p8q:=zP hz0c e6a
      have f9q:=ifP p8q h6j
      refine sP ?_ (hw:=wgF rfl e6a)
      refine sP ?_ (hw:=wgF rfl e6a)
      refine sV (AA (evb rfl e6a) rfl) ?_
      obtain rfl:=sj f9q
      exact HJ115 _ _ ⟨uu,uu,rfl,(by simp only [S0,S1]<;>rfl)⟩
     ·have p0r:=zN hz0c e6a
      have f1r:=ifN p0r h6j
      refine sV (Aa rfl) ?_ (hw:=wgT rfl e6a)
      refine sb (Cd rfl rfl) ?_ (hw:=wgT rfl e6a)
      intro z5c hz5c
      refine nrm ?_
      refine sV (AE (evb rfl e6a) rfl) ?_
      obtain rfl:z5c=decide (x4=2):=bz hz5c
      obtain rfl:=sj f1r
      exact HJ115 _ _ ⟨(.int .i64 x4),(.bool (decide (x4=2))),rfl,(by simp only [S0,S1]<;>rfl)⟩
    ·rintro l' _ ⟨t7j,t8j,rfl,hq'⟩ l'' hl
     rw [hq'] at hl
     clear hq'
     simp only [S0,S1] at hl
     subst hl
     refine Ad<|h4j _ _ ?_
     obtain ⟨m9j,h0k,f1k⟩:=Ab f7q
     refine Ch (fun l l' w'=>∃(t2k:Value) (t3k:Value) (t4k:Value) (t5k:Value) (t6k:Value) (t7k:Value) (t8k:Value) (t9k:Value) (t0l:Value) (t1l:Value) (t2l:Value) (t3l:Value) (t4l:Value) (t5l:Value) (t6l:Value) (t7l:Value) (t8l:Value) (t9l:Value) (t0m:Value) (t1m:Value) (t2m:Value) (t3m:Value) (t4m:Value) (t5m:Value) (t6m:Value) (t7m:Value) (t8m:Value) (t9m:Value),UpdS [] w w'∧l'=(((((((((((((((((((((((((((((l.set 11 (.bool m9j)).set 12 t2k).set 36 t3k).set 37 t4k).set 38 t5k).set 39 t6k).set 40 t7k).set 41 t8k).set 42 t9k).set 43 t0l).set 44 t1l).set 45 t2l).set 46 t3l).set 47 t4l).set 48 t5l).set 49 t6l).set 50 t7l).set 51 t8l).set 52 t9l).set 53 t0m).set 54 t1m).set 55 t2m).set 56 t3m).set 57 t4m).set 58 t5m).set 59 t6m).set 60 t7m).set 61 t8m).set 62 t9m)) ?_ ?_
     ·rcases bft m5j with e4b | e4b
      ·have p2r:=e4b
       have f3r:=ifP p2r h0k
       refine wp_cond_true (Al (evb rfl e4b))<|wp_seq_k fun K0n h0n=>Ai<|sV (Aa rfl) ?_
       refine sV (Aa rfl) ?_
       obtain ⟨r6c,h4r,f5r⟩:=Ab f3r
       refine sc (Ae LK (by rfl)) (Fc x1 x1 A4 c5 A4 c5 w hT n6 n6 r6c h4r) ?_
       rintro _ w1 E1c ⟨A1n,c2n,rfl,n6r⟩
       refine nrm ?_
       refine sV (Aa rfl) ?_
       obtain ⟨r5b,h7r,f8r⟩:=Ab f5r
       refine sc (Ae Lg (by rfl)) (Fb r6c x2 A1n c2n A7 c8 w1 (tbx E1c hT) n6r (n9.ext E1c) r5b h7r) ?_
       rintro _ w2 E3n rfl
       refine nrm ?_
       have X9r:=xtr E1c E3n
       refine sV (Ac rfl) ?_
       refine Ad<|h0n _ _<|Ai<|sV (Aa rfl) ?_
       refine sb (Fm rfl rfl) fun z9a hz9a=>?_
       refine nrm ?_
       refine sV (Aa rfl) ?_
       obtain ⟨m4n,h5n,f0s⟩:=Ab f8r
       refine BT 22 (fun l l' w'=>∃(t7c:Value) (t8c:Value) (t9c:Value) (t0d:Value) (t1d:Value) (t2d:Value) (t3d:Value) (t4d:Value) (t5d:Value) (t6d:Value) (t7d:Value) (t8d:Value) (t9d:Value) (t0e:Value) (t1e:Value) (t2e:Value) (t3e:Value) (t4e:Value),w2=w'∧l'=(((((((((((((((((((l.set 44 t7c).set 45 t8c).set 46 t9c).set 47 t0d).set 48 t1d).set 49 t2d).set 50 t3d).set 51 t4d).set 52 t5d).set 53 t6d).set 54 t7d).set 55 t8d).set 56 t9d).set 57 t0e).set 58 t1e).set 59 t2e).set 60 t3e).set 61 t4e).set 62 (.bool m4n))) ?_ ?_
       ·intro HJ1015
        rcases bft z9a with e3a | e3a
        ·have p1s:=zP hz9a e3a
         have f2s:=ifP p1s h5n
         refine sP ?_ (hw:=wgF rfl e3a)
         refine sP ?_ (hw:=wgF rfl e3a)
         refine sP ?_ (hw:=wgF rfl e3a)
         refine sP ?_
         refine sP ?_
         refine sP ?_
         refine sP ?_
         refine sP ?_
         refine sP ?_
         refine sP ?_
         refine sP ?_
         refine sP ?_
         refine sP ?_
         refine sP ?_
         refine sP ?_
         refine sP ?_
         refine sP ?_
         refine sP ?_ (hw:=wgF rfl e3a)
         refine sV (AA (evb rfl e3a) rfl) ?_
         obtain rfl:=sj f2s
         exact HJ1015 _ _ ⟨uu,uu,uu,uu,uu,uu,uu,uu,uu,uu,uu,uu,uu,uu,uu,uu,uu,uu,rfl,(by simp only [S0,S1]<;>rfl)⟩
        ·have p3s:=zN hz9a e3a
         have f4s:=ifN p3s h5n
         refine sV (Aa rfl) ?_ (hw:=wgT rfl e3a)
         refine sb (Cd rfl rfl) ?_ (hw:=wgT rfl e3a)
         intro z0b hz0b
         refine nrm ?_
         refine sV (Aa rfl) ?_ (hw:=wgT rfl e3a)
         obtain ⟨m6n,h7n,f5s⟩:=Ab f4s
         refine BT 21 (fun l l' w'=>∃(t5e:Value) (t6e:Value) (t7e:Value) (t8e:Value) (t9e:Value) (t0f:Value) (t1f:Value) (t2f:Value) (t3f:Value) (t4f:Value) (t5f:Value) (t6f:Value) (t7f:Value) (t8f:Value),w2=w'∧l'=(((((((((((((((l.set 47 t5e).set 48 t6e).set 49 t7e).set 50 t8e).set 51 t9e).set 52 t0f).set 53 t1f).set 54 t2f).set 55 t3f).set 56 t4f).set 57 t5f).set 58 t6f).set 59 t7f).set 60 t8f).set 61 (.bool m6n))) ?_ ?_
         ·intro HJ1157
          rcases bft z0b with e4a | e4a
          ·have p6s:=zP hz0b e4a
           have f7s:=ifP p6s h7n
           refine sV (Aa rfl) ?_ (hw:=wgT rfl e4a)
           refine sb (Cd rfl rfl) ?_ (hw:=wgT rfl e4a)
           intro z1b hz1b
           refine nrm ?_
           refine sV (Aa rfl) ?_ (hw:=wgT rfl e4a)
           obtain ⟨m8n,h9n,f8s⟩:=Ab f7s
           refine BT 20 (fun l l' w'=>∃(t9f:Value) (t0g:Value) (t1g:Value) (t2g:Value) (t3g:Value) (t4g:Value) (t5g:Value) (t6g:Value) (t7g:Value) (t8g:Value),w2=w'∧l'=(((((((((((l.set 50 t9f).set 51 t0g).set 52 t1g).set 53 t2g).set 54 t3g).set 55 t4g).set 56 t5g).set 57 t6g).set 58 t7g).set 59 t8g).set 60 (.bool m8n))) ?_ ?_
           ·intro HJ1226
            rcases bft z1b with e0a | e0a
            ·have p9s:=zP hz1b e0a
             have f0t:=ifP p9s h9n
             refine sP ?_ (hw:=wgF rfl e0a)
             refine sP ?_ (hw:=wgF rfl e0a)
             refine sP ?_ (hw:=wgF rfl e0a)
             refine sP ?_ (hw:=wgF rfl e0a)
             refine sP ?_
             refine sP ?_
             refine sP ?_
             refine sP ?_
             refine sP ?_
             refine sP ?_ (hw:=wgF rfl e0a)
             refine sV (AA (evb rfl e0a) rfl) ?_ (hw:=wgT rfl e4a)
             obtain rfl:=sj f0t
             exact HJ1226 _ _ ⟨uu,uu,uu,uu,uu,uu,uu,uu,uu,uu,rfl,(by simp only [S0,S1]<;>rfl)⟩
            ·have p1t:=zN hz1b e0a
             have f2t:=ifN p1t h9n
             refine sV (Aa rfl) ?_ (hw:=wgT rfl e0a)
             refine sV (AI AH rfl) ?_ (hw:=wgT rfl e0a)
             refine sb (Fm rfl rfl) ?_ (hw:=wgT rfl e0a)
             intro z2b hz2b
             refine nrm ?_
             refine sV (Aa rfl) ?_ (hw:=wgT rfl e0a)
             obtain ⟨m0o,h1o,f3t⟩:=Ab f2t
             refine BT 19 (fun l l' w'=>∃(t9g:Value) (t0h:Value) (t1h:Value) (t2h:Value) (t3h:Value),w2=w'∧l'=((((((l.set 54 t9g).set 55 t0h).set 56 t1h).set 57 t2h).set 58 t3h).set 59 (.bool m0o))) ?_ ?_
             ·intro HJ1258
              rcases bft z2b with e1a | e1a
              ·have p4t:=zP hz2b e1a
               have f5t:=ifP p4t h1o
               refine sV (Aa rfl) ?_ (hw:=wgT rfl e1a)
               obtain ⟨u6b,h6t,f7t⟩:=Ab f5t
               obtain ⟨bb1267,oo1268,hA8t,ia9t,ib0u,hc1270⟩:=RL.nth (n3.ext X9r) h6t
               refine sV (AC AH Au rfl rfl hA8t ia9t ib0u) ?_ (hw:=wgT rfl e1a)
               refine sV (Aj Bh rfl hc1270) ?_ (hw:=wgT rfl e1a)
               refine sV (Iu (c:=u6b.tmod 2) (by decide) rfl rfl rfl) ?_ (hw:=wgT rfl e1a)
               refine sb (Cd rfl rfl) ?_ (hw:=wgT rfl e1a)
               intro z4h hz4h
               refine nrm ?_
               refine sV (AA (evb rfl e1a) rfl) ?_ (hw:=wgT rfl e0a)
               obtain rfl:z4h=decide ((u6b.tmod 2)=1):=bz hz4h
               obtain rfl:=sj f7t
               exact HJ1258 _ _ ⟨(.slice A1 (sz x0) c2),(.pointer (some ⟨bb1267,oo1268+(0:Int).toNat,none⟩)),(.int .u32 u6b),(.int .u32 (u6b.tmod 2)),(.bool (decide ((u6b.tmod 2)=1))),rfl,(by simp only [S0,S1]<;>rfl)⟩
              ·have p1u:=zN hz2b e1a
               have f2u:=ifN p1u h1o
               refine sP ?_ (hw:=wgF rfl e1a)
               refine sP ?_ (hw:=wgF rfl e1a)
               refine sP ?_ (hw:=wgF rfl e1a)
               refine sP ?_ (hw:=wgF rfl e1a)
               refine sP ?_ (hw:=wgF rfl e1a)
               refine sV (AE (evb rfl e1a) rfl) ?_ (hw:=wgT rfl e0a)
               obtain rfl:=sj f2u
               exact HJ1258 _ _ ⟨uu,uu,uu,uu,uu,rfl,(by simp only [S0,S1]<;>rfl)⟩
             ·rintro l' _ ⟨t9g,t0h,t1h,t2h,t3h,rfl,hq'⟩ l'' hl
              rw [hq'] at hl
              clear hq'
              simp only [S0,S1] at hl
              subst hl
              refine sV (AE (evb rfl e0a) rfl) ?_ (hw:=wgT rfl e4a)
              obtain rfl:=sj f3t
              exact HJ1226 _ _ ⟨(.slice A1 (sz x0) c2),(.int .i64 (sz x0:Int)),(.bool z2b),(.bool z2b),t9g,t0h,t1h,t2h,t3h,(.bool m0o),rfl,(by simp only [S0,S1]<;>rfl)⟩
           ·rintro l' _ ⟨t9f,t0g,t1g,t2g,t3g,t4g,t5g,t6g,t7g,t8g,rfl,hq'⟩ l'' hl
            rw [hq'] at hl
            clear hq'
            simp only [S0,S1] at hl
            subst hl
            refine sV (AA (evb rfl e4a) rfl) ?_ (hw:=wgT rfl e3a)
            obtain rfl:=sj f8s
            exact HJ1157 _ _ ⟨(.int .i64 x4),(.bool z1b),(.bool z1b),t9f,t0g,t1g,t2g,t3g,t4g,t5g,t6g,t7g,t8g,(.bool m8n),rfl,(by simp only [S0,S1]<;>rfl)⟩
          ·have p3u:=zN hz0b e4a
           have f4u:=ifN p3u h7n
           refine sP ?_ (hw:=wgF rfl e4a)
           refine sP ?_ (hw:=wgF rfl e4a)
           refine sP ?_ (hw:=wgF rfl e4a)
           refine sP ?_
           refine sP ?_
           refine sP ?_
           refine sP ?_
           refine sP ?_
           refine sP ?_
           refine sP ?_
           refine sP ?_
           refine sP ?_
           refine sP ?_
           refine sP ?_ (hw:=wgF rfl e4a)
           refine sV (AE (evb rfl e4a) rfl) ?_ (hw:=wgT rfl e3a)
           obtain rfl:=sj f4u
           exact HJ1157 _ _ ⟨uu,uu,uu,uu,uu,uu,uu,uu,uu,uu,uu,uu,uu,uu,rfl,(by simp only [S0,S1]<;>rfl)⟩
         ·rintro l' _ ⟨t5e,t6e,t7e,t8e,t9e,t0f,t1f,t2f,t3f,t4f,t5f,t6f,t7f,t8f,rfl,hq'⟩ l'' hl
          rw [hq'] at hl
          clear hq'
          simp only [S0,S1] at hl
          subst hl
          refine sV (AE (evb rfl e3a) rfl) ?_
          obtain rfl:=sj f5s
          exact HJ1015 _ _ ⟨(.int .i64 r5b),(.bool z0b),(.bool z0b),t5e,t6e,t7e,t8e,t9e,t0f,t1f,t2f,t3f,t4f,t5f,t6f,t7f,t8f,(.bool m6n),rfl,(by simp only [S0,S1]<;>rfl)⟩
       ·rintro l' _ ⟨t7c,t8c,t9c,t0d,t1d,t2d,t3d,t4d,t5d,t6d,t7d,t8d,t9d,t0e,t1e,t2e,t3e,t4e,rfl,hq'⟩ l'' hl
        rw [hq'] at hl
        clear hq'
        simp only [S0,S1] at hl
        subst hl
        refine sV (Ac rfl) ?_
        refine Ad ?_
        obtain rfl:=sj f0s
        exact ⟨_,rfl,(.int .i64 r5b),(.slice A4 (sz x1) c5),(.slice A4 (sz x1) c5),(.slice A1n (sz r6c) c2n),(.slice A7 (sz x2) c8),(.int .i64 r5b),(.int .i64 r5b),(.bool z9a),(.bool z9a),t7c,t8c,t9c,t0d,t1d,t2d,t3d,t4d,t5d,t6d,t7d,t8d,t9d,t0e,t1e,t2e,t3e,t4e,(.bool m4n),(((UpdS.refl _ _).ext E1c).ext E3n),(by simp only [S0,S1]<;>rfl)⟩
      ·have p5u:=bF e4b
       have f6u:=ifN p5u h0k
       refine wp_cond_false (Al (evb rfl e4b))<|wp_skip ?_
       obtain rfl:=sj f6u
       exact ⟨_,rfl,uu,uu,uu,uu,uu,uu,uu,uu,uu,uu,uu,uu,uu,uu,uu,uu,uu,uu,uu,uu,uu,uu,uu,uu,uu,uu,uu,uu,(UpdS.refl _ _),(by simp only [S0,S1]<;>rfl)⟩
     ·rintro l' w1 ⟨t2k,t3k,t4k,t5k,t6k,t7k,t8k,t9k,t0l,t1l,t2l,t3l,t4l,t5l,t6l,t7l,t8l,t9l,t0m,t1m,t2m,t3m,t4m,t5m,t6m,t7m,t8m,t9m,U7u,hq'⟩ l'' hl
      rw [hq'] at hl
      clear hq'
      simp only [S0,S1] at hl
      subst hl
      have X2c:=GB (Ext.refl _) U7u (Nat.le_refl _) al0
      refine h3j _ _<|wp_seq_k fun K2o h2o=>wp_seq_k fun K3o h3o=>Ai<|sV (Aa rfl) ?_
      refine Ad<|h3o _ _ ?_
      rcases bft m9j with e7b | e7b
      ·have p8u:=e7b
       have f9u:=ifP p8u f1k
       refine wp_cond_true (Al (evb rfl e7b))<|wp_seq_k fun K4o h4o=>Ai<|sV (Aa rfl) ?_
       obtain ⟨r5o,h0v,f1v⟩:=Ab f9u
       refine sc (Ae MP (by rfl)) (HY w1 (tbx X2c hT)  r5o h0v) ?_
       rintro _ w2 E2v ⟨A3v,c4v,rfl,n5v⟩
       refine nrm ?_
       have X5h:=xtr X2c E2v
       obtain ⟨r6v,h7v,f8v⟩:=Ab f1v
       refine sc (Ae LK (by rfl)) (Fc x0 r5o A1 c2 A3v c4v w2 (tbx X5h hT) (n3.ext X5h) n5v r6v h7v) ?_
       rintro _ w3 E9v ⟨A0w,c1w,rfl,n2w⟩
       refine nrm ?_
       have X3w:=xtr X5h E9v
       refine sV (Ac rfl) ?_
       refine Ad<|h4o _ _<|wp_ret ?_
       obtain rfl:=sj f8v
       exact fin rfl (Res.tmp rfl Res.nil) (An X3w ⟨A0w,c1w,rfl,n2w⟩)
      ·have p4w:=bF e7b
       have f5w:=ifN p4w f1k
       refine wp_cond_false (Al (evb rfl e7b))<|wp_skip<|h2o _ _<|wp_seq_k fun K6o h6o=>Ai<|sV (Aa rfl) ?_
       refine sV (Ac rfl) ?_
       refine Ad<|h6o _ _<|wp_ret ?_
       obtain rfl:=sj f5w
       exact fin rfl (Res.tmp rfl Res.nil) (An X2c ⟨A1,c2,rfl,(n3.ext X2c)⟩)
theorem c_sorobanref04_part (x0:Nat) (x1:Nat) (x2:Nat) (x3:Bool) (x4:Int) (x5:Int) (A1:Option Addr) (c2:Nat) (A4:Option Addr) (c5:Nat) (A7:Option Addr) (c8:Nat) (w:World) (hT:TB w) (n3:RU w A1 c2 x0) (n6:RU w A4 c5 x1) (n9:RU w A7 c8 x2) (r:Ag) (hr:EO x0 x1 x2 x3 x4 x5=some r) :
  Calls Tryz.prog 150 #[.slice A1 (sz x0) c2,.slice A4 (sz x1) c5,.slice A7 (sz x2) c8,.bool x3,.int .i64 x4,.int .i64 x5] w (Ret IK w r):=by
 unfold EO at hr
 go_enter Tryz.func150,Tryz.ntmps150
 refine wp_seq_k fun K1a h1a=>Ai<|Aw Fh fun b3d w1 E0a g2b q3b=>?_
 refine nrm ?_
 refine Ad<|h1a _ _<|wp_seq_k fun K2a h2a=>Ai<|sV (Aa rfl) ?_
 refine sV (Aa rfl) ?_
 refine sV (Aa rfl) ?_
 refine sV (Aa rfl) ?_
 refine sV (Aa rfl) ?_
 refine sV (Aa rfl) ?_
 obtain ⟨r3a,h4b,f5b⟩:=Ab hr
 refine sc (Ae en_212 (by rfl)) (c_sorobanref03_Rounded x0 x1 x2 x3 x4 A1 c2 A4 c5 A7 c8 w1 (tbx E0a hT) (n3.ext E0a) (n6.ext E0a) (n9.ext E0a) r3a h4b) ?_
 rintro _ w2 E4a ⟨A6b,c7b,rfl,n8b⟩
 refine nrm ?_
 have X5a:=xtr E0a E4a
 obtain ⟨r6a,h9b,f0c⟩:=Ab f5b
 refine sc (Ae Jb (by rfl)) (Cn x3 r3a A6b c7b w2 (tbx X5a hT) n8b r6a h9b) ?_
 rintro _ w3 E7a ⟨A1c,c2c,rfl,n3c⟩
 refine nrm ?_
 have X8a:=xtr X5a E7a
 refine sV (Aa rfl) ?_
 obtain ⟨r4c,h5c,f6c⟩:=Ab f0c
 refine sc (Ae Mu (by rfl)) (Gg r6a x5 A1c c2c w3 (tbx X8a hT) n3c r4c h5c) ?_
 rintro _ w4 E9a ⟨A7c,c8c,rfl,n9c⟩
 refine nrm ?_
 have X0d:=xtr X8a E9a
 have q0b:=((q3b.ext E4a).ext E7a).ext E9a
 refine Av Cg rfl rfl q0b rfl rfl rfl rfl (by simp only [SP0,SP1,S0,S1,Nat.reduceAdd];rfl) fun w5 U1b q1d=>?_
 have X2d:=AW X0d U1b g2b
 refine Ad<|h2a _ _<|wp_ret ?_
 obtain rfl:=sj f6c
 exact fin rfl (Res.cellN rfl AJ q1d rfl rfl Res.nil) (An X2d ⟨A7c,c8c,rfl,(n9c.upd U1b q0b (by decide))⟩)
theorem c_sorobanref04_FitsSpan (x0:Ak) (A1:Option Addr) (c2:Nat) (A4:Option Addr) (c5:Nat) (w:World) (hT:TB w) (n3:RU w A1 c2 x0.Lo.Man.Abs) (n6:RU w A4 c5 x0.Hi.Man.Abs) (r:Eo) (hr:EN x0=some r) :
  Calls Tryz.prog 108 #[.agg #[.bool x0.Lo.Man.Neg,.slice A1 (sz x0.Lo.Man.Abs) c2,.int .i64 x0.Lo.Exp,.bool x0.Hi.Man.Neg,.slice A4 (sz x0.Hi.Man.Abs) c5,.int .i64 x0.Hi.Exp]] w (Ret rep_81 w r):=by
 unfold EN at hr
 go_enter Tryz.func108,Tryz.ntmps108
 refine wp_seq_k fun K7 h7=>Ai<|Bp rfl rfl fun b8 w1 E9 g7e q8a=>?_
 refine nrm ?_
 refine Aw NQ fun b8e w2 E3a g6c q2b=>?_
 refine nrm ?_
 have g3b:=nlt E9.size g6c
 have X9a:=xtr E9 E3a
 refine Ad<|h7 _ _<|wp_seq_k fun K4b h4b=>wp_seq_k fun K5b h5b=>Ai<|sV (Af (o':=0) Fw rfl rfl) ?_
 refine sV (Ar AJ rfl (q8a.ext E3a) (by simp only [List.drop_zero,List.take_succ_cons,List.take_zero];rfl) rfl) ?_
 obtain ⟨r7c,h8c,f9c⟩:=Ab hr
 refine sc (Ae Lz (by rfl)) (EL (⟨(⟨x0.Lo.Man.Neg,(limbs x0.Lo.Man.Abs)⟩:AR),x0.Lo.Exp⟩:AD) A1 c2 w2 (tbx X9a hT) (n3.ext X9a) r7c h8c) ?_
 rintro _ w3 E1a rfl
 refine nrm ?_
 have X4a:=xtr X9a E1a
 refine sb (GE rfl) fun z5a hz5a=>?_
 refine nrm ?_
 refine sV (Aa rfl) ?_
 obtain ⟨m6b,h7b,f8b⟩:=Ab f9c
 refine BT 10 (fun l l' w'=>∃(t9b:Value) (t0c:Value) (t1c:Value) (t2c:Value),UpdS [] w3 w'∧l'=(((((l.set 8 t9b).set 9 t0c).set 10 t1c).set 11 t2c).set 12 (.bool m6b))) ?_ ?_
 ·intro HJ45
  rcases bft z5a with e0a | e0a
  ·have p0d:=zP hz5a e0a
   have f1d:=ifP p0d h7b
   refine sP ?_ (hw:=wgF rfl e0a)
   refine sP ?_ (hw:=wgF rfl e0a)
   refine sP ?_ (hw:=wgF rfl e0a)
   refine sP ?_ (hw:=wgF rfl e0a)
   refine sV (AA (evb rfl e0a) rfl) ?_
   obtain rfl:=sj f1d
   exact HJ45 _ _ ⟨uu,uu,uu,uu,(UpdS.refl _ _),(by simp only [S0,S1]<;>rfl)⟩
  ·have p2d:=zN hz5a e0a
   have f3d:=ifN p2d h7b
   refine sV (Af (o':=3) Fx rfl rfl) ?_ (hw:=wgT rfl e0a)
   refine sV (Ar AJ rfl ((q8a.ext E3a).ext E1a) (by simp only [List.drop_succ_cons,List.drop_zero,List.take_succ_cons,List.take_zero];rfl) rfl) ?_ (hw:=wgT rfl e0a)
   obtain ⟨r6a,h4d,f5d⟩:=Ab f3d
   refine sc (Ae Lz (by rfl)) (EL (⟨(⟨x0.Hi.Man.Neg,(limbs x0.Hi.Man.Abs)⟩:AR),x0.Hi.Exp⟩:AD) A4 c5 w3 (tbx X4a hT) (n6.ext X4a) r6a h4d) ?_ (hw:=wgT rfl e0a)
   rintro _ w4 E6d rfl
   refine nrm ?_
   refine sb (GE rfl) ?_ (hw:=wgT rfl e0a)
   intro z0b hz0b
   refine nrm ?_
   refine sV (AE (evb rfl e0a) rfl) ?_
   obtain rfl:z0b=decide (¬(r6a=true)):=bz hz0b
   obtain rfl:=sj f5d
   exact HJ45 _ _ ⟨(.pointer (some ⟨b8,3,none⟩)),(.agg #[.bool x0.Hi.Man.Neg,.slice A4 (sz x0.Hi.Man.Abs) c5,.int .i64 x0.Hi.Exp]),(.bool r6a),(.bool (decide (¬(r6a=true)))),((UpdS.refl _ _).ext E6d),(by simp only [S0,S1]<;>rfl)⟩
 ·rintro l' w4 ⟨t9b,t0c,t1c,t2c,U7a,hq'⟩ l'' hl
  rw [hq'] at hl
  clear hq'
  simp only [S0,S1] at hl
  subst hl
  have X3c:=GB X4a U7a (X4a).size al0
  refine Ad<|h5b _ _ ?_
  rcases bft m6b with e2a | e2a
  ·have p7d:=e2a
   have f8d:=ifP p7d f8b
   refine wp_cond_true (Al (evb rfl e2a))<|wp_seq_k fun K4c h4c=>Ai<|sV (AP (vals:=[(1,.int .i64 2)]) (cells:=[.bool false,.slice none 0 0,.int .i64 0,.bool false,.slice none 0 0,.int .i64 0,.int .i64 2]) (by rfl) (by kernel_rfl)) ?_
   refine Av NH rfl rfl ((q2b.ext E1a).updS U7a nm0) rfl rfl rfl rfl (by simp only [SP0,SP1,S0,S1,Nat.reduceAdd];rfl) fun w5 U9d q0e=>?_
   have X1e:=AW X3c U9d g3b
   refine Ad<|h4c _ _<|wp_ret ?_
   obtain rfl:=sj f8d
   exact fin rfl (Res.cellN rfl NO q0e rfl rfl Res.nil) (An X1e ⟨none,0,none,0,rfl,(RU.nil _),(RU.nil _)⟩)
  ·have p2e:=bF e2a
   have f3e:=ifN p2e f8b
   refine wp_cond_false (Al (evb rfl e2a))<|wp_skip<|h4b _ _<|wp_seq_k fun K5c h5c=>Ai<|have q4e:=((q8a.ext E3a).ext E1a).updS U7a nm0;sV (Am AL rfl q4e rfl) ?_
   refine sV (AP (vals:=[(0,.agg #[.bool x0.Lo.Man.Neg,.slice A1 (sz x0.Lo.Man.Abs) c2,.int .i64 x0.Lo.Exp,.bool x0.Hi.Man.Neg,.slice A4 (sz x0.Hi.Man.Abs) c5,.int .i64 x0.Hi.Exp])]) (cells:=[.bool x0.Lo.Man.Neg,.slice A1 (sz x0.Lo.Man.Abs) c2,.int .i64 x0.Lo.Exp,.bool x0.Hi.Man.Neg,.slice A4 (sz x0.Hi.Man.Abs) c5,.int .i64 x0.Hi.Exp,.int .i64 0]) (by rfl) (by kernel_rfl)) ?_
   refine Av NH rfl rfl ((q2b.ext E1a).updS U7a nm0) rfl rfl rfl rfl (by simp only [SP0,SP1,S0,S1,Nat.reduceAdd];rfl) fun w5 U5e q6e=>?_
   have X1b:=AW X3c U5e g3b
   refine Ad<|h5c _ _<|wp_ret ?_
   obtain rfl:=sj f3e
   exact fin rfl (Res.cellN rfl NO q6e rfl rfl Res.nil) (An X1b ⟨A1,c2,A4,c5,rfl,(n3.ext X1b),(n6.ext X1b)⟩)
theorem Fo (x0:Ak) (x1:Int) (x2:Int) (x3:Ak) (A1:Option Addr) (c2:Nat) (A4:Option Addr) (c5:Nat) (A7:Option Addr) (c8:Nat) (A0b:Option Addr) (c1b:Nat) (w:World) (hT:TB w) (n3:RU w A1 c2 x0.Lo.Man.Abs) (n6:RU w A4 c5 x0.Hi.Man.Abs) (n9:RU w A7 c8 x3.Lo.Man.Abs) (n0e:RU w A0b c1b x3.Hi.Man.Abs) (r:Bool) (hr:Bo x0 x1 x2 x3=some r) :
  Calls Tryz.prog 22 #[.agg #[.bool x0.Lo.Man.Neg,.slice A1 (sz x0.Lo.Man.Abs) c2,.int .i64 x0.Lo.Exp,.bool x0.Hi.Man.Neg,.slice A4 (sz x0.Hi.Man.Abs) c5,.int .i64 x0.Hi.Exp],.int .i64 x1,.int .i64 x2,.agg #[.bool x3.Lo.Man.Neg,.slice A7 (sz x3.Lo.Man.Abs) c8,.int .i64 x3.Lo.Exp,.bool x3.Hi.Man.Neg,.slice A0b (sz x3.Hi.Man.Abs) c1b,.int .i64 x3.Hi.Exp]] w (Ret FW w r):=by
 unfold Bo at hr
 go_enter Tryz.func22,Tryz.ntmps22
 refine wp_seq_k fun K3b h3b=>Ai<|Bp rfl rfl fun b8h w1 E4b g9h q5b=>?_
 refine nrm ?_
 refine Bp rfl rfl fun b0i w2 E2b g1e q2e=>?_
 refine nrm ?_
 have g1i:=nlt E4b.size g1e
 have X2a:=xtr E4b E2b
 refine sV (Ac rfl) ?_
 refine Ad<|h3b _ _<|wp_seq_k fun K6b h6b=>wp_seq_k fun K7b h7b=>Ai<|sV (Aa rfl) ?_
 refine sb (Ie rfl rfl) fun z6a hz6a=>?_
 refine nrm ?_
 refine Ad<|h7b _ _ ?_
 rcases bft z6a with e4a | e4a
 ·have p3e:=zP hz6a e4a
  have f4e:=ifP p3e hr
  refine wp_cond_true (Al (evb rfl e4a))<|wp_seq_k fun K8b h8b=>Ai<|sV (Aa rfl) ?_
  refine sV (Aa rfl) ?_
  refine sb (Cd rfl rfl) fun z7a hz7a=>?_
  refine nrm ?_
  refine sV (Aa rfl) ?_
  obtain ⟨m5e,h9b,f6e⟩:=Ab f4e
  refine BT 8 (fun l l' w'=>∃(t0c:Value) (t1c:Value) (t2c:Value),UpdS [] w2 w'∧l'=((((l.set 16 t0c).set 17 t1c).set 18 t2c).set 19 (.bool m5e))) ?_ ?_
  ·intro HJ143
   rcases bft z7a with e1a | e1a
   ·have p7e:=zP hz7a e1a
    have f8e:=ifP p7e h9b
    refine sV (Am AL rfl (q5b.ext E2b) rfl) ?_ (hw:=wgT rfl e1a)
    refine sV (AP (vals:=[]) (cells:=[.bool false,.slice none 0 0,.int .i64 0,.bool false,.slice none 0 0,.int .i64 0]) (by rfl) (by kernel_rfl)) ?_ (hw:=wgT rfl e1a)
    obtain ⟨r3c,h9e,f0f⟩:=Ab f8e
    refine sc (Ae LG (by rfl)) (DH x0 (⟨(⟨(⟨false,0⟩:Ah),0⟩:Ag),(⟨(⟨false,0⟩:Ah),0⟩:Ag)⟩:Ak) A1 c2 A4 c5 none 0 none 0 w2 (tbx X2a hT) (n3.ext X2a) (n6.ext X2a) (RU.nil _) (RU.nil _) r3c h9e) ?_ (hw:=wgT rfl e1a)
    rintro _ w3 E1f rfl
    refine nrm ?_
    refine sV (AA (evb rfl e1a) rfl) ?_
    obtain rfl:=sj f0f
    exact HJ143 _ _ ⟨(.agg #[.bool x0.Lo.Man.Neg,.slice A1 (sz x0.Lo.Man.Abs) c2,.int .i64 x0.Lo.Exp,.bool x0.Hi.Man.Neg,.slice A4 (sz x0.Hi.Man.Abs) c5,.int .i64 x0.Hi.Exp]),(.agg #[.bool false,.slice none 0 0,.int .i64 0,.bool false,.slice none 0 0,.int .i64 0]),(.bool r3c),((UpdS.refl _ _).ext E1f),(by simp only [S0,S1]<;>rfl)⟩
   ·have p2f:=zN hz7a e1a
    have f3f:=ifN p2f h9b
    refine sP ?_ (hw:=wgF rfl e1a)
    refine sP ?_ (hw:=wgF rfl e1a)
    refine sP ?_ (hw:=wgF rfl e1a)
    refine sV (AE (evb rfl e1a) rfl) ?_
    obtain rfl:=sj f3f
    exact HJ143 _ _ ⟨uu,uu,uu,(UpdS.refl _ _),(by simp only [S0,S1]<;>rfl)⟩
  ·rintro l' w3 ⟨t0c,t1c,t2c,U4f,hq'⟩ l'' hl
   rw [hq'] at hl
   clear hq'
   simp only [S0,S1] at hl
   subst hl
   have X5f:=GB X2a U4f (X2a).size al0
   refine sV (Ac rfl) ?_
   refine Ad<|h8b _ _<|wp_ret ?_
   obtain rfl:=sj f6e
   exact fin rfl (Res.tmp rfl Res.nil) (An X5f rfl)
 ·have p6f:=zN hz6a e4a
  have f7f:=ifN p6f hr
  refine wp_cond_false (Al (evb rfl e4a))<|wp_skip<|h6b _ _<|wp_seq_k fun K4c h4c=>Ai<|sV (Am AL rfl q2e rfl) ?_
  obtain ⟨r3a,h8f,f9f⟩:=Ab f7f
  refine sc (Ae en_108 (by rfl)) (c_sorobanref04_FitsSpan x3 A7 c8 A0b c1b w2 (tbx X2a hT) (n9.ext X2a) (n0e.ext X2a) r3a h8f) ?_
  rintro _ w3 E5c ⟨A6c,c7c,A8c,c9c,rfl,n0g,n1g⟩
  refine nrm ?_
  have X0d:=xtr X2a E5c
  refine Aw NQ fun b2g w4 E3g g1d q4g=>?_
  refine nrm ?_
  have g2i:=nlt X0d.size g1d
  refine Av NH rfl rfl q4g rfl rfl rfl rfl (by simp only [SP0,SP1,S0,S1,Nat.reduceAdd];rfl) fun w5 U5g q2d=>?_
  have F8a:=AW E3g U5g g1d
  have X5a:=xtr X0d F8a
  refine Ad<|h4c _ _<|wp_seq_k fun K3d h3d=>Ai<|sV (Aa rfl) ?_
  refine sV (Af (o':=6) fa_81_1 rfl rfl) ?_
  refine sV (Aj EM rfl (Bx.cell q2d rfl)) ?_
  refine sb (Cd rfl rfl) fun z9a hz9a=>?_
  refine nrm ?_
  refine sV (Aa rfl) ?_
  obtain ⟨m6g,h4d,f7g⟩:=Ab f9f
  refine BT 10 (fun l l' w'=>∃(t5d:Value) (t6d:Value) (t7d:Value) (t8d:Value),UpdS [] w5 w'∧l'=(((((l.set 27 t5d).set 28 t6d).set 29 t7d).set 30 t8d).set 31 (.bool m6g))) ?_ ?_
  ·intro HJ111
   rcases bft z9a with e0a | e0a
   ·have p8g:=zP hz9a e0a
    have f9g:=ifP p8g h4d
    have q0h:=((q5b.ext E2b).ext E5c).ext F8a
    refine sV (Am AL rfl q0h rfl) ?_ (hw:=wgT rfl e0a)
    refine sV (Af (o':=0) fa_81_0 rfl rfl) ?_ (hw:=wgT rfl e0a)
    refine sV (Ar AL rfl q2d (by simp only [List.drop_zero,List.take_succ_cons,List.take_zero];rfl) rfl) ?_ (hw:=wgT rfl e0a)
    obtain ⟨r9d,h1h,f2h⟩:=Ab f9g
    refine sc (Ae LG (by rfl)) (DH x0 r3a.S A1 c2 A4 c5 A6c c7c A8c c9c w5 (tbx X5a hT) (n3.ext X5a) (n6.ext X5a) (n0g.ext F8a) (n1g.ext F8a) r9d h1h) ?_ (hw:=wgT rfl e0a)
    rintro _ w6 E3h rfl
    refine nrm ?_
    refine sV (AA (evb rfl e0a) rfl) ?_
    obtain rfl:=sj f2h
    exact HJ111 _ _ ⟨(.agg #[.bool x0.Lo.Man.Neg,.slice A1 (sz x0.Lo.Man.Abs) c2,.int .i64 x0.Lo.Exp,.bool x0.Hi.Man.Neg,.slice A4 (sz x0.Hi.Man.Abs) c5,.int .i64 x0.Hi.Exp]),(.pointer (some ⟨b2g,0,none⟩)),(.agg #[.bool r3a.S.Lo.Man.Neg,.slice A6c (sz r3a.S.Lo.Man.Abs) c7c,.int .i64 r3a.S.Lo.Exp,.bool r3a.S.Hi.Man.Neg,.slice A8c (sz r3a.S.Hi.Man.Abs) c9c,.int .i64 r3a.S.Hi.Exp]),(.bool r9d),((UpdS.refl _ _).ext E3h),(by simp only [S0,S1]<;>rfl)⟩
   ·have p4h:=zN hz9a e0a
    have f5h:=ifN p4h h4d
    refine sP ?_ (hw:=wgF rfl e0a)
    refine sP ?_ (hw:=wgF rfl e0a)
    refine sP ?_ (hw:=wgF rfl e0a)
    refine sP ?_ (hw:=wgF rfl e0a)
    refine sV (AE (evb rfl e0a) rfl) ?_
    obtain rfl:=sj f5h
    exact HJ111 _ _ ⟨uu,uu,uu,uu,(UpdS.refl _ _),(by simp only [S0,S1]<;>rfl)⟩
  ·rintro l' w6 ⟨t5d,t6d,t7d,t8d,U6h,hq'⟩ l'' hl
   rw [hq'] at hl
   clear hq'
   simp only [S0,S1] at hl
   subst hl
   have X7h:=GB X5a U6h (X5a).size al0
   refine sV (Ac rfl) ?_
   refine Ad<|h3d _ _<|wp_ret ?_
   obtain rfl:=sj f7g
   exact fin rfl (Res.tmp rfl Res.nil) (An X7h rfl)
theorem Ht (x0:Ag) (x1:Int) (x2:Int) (A1:Option Addr) (c2:Nat) (w:World) (hT:TB w) (n3:RU w A1 c2 x0.Man.Abs) (r:Ag) (hr:BI x0 x1 x2=some r) :
  Calls Tryz.prog 58 #[.agg #[.bool x0.Man.Neg,.slice A1 (sz x0.Man.Abs) c2,.int .i64 x0.Exp],.int .i64 x1,.int .i64 x2] w (Ret IK w r):=by
 unfold BI at hr
 go_enter Tryz.func58,Tryz.ntmps58
 refine wp_seq_k fun K4 h4=>Ai<|Bp rfl rfl fun b5 w1 E6 g7 q8=>?_
 refine nrm ?_
 refine Aw Fh fun b9 w2 E1a g8d q5b=>?_
 refine nrm ?_
 have g6b:=nlt E6.size g8d
 have X7a:=xtr E6 E1a
 refine Ad<|h4 _ _<|wp_seq_k fun K7b h7b=>Ai<|sV (Af (o':=0) Em rfl rfl) ?_
 refine sV (Af (o':=1) Ct rfl rfl) ?_
 refine sV (Aj EA rfl (Bx.cell (q8.ext E1a) rfl)) ?_
 obtain ⟨r2a,h9d,f8b⟩:=Ab hr
 refine sc (Ae LX (by rfl)) (FD x0.Man.Abs A1 c2 w2 (tbx X7a hT) (n3.ext X7a) r2a h9d) ?_
 rintro _ w3 E3a rfl
 refine nrm ?_
 have X8a:=xtr X7a E3a
 refine sV (Aa rfl) ?_
 refine sV (Bz (c:=wi64 (r2a - x1)) rfl rfl rfl) ?_
 refine sV (Ac rfl) ?_
 refine Ad<|h7b _ _<|wp_seq_k fun K9b h9b=>wp_seq_k fun K0c h0c=>Ai<|sV (Aa rfl) ?_
 refine sb (GP rfl rfl) fun z6a hz6a=>?_
 refine nrm ?_
 refine Ad<|h0c _ _ ?_
 rcases bft z6a with e4a | e4a
 ·have p0e:=zP hz6a e4a
  have f1e:=ifP p0e f8b
  refine wp_cond_true (Al (evb rfl e4a))<|wp_seq_k fun K1c h1c=>Ai<|sV (Am AJ rfl ((q8.ext E1a).ext E3a) rfl) ?_
  refine Av Cg rfl rfl (q5b.ext E3a) rfl rfl rfl rfl (by simp only [SP0,SP1,S0,S1,Nat.reduceAdd];rfl) fun w4 U2e q3e=>?_
  have X2c:=AW X8a U2e g6b
  refine Ad<|h1c _ _<|wp_ret ?_
  obtain rfl:=sj f1e
  exact fin rfl (Res.cellN rfl AJ q3e rfl rfl Res.nil) (An X2c ⟨A1,c2,rfl,(n3.ext X2c)⟩)
 ·have p4e:=zN hz6a e4a
  have f5e:=ifN p4e f8b
  refine wp_cond_false (Al (evb rfl e4a))<|wp_skip<|h9b _ _<|wp_seq_k fun K3c h3c=>Ai ?_
  obtain ⟨r4c,h6e,f7e⟩:=Ab f5e
  refine sc (Ae MP (by rfl)) (HY w3 (tbx X8a hT)  r4c h6e) ?_
  rintro _ w4 E9a ⟨A8e,c9e,rfl,n0f⟩
  refine nrm ?_
  have X5c:=xtr X8a E9a
  refine sV (Aa rfl) ?_
  obtain ⟨r0b,h1f,f2f⟩:=Ab f7e
  refine sc (Ae KA (by rfl)) (FO r4c (wi64 (r2a - x1)) A8e c9e w4 (tbx X5c hT) n0f r0b h1f) ?_
  rintro _ w5 E1b ⟨A6c,c7c,rfl,n8c⟩
  refine nrm ?_
  have X2b:=xtr X5c E1b
  refine sV (Ac rfl) ?_
  refine Ad<|h3c _ _<|wp_seq_k fun K9c h9c=>Ai<|sV (Af (o':=0) Em rfl rfl) ?_
  refine sV (Af (o':=1) Ct rfl rfl) ?_
  have q3b:=(((q8.ext E1a).ext E3a).ext E9a).ext E1b
  refine sV (Aj EA rfl (Bx.cell q3b rfl)) ?_
  refine sV (Aa rfl) ?_
  obtain ⟨r4b,h3f,f4f⟩:=Ab f2f
  refine sc (Ae en_149 (by rfl)) (GJ x0.Man.Abs r0b A1 c2 A6c c7c w5 (tbx X2b hT) (n3.ext X2b) n8c r4b h3f) ?_
  rintro _ w6 E5a ⟨A5f,c6f,A7f,c8f,rfl,n9f,n0g⟩
  refine nrm ?_
  have X0d:=xtr X2b E5a
  refine Aw Ll fun b3h w7 E1g g1d q2g=>?_
  refine nrm ?_
  have g4h:=nlt X0d.size g1d
  refine Av JS rfl rfl q2g rfl rfl rfl rfl (by simp only [SP0,SP1,S0,S1,Nat.reduceAdd];rfl) fun w8 U3g q2d=>?_
  have F0a:=AW E1g U3g g1d
  have X3d:=xtr X0d F0a
  refine Ad<|h9c _ _<|wp_seq_k fun K4d h4d=>Ai<|sV (Af (o':=0) fa_171_0 rfl rfl) ?_
  refine sV (Aj EA rfl (Bx.cell q2d rfl)) ?_
  refine sV (Af (o':=1) fa_171_1 rfl rfl) ?_
  refine sV (Aj EA rfl (Bx.cell q2d rfl)) ?_
  refine sV (Aa rfl) ?_
  refine sV (Af (o':=0) Em rfl rfl) ?_
  refine sV (Af (o':=0) FA rfl rfl) ?_
  refine sV (Aj Gd rfl (Bx.cell ((q3b.ext E5a).ext F0a) rfl)) ?_
  refine sV (Aa rfl) ?_
  refine sV (Af (o':=2) ES rfl rfl) ?_
  refine sV (Aj EY rfl (Bx.cell ((q3b.ext E5a).ext F0a) rfl)) ?_
  refine sV (Aa rfl) ?_
  refine sV (AV (c:=wi64 (x0.Exp+(wi64 (r2a - x1)))) rfl rfl rfl) ?_
  obtain ⟨r4g,h5g,f6g⟩:=Ab f4f
  refine sc (Ae en_150 (by rfl)) (c_sorobanref04_part r4b.Q r4b.R r0b x0.Man.Neg x2 (wi64 (x0.Exp+(wi64 (r2a - x1)))) A5f c6f A7f c8f A6c c7c w8 (tbx X3d hT) (n9f.ext F0a) (n0g.ext F0a) ((n8c.ext E5a).ext F0a) r4g h5g) ?_
  rintro _ w9 E5d ⟨A7g,c8g,rfl,n9g⟩
  refine nrm ?_
  have X0h:=xtr X3d E5d
  have q6d:=(((((q5b.ext E3a).ext E9a).ext E1b).ext E5a).ext F0a).ext E5d
  refine Av Cg rfl rfl q6d rfl rfl rfl rfl (by simp only [SP0,SP1,S0,S1,Nat.reduceAdd];rfl) fun w1a U7d q1h=>?_
  have X2h:=AW X0h U7d g6b
  refine Ad<|h4d _ _<|wp_ret ?_
  obtain rfl:=sj f6g
  exact fin rfl (Res.cellN rfl AJ q1h rfl rfl Res.nil) (An X2h ⟨A7g,c8g,rfl,(n9g.upd U7d q6d (by decide))⟩)
theorem Hx (x0:AD) (A1:Option Addr) (c2:Nat) (w:World) (hT:TB w) (n3:RLu w A1 c2 x0.Man.Abs) (r:Bool) (hr:DP x0=some r) :
  Calls Tryz.prog 44 #[.agg #[.bool x0.Man.Neg,.slice A1 x0.Man.Abs.length c2,.int .i64 x0.Exp]] w (Ret FW w r):=by
 unfold DP at hr
 go_enter Tryz.func44,Tryz.ntmps44
 refine wp_seq_k fun K4 h4=>Ai<|Bp rfl rfl fun b5 w1 E6 g7 q8=>?_
 refine nrm ?_
 refine sV (Ac rfl) ?_
 refine Ad<|h4 _ _<|wp_seq_k fun K9 h9=>Ai<|sV (Af (o':=0) Em rfl rfl) ?_
 refine sV (Af (o':=1) Ct rfl rfl) ?_
 refine sV (Aj EA rfl (Bx.cell q8 rfl)) ?_
 refine sV (AI AH rfl) ?_
 refine sb (GP rfl rfl) fun z4a hz4a=>?_
 refine nrm ?_
 refine sV (Aa rfl) ?_
 obtain ⟨m2d,h5b,f3d⟩:=Ab hr
 refine BT 20 (fun l l' w'=>∃(t6b:Value) (t7b:Value) (t8b:Value) (t9b:Value) (t0c:Value) (t1c:Value) (t2c:Value) (t3c:Value) (t4c:Value) (t5c:Value) (t6c:Value) (t7c:Value) (t8c:Value),UpdS [] w1 w'∧l'=((((((((((((((l.set 9 t6b).set 10 t7b).set 11 t8b).set 12 t9b).set 13 t0c).set 14 t1c).set 15 t2c).set 16 t3c).set 17 t4c).set 18 t5c).set 19 t6c).set 20 t7c).set 21 t8c).set 22 (.bool m2d))) ?_ ?_
 ·intro HJ85
  rcases bft z4a with e0a | e0a
  ·have p4d:=zP hz4a e0a
   have f5d:=ifP p4d h5b
   refine sV (Af (o':=2) ES rfl rfl) ?_ (hw:=wgT rfl e0a)
   refine sV (Aj EY rfl (Bx.cell q8 rfl)) ?_ (hw:=wgT rfl e0a)
   refine sb (Gf rfl rfl) ?_ (hw:=wgT rfl e0a)
   intro z3a hz3a
   refine nrm ?_
   refine sV (Aa rfl) ?_ (hw:=wgT rfl e0a)
   obtain ⟨m5a,h9c,f6d⟩:=Ab f5d
   refine BT 14 (fun l l' w'=>∃(t7a:Value) (t8a:Value) (t9a:Value),w1=w'∧l'=((((l.set 13 t7a).set 14 t8a).set 15 t9a).set 16 (.bool m5a))) ?_ ?_
   ·intro HJ105
    rcases bft z3a with e1a | e1a
    ·have p7d:=zP hz3a e1a
     have f8d:=ifP p7d h9c
     refine sV (Af (o':=2) ES rfl rfl) ?_ (hw:=wgT rfl e1a)
     refine sV (Aj EY rfl (Bx.cell q8 rfl)) ?_ (hw:=wgT rfl e1a)
     refine sb (GP rfl rfl) ?_ (hw:=wgT rfl e1a)
     intro z0b hz0b
     refine nrm ?_
     refine sV (AA (evb rfl e1a) rfl) ?_ (hw:=wgT rfl e0a)
     obtain rfl:z0b=decide (x0.Exp≤3000):=bz hz0b
     obtain rfl:=sj f8d
     exact HJ105 _ _ ⟨(.pointer (some ⟨b5,2,none⟩)),(.int .i64 x0.Exp),(.bool (decide (x0.Exp≤3000))),rfl,(by simp only [S0,S1]<;>rfl)⟩
    ·have p9d:=zN hz3a e1a
     have f0e:=ifN p9d h9c
     refine sP ?_ (hw:=wgF rfl e1a)
     refine sP ?_ (hw:=wgF rfl e1a)
     refine sP ?_ (hw:=wgF rfl e1a)
     refine sV (AE (evb rfl e1a) rfl) ?_ (hw:=wgT rfl e0a)
     obtain rfl:=sj f0e
     exact HJ105 _ _ ⟨uu,uu,uu,rfl,(by simp only [S0,S1]<;>rfl)⟩
   ·rintro l' _ ⟨t7a,t8a,t9a,rfl,hq'⟩ l'' hl
    rw [hq'] at hl
    clear hq'
    simp only [S0,S1] at hl
    subst hl
    refine sV (Aa rfl) ?_ (hw:=wgT rfl e0a)
    obtain ⟨m0d,h1d,f1e⟩:=Ab f6d
    refine BT 19 (fun l l' w'=>∃(t1b:Value) (t2b:Value) (t3b:Value),UpdS [] w1 w'∧l'=((((l.set 18 t1b).set 19 t2b).set 20 t3b).set 21 (.bool m0d))) ?_ ?_
    ·intro HJ130
     rcases bft m5a with e2a | e2a
     ·have p2e:=e2a
      have f3e:=ifP p2e h1d
      refine sP ?_ (hw:=wgF rfl e2a)
      refine sP ?_ (hw:=wgF rfl e2a)
      refine sP ?_ (hw:=wgF rfl e2a)
      refine sV (AA (evb rfl e2a) rfl) ?_ (hw:=wgT rfl e0a)
      obtain rfl:=sj f3e
      exact HJ130 _ _ ⟨uu,uu,uu,(UpdS.refl _ _),(by simp only [S0,S1]<;>rfl)⟩
     ·have p4e:=bF e2a
      have f5e:=ifN p4e h1d
      refine sV (Am AJ rfl q8 rfl) ?_ (hw:=wgT rfl e2a)
      obtain ⟨r6a,h6e,f7e⟩:=Ab f5e
      refine sc (Ae Lz (by rfl)) (EL x0 A1 c2 w1 (tbx E6 hT) (n3.ext E6) r6a h6e) ?_ (hw:=wgT rfl e2a)
      rintro _ w2 E8e rfl
      refine nrm ?_
      refine sb (GE rfl) ?_ (hw:=wgT rfl e2a)
      intro z4b hz4b
      refine nrm ?_
      refine sV (AE (evb rfl e2a) rfl) ?_ (hw:=wgT rfl e0a)
      obtain rfl:z4b=decide (¬(r6a=true)):=bz hz4b
      obtain rfl:=sj f7e
      exact HJ130 _ _ ⟨(.agg #[.bool x0.Man.Neg,.slice A1 x0.Man.Abs.length c2,.int .i64 x0.Exp]),(.bool r6a),(.bool (decide (¬(r6a=true)))),((UpdS.refl _ _).ext E8e),(by simp only [S0,S1]<;>rfl)⟩
    ·rintro l' w2 ⟨t1b,t2b,t3b,U9e,hq'⟩ l'' hl
     rw [hq'] at hl
     clear hq'
     simp only [S0,S1] at hl
     subst hl
     refine sV (AA (evb rfl e0a) rfl) ?_
     obtain rfl:=sj f1e
     exact HJ85 _ _ ⟨(.pointer (some ⟨b5,2,none⟩)),(.int .i64 x0.Exp),(.bool z3a),(.bool z3a),t7a,t8a,t9a,(.bool m5a),(.bool m5a),t1b,t2b,t3b,(.bool m0d),((UpdS.refl _ _).updS U9e al0),(by simp only [S0,S1]<;>rfl)⟩
  ·have p0f:=zN hz4a e0a
   have f1f:=ifN p0f h5b
   refine sP ?_ (hw:=wgF rfl e0a)
   refine sP ?_ (hw:=wgF rfl e0a)
   refine sP ?_ (hw:=wgF rfl e0a)
   refine sP ?_ (hw:=wgF rfl e0a)
   refine sP ?_
   refine sP ?_
   refine sP ?_
   refine sP ?_ (hw:=wgF rfl e0a)
   refine sP ?_ (hw:=wgF rfl e0a)
   refine sP ?_
   refine sP ?_
   refine sP ?_
   refine sP ?_ (hw:=wgF rfl e0a)
   refine sV (AE (evb rfl e0a) rfl) ?_
   obtain rfl:=sj f1f
   exact HJ85 _ _ ⟨uu,uu,uu,uu,uu,uu,uu,uu,uu,uu,uu,uu,uu,(UpdS.refl _ _),(by simp only [S0,S1]<;>rfl)⟩
 ·rintro l' w2 ⟨t6b,t7b,t8b,t9b,t0c,t1c,t2c,t3c,t4c,t5c,t6c,t7c,t8c,U2f,hq'⟩ l'' hl
  rw [hq'] at hl
  clear hq'
  simp only [S0,S1] at hl
  subst hl
  have X3f:=GB E6 U2f (E6).size al0
  refine sV (Ac rfl) ?_
  refine Ad<|h9 _ _<|wp_ret ?_
  obtain rfl:=sj f3d
  exact fin rfl (Res.tmp rfl Res.nil) (An X3f rfl)
end Go.Proofs

