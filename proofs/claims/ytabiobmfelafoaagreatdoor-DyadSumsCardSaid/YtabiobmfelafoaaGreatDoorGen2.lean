import Derived.Test.YtabiobmfelafoaaGreatDoorGen1
namespace Go.Proofs
set_option linter.unusedVariables false
set_option linter.unusedSimpArgs false
set_option maxHeartbeats 4000000
open Go.RowKit Go.Sb Go.Proofs.Sbn
theorem c_sorobanref03_AddInt (x0:Ag) (x1:Ag) (A1:Option Addr) (c2:Nat) (A4:Option Addr) (c5:Nat) (w:World) (hT:TB w) (n3:RU w A1 c2 x0.Abs) (n6:RU w A4 c5 x1.Abs) (r:Ag) (hr:Eu x0 x1=some r) :
  Calls Tryz.prog 129 #[.agg #[.bool x0.Neg,.slice A1 (sz x0.Abs) c2],.agg #[.bool x1.Neg,.slice A4 (sz x1.Abs) c5]] w (Ret IX w r):=by
 unfold Eu at hr
 go_enter Tryz.func129,Tryz.ntmps129
 refine wp_seq_k fun K7 h7=>Ai<|Bl rfl rfl fun b8 w1 E9 g6k q3a=>?_
 refine nrm ?_
 refine Bl rfl rfl fun b7k w2 E2a g9e q4a=>?_
 refine nrm ?_
 have g8k:=nlt E9.size g9e
 have X7c:=xtr E9 E2a
 refine Ax Jm fun b9k w3 E0a g0f q9b=>?_
 refine nrm ?_
 have g0c:=nlt X7c.size g0f
 have X5a:=xtr X7c E0a
 refine Ad<|h7 _ _<|wp_seq_k fun K8c h8c=>wp_seq_k fun K9c h9c=>Ai<|sV (Ah (o':=0) EH rfl rfl) ?_
 refine sV (Aj FL rfl (Bx.cell ((q3a.ext E2a).ext E0a) rfl)) ?_
 refine sV (Ah (o':=0) EH rfl rfl) ?_
 refine sV (Aj FL rfl (Bx.cell (q4a.ext E0a) rfl)) ?_
 refine sb (KP Lu rfl rfl) fun z1b hz1b=>?_
 refine nrm ?_
 refine Ad<|h9c _ _ ?_
 rcases bft z1b with e6a | e6a
 ·have p1f:=zP hz1b e6a
  have f2f:=ifP p1f hr
  refine wp_cond_true (Am (evb rfl e6a))<|wp_seq_k fun K0d h0d=>DG [8] 9 mo rfl fun w4 E7a S2b=>have X3b:=xtr X5a E7a;dA 0 rfl (fun _=>Ah (o':=0) EH rfl rfl) ?_
  refine dV 1 rfl (fun _ hw=>Aj FL rfl (Bx.cell ((((q3a.ext E2a).ext E0a).ext E7a).ext hw) rfl)) S2b ?_
  refine dA 2 rfl (fun _=>Ah (o':=1) Cq rfl rfl) ?_
  refine dV 3 rfl (fun _ hw=>Aj El rfl (Bx.cell ((((q3a.ext E2a).ext E0a).ext E7a).ext hw) rfl)) S2b ?_
  refine dA 4 rfl (fun _=>Ah (o':=1) Cq rfl rfl) ?_
  refine dV 5 rfl (fun _ hw=>Aj El rfl (Bx.cell (((q4a.ext E0a).ext E7a).ext hw) rfl)) S2b ?_
  obtain ⟨r1d,h3f,f4f⟩:=Aa f2f
  refine dc 6 rfl (by kernel_rfl) (by rfl) (Ae en_189 (by rfl)) (FN x0.Abs x1.Abs A1 c2 A4 c5 w4 (tbx X3b hT) (n3.ext X3b) (n6.ext X3b) r1d h3f) ?_
  rintro _ w5 E1c ⟨A5f,c6f,rfl,n7f⟩
  refine dnrm ?_
  have X2d:=xtr X3b E1c
  have S8f:=S2b.trans E1c
  obtain ⟨r9f,h0g,f1g⟩:=Aa f4f
  refine dc 7 rfl (by kernel_rfl) (by rfl) (Ae IC (by rfl)) (Dc x0.Neg r1d A5f c6f w5 (tbx X2d hT) n7f r9f h0g) ?_
  rintro _ w6 E2c ⟨A2g,c3g,rfl,n4g⟩
  refine dnrm ?_
  have X5g:=xtr X2d E2c
  have S0l:=S8f.trans E2c
  have q3d:=((q9b.ext E7a).ext E1c).ext E2c
  refine dk 8 rfl (by kernel_rfl) (by decide) (by rfl) HV rfl rfl q3d rfl rfl rfl rfl (by simp only [SP0,SP1,S0,S1,Nat.reduceAdd];rfl) fun w7 U4d q6g=>?_
  have X7g:=AV X5g U4d g0c
  refine CH (by kernel_rfl) ?_
  refine h0d _ _<|wp_ret ?_
  obtain rfl:=sj f1g
  exact fin rfl (Res.cellN rfl Fo q6g rfl rfl Res.nil) (An X7g ⟨A2g,c3g,rfl,(n4g.upd U4d q3d (by decide))⟩)
 ·have p8g:=zN hz1b e6a
  have f9g:=ifN p8g hr
  refine wp_cond_false (Am (evb rfl e6a))<|wp_skip<|h8c _ _<|wp_seq_k fun K5d h5d=>wp_seq_k fun K6d h6d=>Ai<|sV (Ah (o':=1) Cq rfl rfl) ?_
  refine sV (Aj El rfl (Bx.cell ((q3a.ext E2a).ext E0a) rfl)) ?_
  refine sV (Ah (o':=1) Cq rfl rfl) ?_
  refine sV (Aj El rfl (Bx.cell (q4a.ext E0a) rfl)) ?_
  obtain ⟨r0h,h1h,f7d⟩:=Aa f9g
  refine sc (Ae LG (by rfl)) (FU x0.Abs x1.Abs A1 c2 A4 c5 w3 (tbx X5a hT) (n3.ext X5a) (n6.ext X5a) r0h h1h) ?_
  rintro _ w4 E1a rfl
  refine nrm ?_
  have X8d:=xtr X5a E1a
  refine sb (FK rfl rfl) fun z4b hz4b=>?_
  refine nrm ?_
  refine Ad<|h6d _ _ ?_
  rcases bft z4b with e8a | e8a
  ·have p2h:=zP hz4b e8a
   have f3h:=ifP p2h f7d
   refine wp_cond_true (Am (evb rfl e8a))<|wp_seq_k fun K9d h9d=>DG [8] 9 mo rfl fun w5 E9a S5b=>have X6b:=xtr X8d E9a;dA 0 rfl (fun _=>Ah (o':=0) EH rfl rfl) ?_
   refine dV 1 rfl (fun _ hw=>Aj FL rfl (Bx.cell (((((q3a.ext E2a).ext E0a).ext E1a).ext E9a).ext hw) rfl)) S5b ?_
   refine dA 2 rfl (fun _=>Ah (o':=1) Cq rfl rfl) ?_
   refine dV 3 rfl (fun _ hw=>Aj El rfl (Bx.cell (((((q3a.ext E2a).ext E0a).ext E1a).ext E9a).ext hw) rfl)) S5b ?_
   refine dA 4 rfl (fun _=>Ah (o':=1) Cq rfl rfl) ?_
   refine dV 5 rfl (fun _ hw=>Aj El rfl (Bx.cell ((((q4a.ext E0a).ext E1a).ext E9a).ext hw) rfl)) S5b ?_
   obtain ⟨r0e,h4h,f5h⟩:=Aa f3h
   refine dc 6 rfl (by kernel_rfl) (by rfl) (Ae LF (by rfl)) (EV x0.Abs x1.Abs A1 c2 A4 c5 w5 (tbx X6b hT) (n3.ext X6b) (n6.ext X6b) r0e h4h) ?_
   rintro _ w6 E3c ⟨A6h,c7h,rfl,n8h⟩
   refine dnrm ?_
   have X1e:=xtr X6b E3c
   have S9h:=S5b.trans E3c
   obtain ⟨r0i,h1i,f2i⟩:=Aa f5h
   refine dc 7 rfl (by kernel_rfl) (by rfl) (Ae IC (by rfl)) (Dc x0.Neg r0e A6h c7h w6 (tbx X1e hT) n8h r0i h1i) ?_
   rintro _ w7 E4c ⟨A3i,c4i,rfl,n5i⟩
   refine dnrm ?_
   have X6i:=xtr X1e E4c
   have S1l:=S9h.trans E4c
   have q2e:=(((q9b.ext E1a).ext E9a).ext E3c).ext E4c
   refine dk 8 rfl (by kernel_rfl) (by decide) (by rfl) HV rfl rfl q2e rfl rfl rfl rfl (by simp only [SP0,SP1,S0,S1,Nat.reduceAdd];rfl) fun w8 U3e q7i=>?_
   have X8i:=AV X6i U3e g0c
   refine CH (by kernel_rfl) ?_
   refine h9d _ _<|wp_ret ?_
   obtain rfl:=sj f2i
   exact fin rfl (Res.cellN rfl Fo q7i rfl rfl Res.nil) (An X8i ⟨A3i,c4i,rfl,(n5i.upd U3e q2e (by decide))⟩)
  ·have p9i:=zN hz4b e8a
   have f0j:=ifN p9i f7d
   refine wp_cond_false (Am (evb rfl e8a))<|wp_skip<|h5d _ _<|wp_seq_k fun K4e h4e=>DG [8] 9 mo rfl fun w5 E0b S7b=>have X8b:=xtr X8d E0b;dA 0 rfl (fun _=>Ah (o':=0) EH rfl rfl) ?_
   refine dV 1 rfl (fun _ hw=>Aj FL rfl (Bx.cell ((((q4a.ext E0a).ext E1a).ext E0b).ext hw) rfl)) S7b ?_
   refine dA 2 rfl (fun _=>Ah (o':=1) Cq rfl rfl) ?_
   refine dV 3 rfl (fun _ hw=>Aj El rfl (Bx.cell ((((q4a.ext E0a).ext E1a).ext E0b).ext hw) rfl)) S7b ?_
   refine dA 4 rfl (fun _=>Ah (o':=1) Cq rfl rfl) ?_
   refine dV 5 rfl (fun _ hw=>Aj El rfl (Bx.cell (((((q3a.ext E2a).ext E0a).ext E1a).ext E0b).ext hw) rfl)) S7b ?_
   obtain ⟨r5e,h1j,f2j⟩:=Aa f0j
   refine dc 6 rfl (by kernel_rfl) (by rfl) (Ae LF (by rfl)) (EV x1.Abs x0.Abs A4 c5 A1 c2 w5 (tbx X8b hT) (n6.ext X8b) (n3.ext X8b) r5e h1j) ?_
   rintro _ w6 E5c ⟨A3j,c4j,rfl,n5j⟩
   refine dnrm ?_
   have X6e:=xtr X8b E5c
   have S6j:=S7b.trans E5c
   obtain ⟨r7j,h8j,f9j⟩:=Aa f2j
   refine dc 7 rfl (by kernel_rfl) (by rfl) (Ae IC (by rfl)) (Dc x1.Neg r5e A3j c4j w6 (tbx X6e hT) n5j r7j h8j) ?_
   rintro _ w7 E6c ⟨A0k,c1k,rfl,n2k⟩
   refine dnrm ?_
   have X3k:=xtr X6e E6c
   have S2l:=S6j.trans E6c
   have q7e:=(((q9b.ext E1a).ext E0b).ext E5c).ext E6c
   refine dk 8 rfl (by kernel_rfl) (by decide) (by rfl) HV rfl rfl q7e rfl rfl rfl rfl (by simp only [SP0,SP1,S0,S1,Nat.reduceAdd];rfl) fun w8 U8e q4k=>?_
   have X5k:=AV X3k U8e g0c
   refine CH (by kernel_rfl) ?_
   refine h4e _ _<|wp_ret ?_
   obtain rfl:=sj f9j
   exact fin rfl (Res.cellN rfl Fo q4k rfl rfl Res.nil) (An X5k ⟨A0k,c1k,rfl,(n2k.upd U8e q7e (by decide))⟩)
theorem Hc (x0:Af) (x1:Af) (A1:Option Addr) (c2:Nat) (A4:Option Addr) (c5:Nat) (w:World) (hT:TB w) (n3:RU w A1 c2 x0.Man.Abs) (n6:RU w A4 c5 x1.Man.Abs) (r:Af) (hr:BJ x0 x1=some r) :
  Calls Tryz.prog 46 #[.agg #[.bool x0.Man.Neg,.slice A1 (sz x0.Man.Abs) c2,.int .i64 x0.Exp],.agg #[.bool x1.Man.Neg,.slice A4 (sz x1.Man.Abs) c5,.int .i64 x1.Exp]] w (Ret JH w r):=by
 unfold BJ at hr
 go_enter Tryz.func46,Tryz.ntmps46
 refine wp_seq_k fun K7 h7=>Ai<|Bl rfl rfl fun b8 w1 E9 g0i q3a=>?_
 refine nrm ?_
 refine Bl rfl rfl fun b1i w2 E1a g7d q4a=>?_
 refine nrm ?_
 have g2i:=nlt E9.size g7d
 have X8a:=xtr E9 E1a
 refine Ax Dj fun b3i w3 E0a g2b q3b=>?_
 refine nrm ?_
 have g8d:=nlt X8a.size g2b
 have X9d:=xtr X8a E0a
 refine Ad<|h7 _ _<|wp_seq_k fun K9b h9b=>wp_seq_k fun K0c h0c=>Ai<|sV (Ah (o':=0) DY rfl rfl) ?_
 refine sV (Ah (o':=1) Cq rfl rfl) ?_
 refine sV (Aj El rfl (Bx.cell ((q3a.ext E1a).ext E0a) rfl)) ?_
 refine sV (AP Bs rfl) ?_
 refine sb (Cr rfl rfl) fun z9a hz9a=>?_
 refine nrm ?_
 refine Ad<|h0c _ _ ?_
 rcases bft z9a with e5a | e5a
 ·have p0e:=zP hz9a e5a
  have f1e:=ifP p0e hr
  refine wp_cond_true (Am (evb rfl e5a))<|wp_seq_k fun K1c h1c=>Ai<|sV (Al AA rfl (q4a.ext E0a) rfl) ?_
  refine Ay Ct rfl rfl q3b rfl rfl rfl rfl (by simp only [SP0,SP1,S0,S1,Nat.reduceAdd];rfl) fun w4 U2e q3e=>?_
  have F4e:=AV E0a U2e g2b
  have X2c:=xtr X8a F4e
  refine Ad<|h1c _ _<|wp_ret ?_
  obtain rfl:=sj f1e
  exact fin rfl (Res.cellN rfl AA q3e rfl rfl Res.nil) (An X2c ⟨A4,c5,rfl,(n6.ext X2c)⟩)
 ·have p5e:=zN hz9a e5a
  have f3c:=ifN p5e hr
  refine wp_cond_false (Am (evb rfl e5a))<|wp_skip<|h9b _ _<|wp_seq_k fun K4c h4c=>wp_seq_k fun K5c h5c=>Ai<|sV (Ah (o':=0) DY rfl rfl) ?_
  refine sV (Ah (o':=1) Cq rfl rfl) ?_
  refine sV (Aj El rfl (Bx.cell (q4a.ext E0a) rfl)) ?_
  refine sV (AP Bs rfl) ?_
  refine sb (Cr rfl rfl) fun z0b hz0b=>?_
  refine nrm ?_
  refine Ad<|h5c _ _ ?_
  rcases bft z0b with e6a | e6a
  ·have p6e:=zP hz0b e6a
   have f7e:=ifP p6e f3c
   refine wp_cond_true (Am (evb rfl e6a))<|wp_seq_k fun K6c h6c=>Ai<|sV (Al AA rfl ((q3a.ext E1a).ext E0a) rfl) ?_
   refine Ay Ct rfl rfl q3b rfl rfl rfl rfl (by simp only [SP0,SP1,S0,S1,Nat.reduceAdd];rfl) fun w4 U8e q9e=>?_
   have F0f:=AV E0a U8e g2b
   have X7c:=xtr X8a F0f
   refine Ad<|h6c _ _<|wp_ret ?_
   obtain rfl:=sj f7e
   exact fin rfl (Res.cellN rfl AA q9e rfl rfl Res.nil) (An X7c ⟨A1,c2,rfl,(n3.ext X7c)⟩)
  ·have p1f:=zN hz0b e6a
   have f2f:=ifN p1f f3c
   refine wp_cond_false (Am (evb rfl e6a))<|wp_skip<|h4c _ _<|wp_seq_k fun K8c h8c=>Ai<|sV (Ah (o':=2) DX rfl rfl) ?_
   refine sV (Aj Ev rfl (Bx.cell ((q3a.ext E1a).ext E0a) rfl)) ?_
   refine sV (Ah (o':=2) DX rfl rfl) ?_
   refine sV (Aj Ev rfl (Bx.cell (q4a.ext E0a) rfl)) ?_
   refine sV (Ln rfl rfl) ?_
   refine sV (Ac rfl) ?_
   refine Ad<|h8c _ _<|wp_seq_k fun K9c h9c=>DG [17] 18 mo rfl fun w4 E2a S7a=>have X4b:=xtr X9d E2a;dA 0 rfl (fun _=>Ah (o':=0) DY rfl rfl) ?_
   refine dV 1 rfl (fun _ hw=>AH Fo rfl ((((q3a.ext E1a).ext E0a).ext E2a).ext hw) (by simp only [List.drop_zero,List.take_succ_cons,List.take_zero];rfl) rfl) S7a ?_
   refine dA 2 rfl (fun _=>Ah (o':=2) DX rfl rfl) ?_
   refine dV 3 rfl (fun _ hw=>Aj Ev rfl (Bx.cell ((((q3a.ext E1a).ext E0a).ext E2a).ext hw) rfl)) S7a ?_
   refine dA 4 rfl (fun _=>Ab rfl) ?_
   refine dA 5 rfl (fun _=>CE (c:=wi64 (x0.Exp - (min x0.Exp x1.Exp))) rfl rfl rfl) ?_
   refine dA 7 rfl (fun _=>Ah (o':=0) DY rfl rfl) ?_
   refine dV 8 rfl (fun _ hw=>AH Fo rfl (((q4a.ext E0a).ext E2a).ext hw) (by simp only [List.drop_zero,List.take_succ_cons,List.take_zero];rfl) rfl) S7a ?_
   refine dA 9 rfl (fun _=>Ah (o':=2) DX rfl rfl) ?_
   refine dV 10 rfl (fun _ hw=>Aj Ev rfl (Bx.cell (((q4a.ext E0a).ext E2a).ext hw) rfl)) S7a ?_
   refine dA 11 rfl (fun _=>Ab rfl) ?_
   refine dA 12 rfl (fun _=>CE (c:=wi64 (x1.Exp - (min x0.Exp x1.Exp))) rfl rfl rfl) ?_
   refine dA 15 rfl (fun _=>Ab rfl) ?_
   obtain ⟨r0d,h3f,f4f⟩:=Aa f2f
   refine dc 6 rfl (by kernel_rfl) (by rfl) (Ae LJ (by rfl)) (Gt x0.Man (wi64 (x0.Exp - (min x0.Exp x1.Exp))) A1 c2 w4 (tbx X4b hT) (n3.ext X4b) r0d h3f) ?_
   rintro _ w5 E5b ⟨A5f,c6f,rfl,n7f⟩
   refine dnrm ?_
   have X6b:=xtr X4b E5b
   have S8f:=S7a.trans E5b
   obtain ⟨r1d,h9f,f0g⟩:=Aa f4f
   refine dc 13 rfl (by kernel_rfl) (by rfl) (Ae LJ (by rfl)) (Gt x1.Man (wi64 (x1.Exp - (min x0.Exp x1.Exp))) A4 c5 w5 (tbx X6b hT) (n6.ext X6b) r1d h9f) ?_
   rintro _ w6 E1b ⟨A1g,c2g,rfl,n3g⟩
   refine dnrm ?_
   have X2d:=xtr X6b E1b
   have S4g:=S8f.trans E1b
   obtain ⟨r3d,h5g,f6g⟩:=Aa f0g
   refine dc 14 rfl (by kernel_rfl) (by rfl) (Ae en_129 (by rfl)) (c_sorobanref03_AddInt r0d r1d A5f c6f A1g c2g w6 (tbx X2d hT) (n7f.ext E1b) n3g r3d h5g) ?_
   rintro _ w7 E7b ⟨A7g,c8g,rfl,n9g⟩
   refine dnrm ?_
   have X4d:=xtr X2d E7b
   have S0h:=S4g.trans E7b
   obtain ⟨r1h,h2h,f3h⟩:=Aa f6g
   refine dc 16 rfl (by kernel_rfl) (by rfl) (Ae Mm (by rfl)) (Gg r3d (min x0.Exp x1.Exp) A7g c8g w7 (tbx X4d hT) n9g r1h h2h) ?_
   rintro _ w8 E8b ⟨A4h,c5h,rfl,n6h⟩
   refine dnrm ?_
   have X7h:=xtr X4d E8b
   have S4i:=S0h.trans E8b
   have q5d:=((((q3b.ext E2a).ext E5b).ext E1b).ext E7b).ext E8b
   refine dk 17 rfl (by kernel_rfl) (by decide) (by rfl) Ct rfl rfl q5d rfl rfl rfl rfl (by simp only [SP0,SP1,S0,S1,Nat.reduceAdd];rfl) fun w9 U6d q8h=>?_
   have X9h:=AV X7h U6d g8d
   refine CH (by kernel_rfl) ?_
   refine h9c _ _<|wp_ret ?_
   obtain rfl:=sj f3h
   exact fin rfl (Res.cellN rfl AA q8h rfl rfl Res.nil) (An X9h ⟨A4h,c5h,rfl,(n6h.upd U6d q5d (by decide))⟩)
theorem He (x0:Bool) (w:World) (hT:TB w) (r:Int) (hr:Cz x0=some r) :
  Calls Tryz.prog 18 #[.bool x0] w (Ret rep_33 w r):=by
 unfold Cz at hr
 go_enter Tryz.func18,Tryz.ntmps18
 refine wp_seq_k fun K1 h1=>Ai<|sV (Ac rfl) ?_
 refine Ad<|h1 _ _<|wp_seq_k fun K2 h2=>wp_seq_k fun K3 h3=>Ai<|sV (Ab rfl) ?_
 refine sb (Fy rfl) fun z4 hz4=>?_
 refine nrm ?_
 refine Ad<|h3 _ _ ?_
 rcases bft z4 with e0a | e0a
 ·have p3a:=zP hz4 e0a
  have f4a:=ifP p3a hr
  refine wp_cond_true (Am (evb rfl e0a))<|wp_seq_k fun K1a h1a=>Ai<|sV (Ac rfl) ?_
  refine Ad<|h1a _ _<|wp_ret ?_
  obtain rfl:=sj f4a
  exact fin rfl (Res.tmp rfl Res.nil) (An (Ext.refl _) rfl)
 ·have p5a:=zN hz4 e0a
  have f6a:=ifN p5a hr
  refine wp_cond_false (Am (evb rfl e0a))<|wp_skip<|h2 _ _<|wp_seq_k fun K2a h2a=>Ai<|sV (Ac rfl) ?_
  refine Ad<|h2a _ _<|wp_ret ?_
  obtain rfl:=sj f6a
  exact fin rfl (Res.tmp rfl Res.nil) (An (Ext.refl _) rfl)
theorem c_sorobanref03_MulInt (x0:Ag) (x1:Ag) (A1:Option Addr) (c2:Nat) (A4:Option Addr) (c5:Nat) (w:World) (hT:TB w) (n3:RU w A1 c2 x0.Abs) (n6:RU w A4 c5 x1.Abs) (r:Ag) (hr:Et x0 x1=some r) :
  Calls Tryz.prog 132 #[.agg #[.bool x0.Neg,.slice A1 (sz x0.Abs) c2],.agg #[.bool x1.Neg,.slice A4 (sz x1.Abs) c5]] w (Ret IX w r):=by
 unfold Et at hr
 go_enter Tryz.func132,Tryz.ntmps132
 refine wp_seq_k fun K7 h7=>Ai<|Bl rfl rfl fun b8 w1 E9 g6d q8a=>?_
 refine nrm ?_
 refine Bl rfl rfl fun b7d w2 E4a g6b q9a=>?_
 refine nrm ?_
 have g8d:=nlt E9.size g6b
 have X0b:=xtr E9 E4a
 refine Ax Jm fun b9d w3 E1a g7b q8b=>?_
 refine nrm ?_
 have g9b:=nlt X0b.size g7b
 have X0c:=xtr X0b E1a
 refine Ad<|h7 _ _<|wp_seq_k fun K1b h1b=>DG [11] 12 mo rfl fun w4 E0a S2a=>have X3a:=xtr X0c E0a;dA 0 rfl (fun _=>Ah (o':=0) EH rfl rfl) ?_
 refine dV 1 rfl (fun _ hw=>Aj FL rfl (Bx.cell ((((q8a.ext E4a).ext E1a).ext E0a).ext hw) rfl)) S2a ?_
 refine dA 2 rfl (fun _=>Ah (o':=0) EH rfl rfl) ?_
 refine dV 3 rfl (fun _ hw=>Aj FL rfl (Bx.cell (((q9a.ext E1a).ext E0a).ext hw) rfl)) S2a ?_
 refine dab 4 rfl (by kernel_rfl) (fun _ _ _ h=>h) (by rfl) (fun _=>KR Lu rfl rfl) fun z5a hz5a=>?_
 refine dnrm ?_
 refine dA 5 rfl (fun _=>Ah (o':=1) Cq rfl rfl) ?_
 refine dV 6 rfl (fun _ hw=>Aj El rfl (Bx.cell ((((q8a.ext E4a).ext E1a).ext E0a).ext hw) rfl)) S2a ?_
 refine dA 7 rfl (fun _=>Ah (o':=1) Cq rfl rfl) ?_
 refine dV 8 rfl (fun _ hw=>Aj El rfl (Bx.cell (((q9a.ext E1a).ext E0a).ext hw) rfl)) S2a ?_
 obtain ⟨r2b,h1c,f2c⟩:=Aa hr
 refine dc 9 rfl (by kernel_rfl) (by rfl) (Ae en_200 (by rfl)) (FQ x0.Abs x1.Abs A1 c2 A4 c5 w4 (tbx X3a hT) (n3.ext X3a) (n6.ext X3a) r2b h1c) ?_
 rintro _ w5 E6a ⟨A3c,c4c,rfl,n5c⟩
 refine dnrm ?_
 have X3b:=xtr X3a E6a
 have S6c:=S2a.trans E6a
 obtain rfl:z5a=decide (¬x0.Neg=x1.Neg):=bz hz5a
 obtain ⟨r7c,h8c,f9c⟩:=Aa f2c
 refine dc 10 rfl (by kernel_rfl) (by rfl) (Ae IC (by rfl)) (Dc (decide (¬x0.Neg=x1.Neg)) r2b A3c c4c w5 (tbx X3b hT) n5c r7c h8c) ?_
 rintro _ w6 E7a ⟨A0d,c1d,rfl,n2d⟩
 refine dnrm ?_
 have X3d:=xtr X3b E7a
 have S0e:=S6c.trans E7a
 have q4b:=((q8b.ext E0a).ext E6a).ext E7a
 refine dk 11 rfl (by kernel_rfl) (by decide) (by rfl) HV rfl rfl q4b rfl rfl rfl rfl (by simp only [SP0,SP1,S0,S1,Nat.reduceAdd];rfl) fun w7 U5b q4d=>?_
 have X5d:=AV X3d U5b g9b
 refine CH (by kernel_rfl) ?_
 refine h1b _ _<|wp_ret ?_
 obtain rfl:=sj f9c
 exact fin rfl (Res.cellN rfl Fo q4d rfl rfl Res.nil) (An X5d ⟨A0d,c1d,rfl,(n2d.upd U5b q4b (by decide))⟩)
theorem GG (x0:Ak) (A1:Option Addr) (c2:Nat) (w:World) (hT:TB w) (n3:RLu w A1 c2 x0.Man.Abs) (r:Bool) (hr:Dp x0=some r) :
  Calls Tryz.prog 44 #[.agg #[.bool x0.Man.Neg,.slice A1 x0.Man.Abs.length c2,.int .i64 x0.Exp]] w (Ret Fw w r):=by
 unfold Dp at hr
 go_enter Tryz.func44,Tryz.ntmps44
 refine wp_seq_k fun K4 h4=>Ai<|Bl rfl rfl fun b5 w1 E6 g7 q8=>?_
 refine nrm ?_
 refine sV (Ac rfl) ?_
 refine Ad<|h4 _ _<|wp_seq_k fun K9 h9=>Ai<|sV (Ah (o':=0) DY rfl rfl) ?_
 refine sV (Ah (o':=1) Cq rfl rfl) ?_
 refine sV (Aj El rfl (Bx.cell q8 rfl)) ?_
 refine sV (AP Bs rfl) ?_
 refine sb (GX rfl rfl) fun z4a hz4a=>?_
 refine nrm ?_
 refine sV (Ab rfl) ?_
 obtain ⟨m2d,h5b,f3d⟩:=Aa hr
 refine BW 20 (fun l l' w'=>∃(t6b:Value) (t7b:Value) (t8b:Value) (t9b:Value) (t0c:Value) (t1c:Value) (t2c:Value) (t3c:Value) (t4c:Value) (t5c:Value) (t6c:Value) (t7c:Value) (t8c:Value),UpdS [] w1 w'∧l'=((((((((((((((l.set 9 t6b).set 10 t7b).set 11 t8b).set 12 t9b).set 13 t0c).set 14 t1c).set 15 t2c).set 16 t3c).set 17 t4c).set 18 t5c).set 19 t6c).set 20 t7c).set 21 t8c).set 22 (.bool m2d))) ?_ ?_
 ·intro HJ85
  rcases bft z4a with e0a | e0a
  ·have p4d:=zP hz4a e0a
   have f5d:=ifP p4d h5b
   refine sV (Ah (o':=2) DX rfl rfl) ?_ (hw:=wgT rfl e0a)
   refine sV (Aj Ev rfl (Bx.cell q8 rfl)) ?_ (hw:=wgT rfl e0a)
   refine sb (FK rfl rfl) ?_ (hw:=wgT rfl e0a)
   intro z3a hz3a
   refine nrm ?_
   refine sV (Ab rfl) ?_ (hw:=wgT rfl e0a)
   obtain ⟨m5a,h9c,f6d⟩:=Aa f5d
   refine BW 14 (fun l l' w'=>∃(t7a:Value) (t8a:Value) (t9a:Value),w1=w'∧l'=((((l.set 13 t7a).set 14 t8a).set 15 t9a).set 16 (.bool m5a))) ?_ ?_
   ·intro HJ105
    rcases bft z3a with e1a | e1a
    ·have p7d:=zP hz3a e1a
     have f8d:=ifP p7d h9c
     refine sV (Ah (o':=2) DX rfl rfl) ?_ (hw:=wgT rfl e1a)
     refine sV (Aj Ev rfl (Bx.cell q8 rfl)) ?_ (hw:=wgT rfl e1a)
     refine sb (GX rfl rfl) ?_ (hw:=wgT rfl e1a)
     intro z0b hz0b
     refine nrm ?_
     refine sV (AB (evb rfl e1a) rfl) ?_ (hw:=wgT rfl e0a)
     obtain rfl:z0b=decide (x0.Exp≤3000):=bz hz0b
     obtain rfl:=sj f8d
     exact HJ105 _ _ ⟨(.pointer (some ⟨b5,2,none⟩)),(.int .i64 x0.Exp),(.bool (decide (x0.Exp≤3000))),rfl,(by simp only [S0,S1]<;>rfl)⟩
    ·have p9d:=zN hz3a e1a
     have f0e:=ifN p9d h9c
     refine sP ?_ (hw:=wgF rfl e1a)
     refine sP ?_ (hw:=wgF rfl e1a)
     refine sP ?_ (hw:=wgF rfl e1a)
     refine sV (AF (evb rfl e1a) rfl) ?_ (hw:=wgT rfl e0a)
     obtain rfl:=sj f0e
     exact HJ105 _ _ ⟨uu,uu,uu,rfl,(by simp only [S0,S1]<;>rfl)⟩
   ·rintro l' _ ⟨t7a,t8a,t9a,rfl,hq'⟩ l'' hl
    rw [hq'] at hl
    clear hq'
    simp only [S0,S1] at hl
    subst hl
    refine sV (Ab rfl) ?_ (hw:=wgT rfl e0a)
    obtain ⟨m0d,h1d,f1e⟩:=Aa f6d
    refine BW 19 (fun l l' w'=>∃(t1b:Value) (t2b:Value) (t3b:Value),UpdS [] w1 w'∧l'=((((l.set 18 t1b).set 19 t2b).set 20 t3b).set 21 (.bool m0d))) ?_ ?_
    ·intro HJ130
     rcases bft m5a with e2a | e2a
     ·have p2e:=e2a
      have f3e:=ifP p2e h1d
      refine sP ?_ (hw:=wgF rfl e2a)
      refine sP ?_ (hw:=wgF rfl e2a)
      refine sP ?_ (hw:=wgF rfl e2a)
      refine sV (AB (evb rfl e2a) rfl) ?_ (hw:=wgT rfl e0a)
      obtain rfl:=sj f3e
      exact HJ130 _ _ ⟨uu,uu,uu,(UpdS.refl _ _),(by simp only [S0,S1]<;>rfl)⟩
     ·have p4e:=bF e2a
      have f5e:=ifN p4e h1d
      refine sV (Al AA rfl q8 rfl) ?_ (hw:=wgT rfl e2a)
      obtain ⟨r6a,h6e,f7e⟩:=Aa f5e
      refine sc (Ae Ky (by rfl)) (Ea x0 A1 c2 w1 (tbx E6 hT) (n3.ext E6) r6a h6e) ?_ (hw:=wgT rfl e2a)
      rintro _ w2 E8e rfl
      refine nrm ?_
      refine sb (Fy rfl) ?_ (hw:=wgT rfl e2a)
      intro z4b hz4b
      refine nrm ?_
      refine sV (AF (evb rfl e2a) rfl) ?_ (hw:=wgT rfl e0a)
      obtain rfl:z4b=decide (¬(r6a=true)):=bz hz4b
      obtain rfl:=sj f7e
      exact HJ130 _ _ ⟨(.agg #[.bool x0.Man.Neg,.slice A1 x0.Man.Abs.length c2,.int .i64 x0.Exp]),(.bool r6a),(.bool (decide (¬(r6a=true)))),((UpdS.refl _ _).ext E8e),(by simp only [S0,S1]<;>rfl)⟩
    ·rintro l' w2 ⟨t1b,t2b,t3b,U9e,hq'⟩ l'' hl
     rw [hq'] at hl
     clear hq'
     simp only [S0,S1] at hl
     subst hl
     refine sV (AB (evb rfl e0a) rfl) ?_
     obtain rfl:=sj f1e
     exact HJ85 _ _ ⟨(.pointer (some ⟨b5,2,none⟩)),(.int .i64 x0.Exp),(.bool z3a),(.bool z3a),t7a,t8a,t9a,(.bool m5a),(.bool m5a),t1b,t2b,t3b,(.bool m0d),((UpdS.refl _ _).updS U9e al0),(by simp only [S0,S1]<;>rfl)⟩
  ·have p0f:=zN hz4a e0a
   have f1f:=ifN p0f h5b
   refine sP ?_ (hw:=wgF rfl e0a)
   refine sP ?_ (hw:=wgF rfl e0a)
   refine sP ?_ (hw:=wgF rfl e0a)
   refine sP ?_ (hw:=wgF rfl e0a)
   refine sP ?_
   refine sP ?_
   refine sP ?_
   refine sP ?_ (hw:=wgF rfl e0a)
   refine sP ?_ (hw:=wgF rfl e0a)
   refine sP ?_
   refine sP ?_
   refine sP ?_
   refine sP ?_ (hw:=wgF rfl e0a)
   refine sV (AF (evb rfl e0a) rfl) ?_
   obtain rfl:=sj f1f
   exact HJ85 _ _ ⟨uu,uu,uu,uu,uu,uu,uu,uu,uu,uu,uu,uu,uu,(UpdS.refl _ _),(by simp only [S0,S1]<;>rfl)⟩
 ·rintro l' w2 ⟨t6b,t7b,t8b,t9b,t0c,t1c,t2c,t3c,t4c,t5c,t6c,t7c,t8c,U2f,hq'⟩ l'' hl
  rw [hq'] at hl
  clear hq'
  simp only [S0,S1] at hl
  subst hl
  have X3f:=Hk E6 U2f (E6).size al0
  refine sV (Ac rfl) ?_
  refine Ad<|h9 _ _<|wp_ret ?_
  obtain rfl:=sj f3d
  exact fin rfl (Res.tmp rfl Res.nil) (An X3f rfl)
end Go.Proofs

