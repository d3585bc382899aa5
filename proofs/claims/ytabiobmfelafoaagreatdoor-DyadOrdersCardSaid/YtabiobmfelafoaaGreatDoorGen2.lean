import Derived.Test.YtabiobmfelafoaaGreatDoorGen1
namespace Go.Proofs
set_option linter.unusedVariables false
set_option linter.unusedSimpArgs false
set_option maxHeartbeats 4000000
open Go.RowKit Go.Sb Go.Proofs.Sbn
theorem c_sorobanref04_Sum (x0:Ak) (x1:Ak) (A1:Option Addr) (c2:Nat) (A4:Option Addr) (c5:Nat) (w:World) (hT:TB w) (n3:RU w A1 c2 x0.Man.Abs) (n6:RU w A4 c5 x1.Man.Abs) (r:Ak) (hr:Ec x0 x1=some r) :
  Calls Tryz.prog 46 #[.agg #[.bool x0.Man.Neg,.slice A1 (sz x0.Man.Abs) c2,.int .i64 x0.Exp],.agg #[.bool x1.Man.Neg,.slice A4 (sz x1.Man.Abs) c5,.int .i64 x1.Exp]] w (Ret MZ w r):=by
 unfold Ec at hr
 go_enter Tryz.func46,Tryz.ntmps46
 refine wp_seq_k fun _ h7=>Ae<|Bu rfl rfl fun b8 w1 E9 g6h q3a=>?_
 refine nrm ?_
 refine Bu rfl rfl fun b7h w2 E1a g8c q4a=>?_
 refine nrm ?_
 have g8h:=nlt E9.size g8c
 have X6a:=xtr E9 E1a
 refine AA Hm fun b9h w3 E0a g8a q9a=>?_
 refine nrm ?_
 have g9c:=nlt X6a.size g8a
 have X0d:=xtr X6a E0a
 refine wh h7<|wp_seq_k fun _ h1d=>wp_seq_k fun _ h2d=>Ae<|sV3 (Ag (o':=0) Ey rfl rfl) (Ag (o':=1) Bf rfl rfl) (Af BJ rfl (Bx.cell ((q3a.ext E1a).ext E0a) rfl)) ?_
 refine sV (Ax AH rfl) ?_
 refine sb (Bl rfl rfl) fun z7b hz7b=>?_
 refine nrm ?_
 refine wh h2d ?_
 rcases zi hz7b hr with ⟨e0b,_,f3d⟩ | ⟨e0b,_,f4d⟩
 ·refine wp_cond_true (Ai (evb rfl e0b))<|wp_seq_k fun _ h5d=>Ae<|sV (Al Bt rfl (q4a.ext E0a) rfl) ?_
  refine ss FA q9a fun w4 U6d q7d=>?_
  have F8d:=belU E0a U6d g8a
  have X8b:=xtr X6a F8d
  refine wh h5d<|wp_ret ?_
  obtain rfl:=sj f3d
  exact fin rfl (Res.cellN rfl Bt q7d rfl rfl Res.nil) (Aj X8b ⟨A4,c5,rfl,(n6.ext X8b)⟩)
 ·refine wp_cond_false (Ai (evb rfl e0b))<|wp_skip<|h1d _ _<|wp_seq_k fun _ h9d=>wp_seq_k fun _ h0e=>Ae<|sV3 (Ag (o':=0) Ey rfl rfl) (Ag (o':=1) Bf rfl rfl) (Af BJ rfl (Bx.cell (q4a.ext E0a) rfl)) ?_
  refine sV (Ax AH rfl) ?_
  refine sb (Bl rfl rfl) fun z9b hz9b=>?_
  refine nrm ?_
  refine wh h0e ?_
  rcases zi hz9b f4d with ⟨e1b,_,f1e⟩ | ⟨e1b,_,f2e⟩
  ·refine wp_cond_true (Ai (evb rfl e1b))<|wp_seq_k fun _ h3e=>Ae<|sV (Al Bt rfl ((q3a.ext E1a).ext E0a) rfl) ?_
   refine ss FA q9a fun w4 U4e q5e=>?_
   have F6e:=belU E0a U4e g8a
   have X0c:=xtr X6a F6e
   refine wh h3e<|wp_ret ?_
   obtain rfl:=sj f1e
   exact fin rfl (Res.cellN rfl Bt q5e rfl rfl Res.nil) (Aj X0c ⟨A1,c2,rfl,(n3.ext X0c)⟩)
  ·refine wp_cond_false (Ai (evb rfl e1b))<|wp_skip<|h9d _ _<|wp_seq_k fun _ h7e=>Ae<|sV3 (Ag (o':=2) EZ rfl rfl) (Af EN rfl (Bx.cell ((q3a.ext E1a).ext E0a) rfl)) (Ag (o':=2) EZ rfl rfl) ?_
   refine sV3 (Af EN rfl (Bx.cell (q4a.ext E0a) rfl)) (Oc rfl rfl) (Ac rfl) ?_
   refine wh h7e<|wp_seq_k fun _ h8e=>Dn [17] 18 mo rfl fun w4 E2a S5a=>have X2b:=xtr X0d E2a;dA 0 rfl (fun _=>Ag (o':=0) Ey rfl rfl) ?_
   refine dV 1 rfl (fun _ hw=>AL Dq rfl ((((q3a.ext E1a).ext E0a).ext E2a).ext hw) (by simp only [List.drop_zero,List.take_succ_cons,List.take_zero];rfl) rfl) S5a ?_
   refine dA 2 rfl (fun _=>Ag (o':=2) EZ rfl rfl) ?_
   refine dV 3 rfl (fun _ hw=>Af EN rfl (Bx.cell ((((q3a.ext E1a).ext E0a).ext E2a).ext hw) rfl)) S5a ?_
   refine dA 4 rfl (fun _=>Aa rfl) ?_
   refine dA 5 rfl (fun _=>Ba (c:=wi64 (x0.Exp - (min x0.Exp x1.Exp))) rfl rfl rfl) ?_
   refine dA 7 rfl (fun _=>Ag (o':=0) Ey rfl rfl) ?_
   refine dV 8 rfl (fun _ hw=>AL Dq rfl (((q4a.ext E0a).ext E2a).ext hw) (by simp only [List.drop_zero,List.take_succ_cons,List.take_zero];rfl) rfl) S5a ?_
   refine dA 9 rfl (fun _=>Ag (o':=2) EZ rfl rfl) ?_
   refine dV 10 rfl (fun _ hw=>Af EN rfl (Bx.cell (((q4a.ext E0a).ext E2a).ext hw) rfl)) S5a ?_
   refine dA 11 rfl (fun _=>Aa rfl) ?_
   refine dA 12 rfl (fun _=>Ba (c:=wi64 (x1.Exp - (min x0.Exp x1.Exp))) rfl rfl rfl) ?_
   refine dA 15 rfl (fun _=>Aa rfl) ?_
   obtain ⟨r1c,h9e,f0f⟩:=Ab f2e
   refine dc 6 rfl (by kernel_rfl) (by rfl) (Ad PQ (by rfl)) (IH x0.Man (wi64 (x0.Exp - (min x0.Exp x1.Exp))) A1 c2 w4 (tbx X2b hT) (n3.ext X2b) r1c h9e) ?_
   rintro _ w5 E3b ⟨A1f,c2f,rfl,n3f⟩
   refine dnrm ?_
   have X4b:=xtr X2b E3b
   have S4f:=S5a.trans E3b
   obtain ⟨r2c,h5f,f6f⟩:=Ab f0f
   refine dc 13 rfl (by kernel_rfl) (by rfl) (Ad PQ (by rfl)) (IH x1.Man (wi64 (x1.Exp - (min x0.Exp x1.Exp))) A4 c5 w5 (tbx X4b hT) (n6.ext X4b) r2c h5f) ?_
   rintro _ w6 E7a ⟨A7f,c8f,rfl,n9f⟩
   refine dnrm ?_
   have X3c:=xtr X4b E7a
   have S0g:=S4f.trans E7a
   obtain ⟨r4c,h1g,f2g⟩:=Ab f6f
   refine dc 14 rfl (by kernel_rfl) (by rfl) (Ad en_129 (by rfl)) (c_sorobanref03_AddInt r1c r2c A1f c2f A7f c8f w6 (tbx X3c hT) (n3f.ext E7a) n9f r4c h1g) ?_
   rintro _ w7 E5b ⟨A3g,c4g,rfl,n5g⟩
   refine dnrm ?_
   have X5c:=xtr X3c E5b
   have S6g:=S0g.trans E5b
   obtain ⟨r7g,h8g,f9g⟩:=Ab f2g
   refine dc 16 rfl (by kernel_rfl) (by rfl) (Ad QZ (by rfl)) (JY r4c (min x0.Exp x1.Exp) A3g c4g w7 (tbx X5c hT) n5g r7g h8g) ?_
   rintro _ w8 E6b ⟨A0h,c1h,rfl,n2h⟩
   refine dnrm ?_
   have X3h:=xtr X5c E6b
   have S0i:=S6g.trans E6b
   have q6c:=((((q9a.ext E2a).ext E3b).ext E7a).ext E5b).ext E6b
   refine dkk 17 FA q6c fun w9 U7c q4h=>?_
   have X5h:=belU X3h U7c g9c
   refine Cn (by kernel_rfl) ?_
   refine h8e _ _<|wp_ret ?_
   obtain rfl:=sj f9g
   exact fin rfl (Res.cellN rfl Bt q4h rfl rfl Res.nil) (Aj X5h ⟨A0h,c1h,rfl,(n2h.upd U7c q6c (by decide))⟩)
theorem Jp (x0:Ak) (A1:Option Addr) (c2:Nat) (w:World) (hT:TB w) (n3:RU w A1 c2 x0.Man.Abs) (r:Int) (hr:CG x0=some r) :
  Calls Tryz.prog 23 #[.agg #[.bool x0.Man.Neg,.slice A1 (sz x0.Man.Abs) c2,.int .i64 x0.Exp]] w (Ret Fy w r):=by
 unfold CG at hr
 go_enter Tryz.func23,Tryz.ntmps23
 refine wp_seq_k fun _ h4=>Ae<|Bu rfl rfl fun b5 w1 E6 g7 q8=>?_
 refine nrm ?_
 refine sV (Ac rfl) ?_
 refine wh h4<|wp_seq_k fun _ h9=>wp_seq_k fun _ h4a=>Ae<|sV3 (Ag (o':=0) Ey rfl rfl) (Ag (o':=1) Bf rfl rfl) (Af BJ rfl (Bx.cell q8 rfl)) ?_
 refine sV (Ax AH rfl) ?_
 refine sb (Bl rfl rfl) fun z2a hz2a=>?_
 refine nrm ?_
 refine wh h4a ?_
 rcases zi hz2a hr with ⟨e1a,_,f5a⟩ | ⟨e1a,_,f3a⟩
 ·refine wp_cond_true (Ai (evb rfl e1a))<|wp_seq_k fun _ h6a=>Ae<|sV (Ac rfl) ?_
  refine wh h6a<|wp_ret ?_
  obtain rfl:=sj f5a
  exact fin rfl (Res.tmp rfl Res.nil) (Aj E6 rfl)
 ·refine wp_cond_false (Ai (evb rfl e1a))<|wp_skip<|h9 _ _<|wp_seq_k fun _ h7a=>wp_seq_k fun _ h8a=>Ae<|sV3 (Ag (o':=0) Ey rfl rfl) (Ag (o':=0) DF rfl rfl) (Af GC rfl (Bx.cell q8 rfl)) ?_
  refine wh h8a ?_
  rcases bft x0.Man.Neg with e0a | e0a
  ·have p9a:=e0a
   have f0b:=ifP p9a f3a
   refine wp_cond_true (Ai (evb rfl e0a))<|wp_seq_k fun _ h1b=>Ae<|sV (Ac rfl) ?_
   refine wh h1b<|wp_ret ?_
   obtain rfl:=sj f0b
   exact fin rfl (Res.tmp rfl Res.nil) (Aj E6 rfl)
  ·have p2b:=bF e0a
   have f3b:=ifN p2b f3a
   refine wp_cond_false (Ai (evb rfl e0a))<|wp_skip<|h7a _ _<|wp_seq_k fun _ h4b=>Ae<|sV (Ac rfl) ?_
   refine wh h4b<|wp_ret ?_
   obtain rfl:=sj f3b
   exact fin rfl (Res.tmp rfl Res.nil) (Aj E6 rfl)
theorem c_sorobanref04_Compare (x0:Ak) (x1:Ak) (A1:Option Addr) (c2:Nat) (A4:Option Addr) (c5:Nat) (w:World) (hT:TB w) (n3:RU w A1 c2 x0.Man.Abs) (n6:RU w A4 c5 x1.Man.Abs) (r:Int) (hr:Co x0 x1=some r) :
  Calls Tryz.prog 83 #[.agg #[.bool x0.Man.Neg,.slice A1 (sz x0.Man.Abs) c2,.int .i64 x0.Exp],.agg #[.bool x1.Man.Neg,.slice A4 (sz x1.Man.Abs) c5,.int .i64 x1.Exp]] w (Ret Fy w r):=by
 unfold Co at hr
 go_enter Tryz.func83,Tryz.ntmps83
 refine wp_seq_k fun _ h7=>Ae<|Bu rfl rfl fun b8 w1 E9 g2d q1b=>?_
 refine nrm ?_
 refine Bu rfl rfl fun b3d w2 E4a g2b q3b=>?_
 refine nrm ?_
 have g4d:=nlt E9.size g2b
 have X4b:=xtr E9 E4a
 refine sV (Ac rfl) ?_
 refine wh h7<|wp_seq_k fun _ h5b=>Dn [] 6 mo rfl fun w3 E0a S1a=>have X2a:=xtr X4b E0a;dV 0 rfl (fun _ hw=>Al Bt rfl (((q1b.ext E4a).ext E0a).ext hw) rfl) S1a ?_
 refine dV 1 rfl (fun _ hw=>Al Bt rfl ((q3b.ext E0a).ext hw) rfl) S1a ?_
 obtain ⟨r5a,h6b,f7b⟩:=Ab hr
 refine dc 2 rfl (by kernel_rfl) (by rfl) (Ad en_47 (by rfl)) (c_sorobanref04_Minus x1 A4 c5 w3 (tbx X2a hT) (n6.ext X2a) r5a h6b) ?_
 rintro _ w4 E6a ⟨A8b,c9b,rfl,n0c⟩
 refine dnrm ?_
 have X3a:=xtr X2a E6a
 have S1c:=S1a.trans E6a
 obtain ⟨r7a,h2c,f3c⟩:=Ab f7b
 refine dc 3 rfl (by kernel_rfl) (by rfl) (Ad en_46 (by rfl)) (c_sorobanref04_Sum x0 r5a A1 c2 A8b c9b w4 (tbx X3a hT) (n3.ext X3a) n0c r7a h2c) ?_
 rintro _ w5 E8a ⟨A4c,c5c,rfl,n6c⟩
 refine dnrm ?_
 have X9a:=xtr X3a E8a
 have S7c:=S1c.trans E8a
 obtain ⟨r8c,h9c,f0d⟩:=Ab f3c
 refine dc 4 rfl (by kernel_rfl) (by rfl) (Ad Rl (by rfl)) (Jp r7a A4c c5c w5 (tbx X9a hT) n6c r8c h9c) ?_
 rintro _ w6 E0b rfl
 refine dnrm ?_
 have X1d:=xtr X9a E0b
 have S5d:=S7c.trans E0b
 refine dA 5 rfl (fun _=>Ac rfl) ?_
 refine Cn (by kernel_rfl) ?_
 refine h5b _ _<|wp_ret ?_
 obtain rfl:=sj f0d
 exact fin rfl (Res.tmp rfl Res.nil) (Aj X1d rfl)
theorem JJ (x0:Nat) (x1:Nat) (A1:Option Addr) (c2:Nat) (A4:Option Addr) (c5:Nat) (w:World) (hT:TB w) (n3:RU w A1 c2 x0) (n6:RU w A4 c5 x1) (r:Nat) (hr:ER x0 x1=some r) :
  Calls Tryz.prog 145 #[.slice A1 (sz x0) c2,.slice A4 (sz x1) c5] w (Ret Jn w r):=by
 unfold ER at hr
 go_enter Tryz.func145,Tryz.ntmps145
 refine wp_seq_k fun _ h7=>Ae<|sV (Ac rfl) ?_
 refine wh h7<|wp_seq_k fun _ h8=>?_
 obtain ⟨m8a,h4c,f5c⟩:=Ab hr
 refine BX (fun l l' w'=>∃(A6a:Option Addr) (c7a:Nat),Ext w w'∧RU w' A6a c7a m8a∧Fr l' (fun t4b=>.slice A6a (sz m8a) c7a::gp t4b 1 15 [])) ?_ ?_
 ·apply wp_block
  refine AP (fun l n5b l' w'=>∃(v1a:Nat) (v0a:Nat) (A2a:Option Addr) (c3a:Nat) (A4a:Option Addr) (c5a:Nat),Ext w w'∧RU w' A2a c3a v1a∧RU w' A4a c5a v0a∧Cp x0 x1 n5b v1a v0a=some m8a∧Fr l' (fun t6b=>.slice A2a (sz v1a) c3a::.slice A4a (sz v0a) c5a::gp t6b 2 14 [])) 18446744073709551616 ?_ ?_ ?_
  ·exact ⟨x0,x1,A1,c2,A4,c5,(Ext.refl _),n3,n6,h4c,(Fr.mk (by kernel_rfl))⟩
  ·rintro l' w' ⟨v1a,v0a,A2a,c3a,A4a,c5a,_,_,_,hz,_⟩
   exact nomatch hz
  ·rintro n5b ih6c _ w1 ⟨v1a,v0a,A2a,c3a,A4a,c5a,X9a,n7b,n8b,hr9b,⟨t6b,rfl⟩⟩ l'' hl
   simp only [gp,Nat.reduceAdd] at hl
   subst hl
   unfold Cp at hr9b
   refine AV<|wp_seq_k fun _ h7c=>wp_seq_k fun _ h8c=>Ae<|sV2 (Aa rfl) (Ax AH rfl) ?_
   refine sb (EX rfl rfl) fun z0c hz0c=>?_
   refine nrm ?_
   refine wh h8c ?_
   rcases zi hz0c hr9b with ⟨e0b,_,f9c⟩ | ⟨e0b,_,f0d⟩
   ·refine wp_cond_true (Ai (evb rfl e0b))<|wp_skip<|h7c _ _ ?_
    apply wp_block
    refine wp_seq_k fun _ h1d=>Ae<|sV2 (Aa rfl) (Aa rfl) ?_
    obtain ⟨r1c,h2d,f3d⟩:=Ab f9c
    refine sc (Ad Oa (by rfl)) (EU v1a v0a A2a c3a A4a c5a w1 (tbx X9a hT) n7b n8b r1c h2d) ?_
    rintro _ w2 E2c ⟨A8e,c9e,A4d,c5d,rfl,n0f,n6d⟩
    refine nrm ?_
    have X3c:=xtr X9a E2c
    refine AA Np fun b1f w3 E1b g7d q2b=>?_
    refine nrm ?_
    have g8d:=nlt X3c.size g7d
    have X9d:=xtr X3c E1b
    refine ss LQ q2b fun w4 U3b q0e=>?_
    have X1e:=belU X9d U3b g8d
    refine wh h1d<|wp_seq_k fun _ h2e=>Ae<|sV2 (Aa rfl) (Ac rfl) ?_
    refine wh h2e<|Ae<|sV3 (Ag (o':=1) Ow rfl rfl) (Af BJ rfl (Bx.cell q0e rfl)) (Ac rfl) ?_
    refine AG ?_
    have n3e:=((n8b.ext E2c).ext E1b).upd U3b q2b (by decide)
    have n4e:=(n6d.ext E1b).upd U3b q2b (by decide)
    exact ih6c _ _ ⟨v0a,r1c.R,A4a,c5a,A4d,c5d,X1e,n3e,n4e,f3d,(Fr.mk (by kernel_rfl))⟩
   ·refine wp_cond_false (Ai (evb rfl e0b))<|wp_exit ?_
    simp only [Exit.then,Exit.inBlock,↓reduceIte,Nat.reduceEqDiff]
    obtain rfl:=sj f0d
    exact ⟨_,rfl,A2a,c3a,X9a,n7b,(Fr.mk (by kernel_rfl))⟩
 ·rintro _ w1 ⟨A6a,c7a,X5e,n6e,⟨t4b,rfl⟩⟩ l'' hl
  simp only [gp,Nat.reduceAdd] at hl
  subst hl
  refine h8 _ _<|wp_seq_k fun _ h7e=>Ae<|sV2 (Aa rfl) (Ac rfl) ?_
  refine wh h7e<|wp_ret ?_
  obtain rfl:=sj f5c
  exact fin rfl (Res.tmp rfl Res.nil) (Aj X5e ⟨A6a,c7a,rfl,n6e⟩)
theorem FS (w:World) (hT:TB w) (r:Nat) (hr:BM=some r) :
  Calls Tryz.prog 146 #[] w (Ret Jn w r):=by
 unfold BM at hr
 go_enter Tryz.func146,Tryz.ntmps146
 refine wp_seq_k fun _ h1=>Ae<|sV (Ac rfl) ?_
 refine wh h1<|wp_seq_k fun _ h2=>Ae<|Cv (vals:=[(0,.int .u32 1)]) (cs:=[.int .u32 1]) AH An Ge (by rfl) (by decide) (by kernel_rfl) fun b3 w1 E4 g5 q6=>?_
 refine nrm ?_
 have n7:=RL.lit1 q6 (by decide)
 refine sV (Ac rfl) ?_
 refine wh h2<|wp_ret ?_
 obtain rfl:=sj hr
 exact fin rfl (Res.tmp rfl Res.nil) (Aj E4 ⟨(some ⟨b3,0,none⟩),1,rfl,n7⟩)
theorem c_sorobanref03_Of (x0:Ah) (x1:Nat) (A1:Option Addr) (c2:Nat) (A4:Option Addr) (c5:Nat) (w:World) (hT:TB w) (n3:RU w A1 c2 x0.Abs) (n6:RU w A4 c5 x1) (r:Cz) (hr:Gr x0 x1=some r) :
  Calls Tryz.prog 160 #[.agg #[.bool x0.Neg,.slice A1 (sz x0.Abs) c2],.slice A4 (sz x1) c5] w (Ret OL w r):=by
 unfold Gr at hr
 go_enter Tryz.func160,Tryz.ntmps160
 refine wp_seq_k fun _ h7=>Ae<|Bu rfl rfl fun b8 w1 E9 g6d q6a=>?_
 refine nrm ?_
 refine AA Qo fun b6h w2 E3a g7d q6c=>?_
 refine nrm ?_
 have g7c:=nlt E9.size g7d
 have X7a:=xtr E9 E3a
 refine wh h7<|wp_seq_k fun _ h8d=>Ae<|sV3 (Ag (o':=1) Bf rfl rfl) (Af BJ rfl (Bx.cell (q6a.ext E3a) rfl)) (Aa rfl) ?_
 obtain ⟨r8a,h9d,f0e⟩:=Ab hr
 refine sc (Ad QA (by rfl)) (JJ x0.Abs x1 A1 c2 A4 c5 w2 (tbx X7a hT) (n3.ext X7a) (n6.ext X7a) r8a h9d) ?_
 rintro _ w3 E2a ⟨A2b,c3b,rfl,n8c⟩
 refine nrm ?_
 have X9c:=xtr X7a E2a
 refine sV (Ac rfl) ?_
 refine wh h8d<|wp_seq_k fun _ h1e=>wp_seq_k fun _ h2e=>Ae<|sV (Aa rfl) ?_
 obtain ⟨r0d,h3e,f4e⟩:=Ab f0e
 refine sc (Ad Nl (by rfl)) (FS w3 (tbx X9c hT)  r0d h3e) ?_
 rintro _ w4 E0a ⟨A5e,c6e,rfl,n7e⟩
 refine nrm ?_
 have X1d:=xtr X9c E0a
 obtain ⟨r8e,h9e,f0f⟩:=Ab f4e
 refine sc (Ad OI (by rfl)) (Fx (limbs r8a) (limbs r0d) A2b c3b A5e c6e w4 (tbx X1d hT) (n8c.ext E0a) n7e r8e h9e) ?_
 rintro _ w5 E1a rfl
 refine nrm ?_
 have X2d:=xtr X1d E1a
 refine wh h2e ?_
 rcases zb f0f with ⟨e4b,f1f⟩ | ⟨e4b,f2f⟩
 ·refine wp_cond_true (Ai (evb rfl e4b))<|wp_seq_k fun _ h3f=>Ae<|have q4f:=(((q6a.ext E3a).ext E2a).ext E0a).ext E1a;sV3 (Al Dq rfl q4f rfl) (Aa rfl) (Bb (vals:=[(0,.agg #[.bool x0.Neg,.slice A1 (sz x0.Abs) c2]),(1,.slice A4 (sz x1) c5)]) (cells:=[.bool x0.Neg,.slice A1 (sz x0.Abs) c2,.slice A4 (sz x1) c5]) (by rfl) (by kernel_rfl)) ?_
  have q5f:=((q6c.ext E2a).ext E0a).ext E1a
  refine ss Ol q5f fun w6 U6f q7f=>?_
  have X5b:=belU X2d U6f g7c
  refine wh h3f<|wp_ret ?_
  obtain rfl:=sj f1f
  exact fin rfl (Res.cellN rfl Kl q7f rfl rfl Res.nil) (Aj X5b ⟨A1,c2,A4,c5,rfl,(n3.ext X5b),(n6.ext X5b)⟩)
 ·refine wp_cond_false (Ai (evb rfl e4b))<|wp_skip<|h1e _ _<|wp_seq_k fun _ h8f=>Dn [13] 14 mo rfl fun w6 E4a S6b=>have X7b:=xtr X2d E4a;dA 0 rfl (fun _=>Ag (o':=0) DF rfl rfl) ?_
  refine dV 1 rfl (fun _ hw=>Af GC rfl (Bx.cell ((((((q6a.ext E3a).ext E2a).ext E0a).ext E1a).ext E4a).ext hw) rfl)) S6b ?_
  refine dA 2 rfl (fun _=>Ag (o':=1) Bf rfl rfl) ?_
  refine dV 3 rfl (fun _ hw=>Af BJ rfl (Bx.cell ((((((q6a.ext E3a).ext E2a).ext E0a).ext E1a).ext E4a).ext hw) rfl)) S6b ?_
  refine dA 4 rfl (fun _=>Aa rfl) ?_
  refine dA 8 rfl (fun _=>Aa rfl) ?_
  refine dA 9 rfl (fun _=>Aa rfl) ?_
  have n3d:=((n8c.ext E0a).ext E1a).ext E4a
  obtain ⟨r4d,h9f,f0g⟩:=Ab f2f
  refine dc 5 rfl (by kernel_rfl) (by rfl) (Ad Oa (by rfl)) (EU x0.Abs r8a A1 c2 A2b c3b w6 (tbx X7b hT) (n3.ext X7b) n3d r4d h9f) ?_
  rintro _ w7 E9a ⟨A1g,c2g,A7h,c8h,rfl,n3g,n9h⟩
  refine dnrm ?_
  have X5d:=xtr X7b E9a
  have S4g:=S6b.trans E9a
  refine dA 6 rfl (fun _=>Ov Ot rfl rfl) ?_
  obtain ⟨r5a,h5g,f6g⟩:=Ab f0g
  refine dc 7 rfl (by kernel_rfl) (by rfl) (Ad JO (by rfl)) (Bv x0.Neg r4d.Q A1g c2g w7 (tbx X5d hT) n3g r5a h5g) ?_
  rintro _ w8 E0b ⟨A8b,c9b,rfl,n7g⟩
  refine dnrm ?_
  have X0c:=xtr X5d E0b
  have S8g:=S4g.trans E0b
  obtain ⟨r1c,h9g,f0h⟩:=Ab f6g
  refine dc 10 rfl (by kernel_rfl) (by rfl) (Ad Oa (by rfl)) (EU x1 r8a A4 c5 A2b c3b w8 (tbx X0c hT) (n6.ext X0c) ((n3d.ext E9a).ext E0b) r1c h9g) ?_
  rintro _ w9 E1b ⟨A2c,c3c,A0i,c1i,rfl,n1h,n2i⟩
  refine dnrm ?_
  have X2h:=xtr X0c E1b
  have S3i:=S8g.trans E1b
  refine dA 11 rfl (fun _=>Ov Ot rfl rfl) ?_
  refine dA 12 rfl (fun _=>Bb (vals:=[(0,.agg #[.bool r5a.Neg,.slice A8b (sz r5a.Abs) c9b]),(1,.slice A2c (sz r1c.Q) c3c)]) (cells:=[.bool r5a.Neg,.slice A8b (sz r5a.Abs) c9b,.slice A2c (sz r1c.Q) c3c]) (by rfl) (by kernel_rfl)) ?_
  have q4c:=((((((q6c.ext E2a).ext E0a).ext E1a).ext E4a).ext E9a).ext E0b).ext E1b
  refine dkk 13 Ol q4c fun w6d U5c q3h=>?_
  have X4h:=belU X2h U5c g7c
  refine Cn (by kernel_rfl) ?_
  refine h8f _ _<|wp_ret ?_
  have n5h:=(n7g.ext E1b).upd U5c q4c (by decide)
  obtain rfl:=sj f0h
  exact fin rfl (Res.cellN rfl Kl q3h rfl rfl Res.nil) (Aj X4h ⟨A8b,c9b,A2c,c3c,rfl,n5h,(n1h.upd U5c q4c (by decide))⟩)
theorem II (x0:Ah) (x1:Ah) (A1:Option Addr) (c2:Nat) (A4:Option Addr) (c5:Nat) (w:World) (hT:TB w) (n3:RU w A1 c2 x0.Abs) (n6:RU w A4 c5 x1.Abs) (r:Ah) (hr:DQ x0 x1=some r) :
  Calls Tryz.prog 132 #[.agg #[.bool x0.Neg,.slice A1 (sz x0.Abs) c2],.agg #[.bool x1.Neg,.slice A4 (sz x1.Abs) c5]] w (Ret Jm w r):=by
 unfold DQ at hr
 go_enter Tryz.func132,Tryz.ntmps132
 refine wp_seq_k fun _ h7=>Ae<|Bu rfl rfl fun b8 w1 E9 g6d q8a=>?_
 refine nrm ?_
 refine Bu rfl rfl fun b7d w2 E4a g5b q9a=>?_
 refine nrm ?_
 have g8d:=nlt E9.size g5b
 have X0b:=xtr E9 E4a
 refine AA IJ fun b9d w3 E1a g6b q7b=>?_
 refine nrm ?_
 have g8b:=nlt X0b.size g6b
 have X9b:=xtr X0b E1a
 refine wh h7<|wp_seq_k fun _ h0c=>Dn [11] 12 mo rfl fun w4 E0a S2a=>have X3a:=xtr X9b E0a;dA 0 rfl (fun _=>Ag (o':=0) DF rfl rfl) ?_
 refine dV 1 rfl (fun _ hw=>Af GC rfl (Bx.cell ((((q8a.ext E4a).ext E1a).ext E0a).ext hw) rfl)) S2a ?_
 refine dA 2 rfl (fun _=>Ag (o':=0) DF rfl rfl) ?_
 refine dV 3 rfl (fun _ hw=>Af GC rfl (Bx.cell (((q9a.ext E1a).ext E0a).ext hw) rfl)) S2a ?_
 refine dab 4 rfl (by kernel_rfl) (fun _ _ _ h=>h) (by rfl) (fun _=>NI Ps rfl rfl) fun z5a hz5a=>?_
 refine dnrm ?_
 refine dA 5 rfl (fun _=>Ag (o':=1) Bf rfl rfl) ?_
 refine dV 6 rfl (fun _ hw=>Af BJ rfl (Bx.cell ((((q8a.ext E4a).ext E1a).ext E0a).ext hw) rfl)) S2a ?_
 refine dA 7 rfl (fun _=>Ag (o':=1) Bf rfl rfl) ?_
 refine dV 8 rfl (fun _ hw=>Af BJ rfl (Bx.cell (((q9a.ext E1a).ext E0a).ext hw) rfl)) S2a ?_
 obtain ⟨r1b,h1c,f2c⟩:=Ab hr
 refine dc 9 rfl (by kernel_rfl) (by rfl) (Ad en_200 (by rfl)) (HZ x0.Abs x1.Abs A1 c2 A4 c5 w4 (tbx X3a hT) (n3.ext X3a) (n6.ext X3a) r1b h1c) ?_
 rintro _ w5 E6a ⟨A3c,c4c,rfl,n5c⟩
 refine dnrm ?_
 have X2b:=xtr X3a E6a
 have S6c:=S2a.trans E6a
 obtain rfl:z5a=decide (¬x0.Neg=x1.Neg):=bz hz5a
 obtain ⟨r7c,h8c,f9c⟩:=Ab f2c
 refine dc 10 rfl (by kernel_rfl) (by rfl) (Ad JO (by rfl)) (Bv (decide (¬x0.Neg=x1.Neg)) r1b A3c c4c w5 (tbx X2b hT) n5c r7c h8c) ?_
 rintro _ w6 E7a ⟨A0d,c1d,rfl,n2d⟩
 refine dnrm ?_
 have X3d:=xtr X2b E7a
 have S0e:=S6c.trans E7a
 have q3b:=((q7b.ext E0a).ext E6a).ext E7a
 refine dkk 11 GU q3b fun w7 U4b q4d=>?_
 have X5d:=belU X3d U4b g8b
 refine Cn (by kernel_rfl) ?_
 refine h0c _ _<|wp_ret ?_
 obtain rfl:=sj f9c
 exact fin rfl (Res.cellN rfl Dq q4d rfl rfl Res.nil) (Aj X5d ⟨A0d,c1d,rfl,(n2d.upd U4b q3b (by decide))⟩)
theorem c_sorobanref03_CmpInt (x0:Ah) (x1:Ah) (A1:Option Addr) (c2:Nat) (A4:Option Addr) (c5:Nat) (w:World) (hT:TB w) (n3:RU w A1 c2 x0.Abs) (n6:RU w A4 c5 x1.Abs) (r:Int) (hr:EO x0 x1=some r) :
  Calls Tryz.prog 181 #[.agg #[.bool x0.Neg,.slice A1 (sz x0.Abs) c2],.agg #[.bool x1.Neg,.slice A4 (sz x1.Abs) c5]] w (Ret Fy w r):=by
 unfold EO at hr
 go_enter Tryz.func181,Tryz.ntmps181
 refine wp_seq_k fun _ h7=>Ae<|Bu rfl rfl fun b8 w1 E9 g9d q2a=>?_
 refine nrm ?_
 refine Bu rfl rfl fun b0e w2 E1a g1b q5a=>?_
 refine nrm ?_
 have g1e:=nlt E9.size g1b
 have X0a:=xtr E9 E1a
 refine sV (Ac rfl) ?_
 refine wh h7<|wp_seq_k fun _ h2b=>wp_seq_k fun _ h3b=>Ae<|sV3 (Ag (o':=0) DF rfl rfl) (Af GC rfl (Bx.cell (q2a.ext E1a) rfl)) (Ag (o':=0) DF rfl rfl) ?_
 refine sV (Af GC rfl (Bx.cell q5a rfl)) ?_
 refine sb (NI Ps rfl rfl) fun z7a hz7a=>?_
 refine nrm ?_
 refine wh h3b ?_
 rcases zi hz7a hr with ⟨e6a,_,f8a⟩ | ⟨e6a,_,f9a⟩
 ·refine wp_cond_true (Ai (evb rfl e6a))<|wp_seq_k fun _ h4b=>wp_seq_k fun _ h5b=>Ae<|sV2 (Ag (o':=0) DF rfl rfl) (Af GC rfl (Bx.cell (q2a.ext E1a) rfl)) ?_
  refine wh h5b ?_
  rcases bft x0.Neg with e3a | e3a
  ·have p6b:=e3a
   have f7b:=ifP p6b f8a
   refine wp_cond_true (Ai (evb rfl e3a))<|wp_seq_k fun _ h8b=>Ae<|sV (Ac rfl) ?_
   refine wh h8b<|wp_ret ?_
   obtain rfl:=sj f7b
   exact fin rfl (Res.tmp rfl Res.nil) (Aj X0a rfl)
  ·have p9b:=bF e3a
   have f0c:=ifN p9b f8a
   refine wp_cond_false (Ai (evb rfl e3a))<|wp_skip<|h4b _ _<|wp_seq_k fun _ h1c=>Ae<|sV (Ac rfl) ?_
   refine wh h1c<|wp_ret ?_
   obtain rfl:=sj f0c
   exact fin rfl (Res.tmp rfl Res.nil) (Aj X0a rfl)
 ·refine wp_cond_false (Ai (evb rfl e6a))<|wp_skip<|h2b _ _<|wp_seq_k fun _ h2c=>wp_seq_k fun _ h3c=>Ae<|sV2 (Ag (o':=0) DF rfl rfl) (Af GC rfl (Bx.cell (q2a.ext E1a) rfl)) ?_
  refine wh h3c ?_
  rcases bft x0.Neg with e4a | e4a
  ·have p4c:=e4a
   have f5c:=ifP p4c f9a
   refine wp_cond_true (Ai (evb rfl e4a))<|wp_seq_k fun _ h6c=>Ae<|sV3 (Ag (o':=1) Bf rfl rfl) (Af BJ rfl (Bx.cell (q2a.ext E1a) rfl)) (Ag (o':=1) Bf rfl rfl) ?_
   refine sV (Af BJ rfl (Bx.cell q5a rfl)) ?_
   obtain ⟨r0b,h7c,f8c⟩:=Ab f5c
   refine sc (Ad Mw (by rfl)) (Ed x0.Abs x1.Abs A1 c2 A4 c5 w2 (tbx X0a hT) (n3.ext X0a) (n6.ext X0a) r0b h7c) ?_
   rintro _ w3 E9c rfl
   refine nrm ?_
   have X0d:=xtr X0a E9c
   refine sV2 (PK (c:=wi64 (-r0b)) rfl rfl) (Ac rfl) ?_
   refine wh h6c<|wp_ret ?_
   obtain rfl:=sj f8c
   exact fin rfl (Res.tmp rfl Res.nil) (Aj X0d rfl)
  ·have p1d:=bF e4a
   have f2d:=ifN p1d f9a
   refine wp_cond_false (Ai (evb rfl e4a))<|wp_skip<|h2c _ _<|wp_seq_k fun _ h3d=>Ae<|sV3 (Ag (o':=1) Bf rfl rfl) (Af BJ rfl (Bx.cell (q2a.ext E1a) rfl)) (Ag (o':=1) Bf rfl rfl) ?_
   refine sV (Af BJ rfl (Bx.cell q5a rfl)) ?_
   obtain ⟨r4d,h5d,f6d⟩:=Ab f2d
   refine sc (Ad Mw (by rfl)) (Ed x0.Abs x1.Abs A1 c2 A4 c5 w2 (tbx X0a hT) (n3.ext X0a) (n6.ext X0a) r4d h5d) ?_
   rintro _ w3 E7d rfl
   refine nrm ?_
   have X8d:=xtr X0a E7d
   refine sV (Ac rfl) ?_
   refine wh h3d<|wp_ret ?_
   obtain rfl:=sj f6d
   exact fin rfl (Res.tmp rfl Res.nil) (Aj X8d rfl)
theorem c_sorobanref03_Compare (x0:Cz) (x1:Cz) (A1:Option Addr) (c2:Nat) (A4:Option Addr) (c5:Nat) (A7:Option Addr) (c8:Nat) (A2a:Option Addr) (c3a:Nat) (w:World) (hT:TB w) (n3:RU w A1 c2 x0.Num.Abs) (n6:RU w A4 c5 x0.Den) (n9:RU w A7 c8 x1.Num.Abs) (n2c:RU w A2a c3a x1.Den) (r:Int) (hr:Cq x0 x1=some r) :
  Calls Tryz.prog 99 #[.agg #[.bool x0.Num.Neg,.slice A1 (sz x0.Num.Abs) c2,.slice A4 (sz x0.Den) c5],.agg #[.bool x1.Num.Neg,.slice A7 (sz x1.Num.Abs) c8,.slice A2a (sz x1.Den) c3a]] w (Ret Fy w r):=by
 unfold Cq at hr
 go_enter Tryz.func99,Tryz.ntmps99
 refine wp_seq_k fun _ h3c=>Ae<|Bu rfl rfl fun b5f w1 E1b g6f q2b=>?_
 refine nrm ?_
 refine Bu rfl rfl fun b7f w2 E4a g4c q3b=>?_
 refine nrm ?_
 have g8f:=nlt E1b.size g4c
 have X5c:=xtr E1b E4a
 refine sV (Ac rfl) ?_
 refine wh h3c<|wp_seq_k fun _ h6c=>Dn [] 14 mo rfl fun w3 E0a S1a=>have X5a:=xtr X5c E0a;dA 0 rfl (fun _=>Ag (o':=0) IE rfl rfl) ?_
 refine dV 1 rfl (fun _ hw=>AL Dq rfl (((q2b.ext E4a).ext E0a).ext hw) (by simp only [List.drop_zero,List.take_succ_cons,List.take_zero];rfl) rfl) S1a ?_
 refine dA 2 rfl (fun _=>Ag (o':=2) HV rfl rfl) ?_
 refine dV 3 rfl (fun _ hw=>Af BJ rfl (Bx.cell ((q3b.ext E0a).ext hw) rfl)) S1a ?_
 refine dA 6 rfl (fun _=>Ag (o':=0) IE rfl rfl) ?_
 refine dV 7 rfl (fun _ hw=>AL Dq rfl ((q3b.ext E0a).ext hw) (by simp only [List.drop_zero,List.take_succ_cons,List.take_zero];rfl) rfl) S1a ?_
 refine dA 8 rfl (fun _=>Ag (o':=2) HV rfl rfl) ?_
 refine dV 9 rfl (fun _ hw=>Af BJ rfl (Bx.cell (((q2b.ext E4a).ext E0a).ext hw) rfl)) S1a ?_
 obtain ⟨r4b,h7c,f8c⟩:=Ab hr
 refine dc 4 rfl (by kernel_rfl) (by rfl) (Ad JO (by rfl)) (Bv false x1.Den A2a c3a w3 (tbx X5a hT) (n2c.ext X5a) r4b h7c) ?_
 rintro _ w4 E5b ⟨A9c,c0d,rfl,n1d⟩
 refine dnrm ?_
 have X6a:=xtr X5a E5b
 have S2d:=S1a.trans E5b
 obtain ⟨r6b,h3d,f4d⟩:=Ab f8c
 refine dc 5 rfl (by kernel_rfl) (by rfl) (Ad Qn (by rfl)) (II x0.Num r4b A1 c2 A9c c0d w4 (tbx X6a hT) (n3.ext X6a) n1d r6b h3d) ?_
 rintro _ w5 E7b ⟨A5d,c6d,rfl,n7d⟩
 refine dnrm ?_
 have X7a:=xtr X6a E7b
 have S8d:=S2d.trans E7b
 obtain ⟨r8b,h9d,f0e⟩:=Ab f4d
 refine dc 10 rfl (by kernel_rfl) (by rfl) (Ad JO (by rfl)) (Bv false x0.Den A4 c5 w5 (tbx X7a hT) (n6.ext X7a) r8b h9d) ?_
 rintro _ w6 E8a ⟨A1e,c2e,rfl,n3e⟩
 refine dnrm ?_
 have X9a:=xtr X7a E8a
 have S4e:=S8d.trans E8a
 obtain ⟨r9b,h5e,f6e⟩:=Ab f0e
 refine dc 11 rfl (by kernel_rfl) (by rfl) (Ad Qn (by rfl)) (II x1.Num r8b A7 c8 A1e c2e w6 (tbx X9a hT) (n9.ext X9a) n3e r9b h5e) ?_
 rintro _ w7 E0b ⟨A7e,c8e,rfl,n9e⟩
 refine dnrm ?_
 have X0c:=xtr X9a E0b
 have S0f:=S4e.trans E0b
 obtain ⟨r1f,h2f,f3f⟩:=Ab f6e
 refine dc 12 rfl (by kernel_rfl) (by rfl) (Ad en_181 (by rfl)) (c_sorobanref03_CmpInt r6b r9b A5d c6d A7e c8e w7 (tbx X0c hT) ((n7d.ext E8a).ext E0b) n9e r1f h2f) ?_
 rintro _ w8 E1c rfl
 refine dnrm ?_
 have X4f:=xtr X0c E1c
 have S9f:=S0f.trans E1c
 refine dA 13 rfl (fun _=>Ac rfl) ?_
 refine Cn (by kernel_rfl) ?_
 refine h6c _ _<|wp_ret ?_
 obtain rfl:=sj f3f
 exact fin rfl (Res.tmp rfl Res.nil) (Aj X4f rfl)
theorem c_sorobanref03_Rounded (x0:Nat) (x1:Nat) (x2:Nat) (x3:Bool) (x4:Int) (A1:Option Addr) (c2:Nat) (A4:Option Addr) (c5:Nat) (A7:Option Addr) (c8:Nat) (w:World) (hT:TB w) (n3:RU w A1 c2 x0) (n6:RU w A4 c5 x1) (n9:RU w A7 c8 x2) (r:Nat) (hr:BB x0 x1 x2 x3 x4=some r) :
  Calls Tryz.prog 212 #[.slice A1 (sz x0) c2,.slice A4 (sz x1) c5,.slice A7 (sz x2) c8,.bool x3,.int .i64 x4] w (Ret Jn w r):=by
 unfold BB at hr
 go_enter Tryz.func212,Tryz.ntmps212
 refine wp_seq_k fun _ h2m=>Ae<|sV (Ac rfl) ?_
 refine wh h2m<|wp_seq_k fun _ h3m=>wp_seq_k fun _ h4m=>Ae<|sV2 (Aa rfl) (Ax AH rfl) ?_
 refine sb (Bl rfl rfl) fun z3h hz3h=>?_
 refine nrm ?_
 refine wh h4m ?_
 rcases zi hz3h hr with ⟨e7b,_,f5m⟩ | ⟨e7b,_,f6m⟩
 ·refine wp_cond_true (Ai (evb rfl e7b))<|wp_seq_k fun _ h7m=>Ae<|sV2 (Aa rfl) (Ac rfl) ?_
  refine wh h7m<|wp_ret ?_
  obtain rfl:=sj f5m
  exact fin rfl (Res.tmp rfl Res.nil) (Aj (Ext.refl _) ⟨A1,c2,rfl,n3⟩)
 ·refine wp_cond_false (Ai (evb rfl e7b))<|wp_skip<|h3m _ _<|wp_seq_k fun _ h8m=>Ae<|sV (Aa rfl) ?_
  refine sb (Bl rfl rfl) fun z4h hz4h=>?_
  refine nrm ?_
  refine sV (Aa rfl) ?_
  obtain ⟨m9m,h0n,f1n⟩:=Ab f6m
  refine Bm 6 (fun l l' w'=>∃(t5h:Value) (t6h:Value),w=w'∧l'=(((l.set 20 t5h).set 21 t6h).set 22 (.bool m9m))) ?_ ?_
  ·intro HJ39
   rcases zi hz4h h0n with ⟨e5a,_,f2n⟩ | ⟨e5a,_,f3n⟩
   ·refine sV (Aa rfl) ?_ (hw:=wgT rfl e5a)
    refine sb (Fv rfl) ?_ (hw:=wgT rfl e5a)
    intro z8b hz8b
    refine nrm ?_
    refine sV (Ar (evb rfl e5a) rfl) ?_
    obtain rfl:z8b=decide (¬(x3=true)):=bz hz8b
    obtain rfl:=sj f2n
    exact HJ39 _ _ ⟨(.bool x3),(.bool (decide (¬(x3=true)))),rfl,(by simp only [S0,S1]<;>rfl)⟩
   ·refine sP ?_ (hw:=wgF rfl e5a)
    refine sP ?_ (hw:=wgF rfl e5a)
    refine sV (Aw (evb rfl e5a) rfl) ?_
    obtain rfl:=sj f3n
    exact HJ39 _ _ ⟨uu,uu,rfl,(by simp only [S0,S1]<;>rfl)⟩
  ·rintro l' _ ⟨t5h,t6h,rfl,hq'⟩ l'' hl
   rw [hq'] at hl
   clear hq'
   simp only [S0,S1] at hl
   subst hl
   refine sV (Aa rfl) ?_
   obtain ⟨m4n,h5n,f6n⟩:=Ab f1n
   refine Bm 13 (fun l l' w'=>∃(t7h:Value) (t8h:Value) (t9h:Value) (t0i:Value) (t1i:Value),w=w'∧l'=((((((l.set 24 t7h).set 25 t8h).set 26 t9h).set 27 t0i).set 28 t1i).set 29 (.bool m4n))) ?_ ?_
   ·intro HJ77
    rcases zb h5n with ⟨e2a,f7n⟩ | ⟨e2a,f8n⟩
    ·refine sP ?_ (hw:=wgF rfl e2a)
     refine sP ?_ (hw:=wgF rfl e2a)
     refine sP ?_ (hw:=wgF rfl e2a)
     refine sP ?_
     refine sP ?_ (hw:=wgF rfl e2a)
     refine sV (Ar (evb rfl e2a) rfl) ?_
     obtain rfl:=sj f7n
     exact HJ77 _ _ ⟨uu,uu,uu,uu,uu,rfl,(by simp only [S0,S1]<;>rfl)⟩
    ·refine sV (Aa rfl) ?_ (hw:=wgT rfl e2a)
     refine sb (Bl rfl rfl) ?_ (hw:=wgT rfl e2a)
     intro z0b hz0b
     refine nrm ?_
     refine sV (Aa rfl) ?_ (hw:=wgT rfl e2a)
     obtain ⟨m2i,h9n,f0o⟩:=Ab f8n
     refine Bm 12 (fun l l' w'=>∃(t9b:Value),w=w'∧l'=((l.set 27 t9b).set 28 (.bool m2i))) ?_ ?_
     ·intro HJ94
      rcases zi hz0b h9n with ⟨e7a,_,f1o⟩ | ⟨e7a,_,f2o⟩
      ·refine sV (Aa rfl) ?_ (hw:=wgT rfl e7a)
       refine sV (Ar (evb rfl e7a) rfl) ?_ (hw:=wgT rfl e2a)
       obtain rfl:=sj f1o
       exact HJ94 _ _ ⟨(.bool x3),rfl,(by simp only [S0,S1]<;>rfl)⟩
      ·refine sP ?_ (hw:=wgF rfl e7a)
       refine sV (Aw (evb rfl e7a) rfl) ?_ (hw:=wgT rfl e2a)
       obtain rfl:=sj f2o
       exact HJ94 _ _ ⟨uu,rfl,(by simp only [S0,S1]<;>rfl)⟩
     ·rintro l' _ ⟨t9b,rfl,hq'⟩ l'' hl
      rw [hq'] at hl
      clear hq'
      simp only [S0,S1] at hl
      subst hl
      refine sV (Aw (evb rfl e2a) rfl) ?_
      obtain rfl:=sj f0o
      exact HJ77 _ _ ⟨(.int .i64 x4),(.bool z0b),(.bool z0b),t9b,(.bool m2i),rfl,(by simp only [S0,S1]<;>rfl)⟩
   ·rintro l' _ ⟨t7h,t8h,t9h,t0i,t1i,rfl,hq'⟩ l'' hl
    rw [hq'] at hl
    clear hq'
    simp only [S0,S1] at hl
    subst hl
    refine sV (Ac rfl) ?_
    refine wh h8m<|wp_seq_k fun _ h3o=>wp_seq_k fun _ h4o=>Ae<|sV (Aa rfl) ?_
    refine sb (Bl rfl rfl) fun z3i hz3i=>?_
    refine nrm ?_
    refine sV (Aa rfl) ?_
    obtain ⟨m5o,h6o,f7o⟩:=Ab f6n
    refine Bm 6 (fun l l' w'=>∃(t4i:Value) (t5i:Value),w=w'∧l'=(((l.set 33 t4i).set 34 t5i).set 35 (.bool m5o))) ?_ ?_
    ·intro HJ115
     rcases zi hz3i h6o with ⟨e6a,_,f8o⟩ | ⟨e6a,_,f9o⟩
     ·refine sP ?_ (hw:=wgF rfl e6a)
      refine sP ?_ (hw:=wgF rfl e6a)
      refine sV (Ar (evb rfl e6a) rfl) ?_
      obtain rfl:=sj f8o
      exact HJ115 _ _ ⟨uu,uu,rfl,(by simp only [S0,S1]<;>rfl)⟩
     ·refine sV (Aa rfl) ?_ (hw:=wgT rfl e6a)
      refine sb (Bl rfl rfl) ?_ (hw:=wgT rfl e6a)
      intro z0c hz0c
      refine nrm ?_
      refine sV (Aw (evb rfl e6a) rfl) ?_
      obtain rfl:z0c=decide (x4=2):=bz hz0c
      obtain rfl:=sj f9o
      exact HJ115 _ _ ⟨(.int .i64 x4),(.bool (decide (x4=2))),rfl,(by simp only [S0,S1]<;>rfl)⟩
    ·rintro l' _ ⟨t4i,t5i,rfl,hq'⟩ l'' hl
     rw [hq'] at hl
     clear hq'
     simp only [S0,S1] at hl
     subst hl
     refine wh h4o ?_
     obtain ⟨m0p,h1p,f2p⟩:=Ab f7o
     refine BX (fun l l' w'=>∃(t6i:Value) (t7i:Value) (t8i:Value) (t9i:Value) (t0j:Value) (t1j:Value) (t2j:Value) (t3j:Value) (t4j:Value) (t5j:Value) (t6j:Value) (t7j:Value) (t8j:Value) (t9j:Value) (t0k:Value) (t1k:Value) (t2k:Value) (t3k:Value) (t4k:Value) (t5k:Value) (t6k:Value) (t7k:Value) (t8k:Value) (t9k:Value) (t0l:Value) (t1l:Value) (t2l:Value) (t3l:Value),UpdS [] w w'∧l'=(((((((((((((((((((((((((((((l.set 11 (.bool m0p)).set 12 t6i).set 36 t7i).set 37 t8i).set 38 t9i).set 39 t0j).set 40 t1j).set 41 t2j).set 42 t3j).set 43 t4j).set 44 t5j).set 45 t6j).set 46 t7j).set 47 t8j).set 48 t9j).set 49 t0k).set 50 t1k).set 51 t2k).set 52 t3k).set 53 t4k).set 54 t5k).set 55 t6k).set 56 t7k).set 57 t8k).set 58 t9k).set 59 t0l).set 60 t1l).set 61 t2l).set 62 t3l)) ?_ ?_
     ·rcases zb h1p with ⟨e1c,f3p⟩ | ⟨e1c,f4p⟩
      ·refine wp_cond_true (Ai (evb rfl e1c))<|wp_seq_k fun _ h5p=>Ae<|sV2 (Aa rfl) (Aa rfl) ?_
       obtain ⟨r2c,h6p,f7p⟩:=Ab f3p
       refine sc (Ad OM (by rfl)) (FW x1 x1 A4 c5 A4 c5 w hT n6 n6 r2c h6p) ?_
       rintro _ w1 E1b ⟨A4l,c5l,rfl,n8p⟩
       refine nrm ?_
       refine sV (Aa rfl) ?_
       obtain ⟨r8a,h9p,f0q⟩:=Ab f7p
       refine sc (Ad Mw (by rfl)) (Ed r2c x2 A4l c5l A7 c8 w1 (tbx E1b hT) n8p (n9.ext E1b) r8a h9p) ?_
       rintro _ w2 E6l rfl
       refine nrm ?_
       have X1q:=xtr E1b E6l
       refine sV (Ac rfl) ?_
       refine wh h5p<|Ae<|sV (Aa rfl) ?_
       refine sb (EX rfl rfl) fun z2b hz2b=>?_
       refine nrm ?_
       refine sV (Aa rfl) ?_
       obtain ⟨m7l,h2q,f3q⟩:=Ab f0q
       refine Bm 22 (fun l l' w'=>∃(t3c:Value) (t4c:Value) (t5c:Value) (t6c:Value) (t7c:Value) (t8c:Value) (t9c:Value) (t0d:Value) (t1d:Value) (t2d:Value) (t3d:Value) (t4d:Value) (t5d:Value) (t6d:Value) (t7d:Value) (t8d:Value) (t9d:Value) (t0e:Value),w2=w'∧l'=(((((((((((((((((((l.set 44 t3c).set 45 t4c).set 46 t5c).set 47 t6c).set 48 t7c).set 49 t8c).set 50 t9c).set 51 t0d).set 52 t1d).set 53 t2d).set 54 t3d).set 55 t4d).set 56 t5d).set 57 t6d).set 58 t7d).set 59 t8d).set 60 t9d).set 61 t0e).set 62 (.bool m7l))) ?_ ?_
       ·intro HJ1015
        rcases zi hz2b h2q with ⟨e3a,_,f4q⟩ | ⟨e3a,_,f5q⟩
        ·refine sP ?_ (hw:=wgF rfl e3a)
         refine sP ?_ (hw:=wgF rfl e3a)
         refine sP ?_ (hw:=wgF rfl e3a)
         refine sP ?_
         refine sP ?_
         refine sP ?_
         refine sP ?_
         refine sP ?_
         refine sP ?_
         refine sP ?_
         refine sP ?_
         refine sP ?_
         refine sP ?_
         refine sP ?_
         refine sP ?_
         refine sP ?_
         refine sP ?_
         refine sP ?_ (hw:=wgF rfl e3a)
         refine sV (Ar (evb rfl e3a) rfl) ?_
         obtain rfl:=sj f4q
         exact HJ1015 _ _ ⟨uu,uu,uu,uu,uu,uu,uu,uu,uu,uu,uu,uu,uu,uu,uu,uu,uu,uu,rfl,(by simp only [S0,S1]<;>rfl)⟩
        ·refine sV (Aa rfl) ?_ (hw:=wgT rfl e3a)
         refine sb (Bl rfl rfl) ?_ (hw:=wgT rfl e3a)
         intro z3b hz3b
         refine nrm ?_
         refine sV (Aa rfl) ?_ (hw:=wgT rfl e3a)
         obtain ⟨m8l,h6q,f7q⟩:=Ab f5q
         refine Bm 21 (fun l l' w'=>∃(t1e:Value) (t2e:Value) (t3e:Value) (t4e:Value) (t5e:Value) (t6e:Value) (t7e:Value) (t8e:Value) (t9e:Value) (t0f:Value) (t1f:Value) (t2f:Value) (t3f:Value) (t4f:Value),w2=w'∧l'=(((((((((((((((l.set 47 t1e).set 48 t2e).set 49 t3e).set 50 t4e).set 51 t5e).set 52 t6e).set 53 t7e).set 54 t8e).set 55 t9e).set 56 t0f).set 57 t1f).set 58 t2f).set 59 t3f).set 60 t4f).set 61 (.bool m8l))) ?_ ?_
         ·intro HJ1157
          rcases zi hz3b h6q with ⟨e4a,_,f8q⟩ | ⟨e4a,_,f9q⟩
          ·refine sV (Aa rfl) ?_ (hw:=wgT rfl e4a)
           refine sb (Bl rfl rfl) ?_ (hw:=wgT rfl e4a)
           intro z4b hz4b
           refine nrm ?_
           refine sV (Aa rfl) ?_ (hw:=wgT rfl e4a)
           obtain ⟨m9l,h0r,f1r⟩:=Ab f8q
           refine Bm 20 (fun l l' w'=>∃(t5f:Value) (t6f:Value) (t7f:Value) (t8f:Value) (t9f:Value) (t0g:Value) (t1g:Value) (t2g:Value) (t3g:Value) (t4g:Value),w2=w'∧l'=(((((((((((l.set 50 t5f).set 51 t6f).set 52 t7f).set 53 t8f).set 54 t9f).set 55 t0g).set 56 t1g).set 57 t2g).set 58 t3g).set 59 t4g).set 60 (.bool m9l))) ?_ ?_
           ·intro HJ1226
            rcases zi hz4b h0r with ⟨e0a,_,f2r⟩ | ⟨e0a,_,f3r⟩
            ·refine sP ?_ (hw:=wgF rfl e0a)
             refine sP ?_ (hw:=wgF rfl e0a)
             refine sP ?_ (hw:=wgF rfl e0a)
             refine sP ?_ (hw:=wgF rfl e0a)
             refine sP ?_
             refine sP ?_
             refine sP ?_
             refine sP ?_
             refine sP ?_
             refine sP ?_ (hw:=wgF rfl e0a)
             refine sV (Ar (evb rfl e0a) rfl) ?_ (hw:=wgT rfl e4a)
             obtain rfl:=sj f2r
             exact HJ1226 _ _ ⟨uu,uu,uu,uu,uu,uu,uu,uu,uu,uu,rfl,(by simp only [S0,S1]<;>rfl)⟩
            ·refine sV (Aa rfl) ?_ (hw:=wgT rfl e0a)
             refine sV (Ax AH rfl) ?_ (hw:=wgT rfl e0a)
             refine sb (EX rfl rfl) ?_ (hw:=wgT rfl e0a)
             intro z5b hz5b
             refine nrm ?_
             refine sV (Aa rfl) ?_ (hw:=wgT rfl e0a)
             obtain ⟨m0m,h4r,f5r⟩:=Ab f3r
             refine Bm 19 (fun l l' w'=>∃(t5g:Value) (t6g:Value) (t7g:Value) (t8g:Value) (t9g:Value),w2=w'∧l'=((((((l.set 54 t5g).set 55 t6g).set 56 t7g).set 57 t8g).set 58 t9g).set 59 (.bool m0m))) ?_ ?_
             ·intro HJ1258
              rcases zi hz5b h4r with ⟨e1a,_,f6r⟩ | ⟨e1a,_,f7r⟩
              ·refine sV (Aa rfl) ?_ (hw:=wgT rfl e1a)
               obtain ⟨u9a,h8r,f9r⟩:=Ab f6r
               obtain ⟨bb1267,oo1268,hA0s,ia1s,ib2s,hc1270⟩:=RL.nth (n3.ext X1q) h8r
               refine sV (As AH An rfl rfl hA0s ia1s ib2s) ?_ (hw:=wgT rfl e1a)
               refine sV (Af AQ rfl hc1270) ?_ (hw:=wgT rfl e1a)
               refine sV (Jr (c:=u9a.tmod 2) (by decide) rfl rfl rfl) ?_ (hw:=wgT rfl e1a)
               refine sb (Bl rfl rfl) ?_ (hw:=wgT rfl e1a)
               intro z0h hz0h
               refine nrm ?_
               refine sV (Ar (evb rfl e1a) rfl) ?_ (hw:=wgT rfl e0a)
               obtain rfl:z0h=decide ((u9a.tmod 2)=1):=bz hz0h
               obtain rfl:=sj f9r
               exact HJ1258 _ _ ⟨(.slice A1 (sz x0) c2),(.pointer (some ⟨bb1267,oo1268+(0:Int).toNat,none⟩)),(.int .u32 u9a),(.int .u32 (u9a.tmod 2)),(.bool (decide ((u9a.tmod 2)=1))),rfl,(by simp only [S0,S1]<;>rfl)⟩
              ·refine sP ?_ (hw:=wgF rfl e1a)
               refine sP ?_ (hw:=wgF rfl e1a)
               refine sP ?_ (hw:=wgF rfl e1a)
               refine sP ?_ (hw:=wgF rfl e1a)
               refine sP ?_ (hw:=wgF rfl e1a)
               refine sV (Aw (evb rfl e1a) rfl) ?_ (hw:=wgT rfl e0a)
               obtain rfl:=sj f7r
               exact HJ1258 _ _ ⟨uu,uu,uu,uu,uu,rfl,(by simp only [S0,S1]<;>rfl)⟩
             ·rintro l' _ ⟨t5g,t6g,t7g,t8g,t9g,rfl,hq'⟩ l'' hl
              rw [hq'] at hl
              clear hq'
              simp only [S0,S1] at hl
              subst hl
              refine sV (Aw (evb rfl e0a) rfl) ?_ (hw:=wgT rfl e4a)
              obtain rfl:=sj f5r
              exact HJ1226 _ _ ⟨(.slice A1 (sz x0) c2),(.int .i64 (sz x0:Int)),(.bool z5b),(.bool z5b),t5g,t6g,t7g,t8g,t9g,(.bool m0m),rfl,(by simp only [S0,S1]<;>rfl)⟩
           ·rintro l' _ ⟨t5f,t6f,t7f,t8f,t9f,t0g,t1g,t2g,t3g,t4g,rfl,hq'⟩ l'' hl
            rw [hq'] at hl
            clear hq'
            simp only [S0,S1] at hl
            subst hl
            refine sV (Ar (evb rfl e4a) rfl) ?_ (hw:=wgT rfl e3a)
            obtain rfl:=sj f1r
            exact HJ1157 _ _ ⟨(.int .i64 x4),(.bool z4b),(.bool z4b),t5f,t6f,t7f,t8f,t9f,t0g,t1g,t2g,t3g,t4g,(.bool m9l),rfl,(by simp only [S0,S1]<;>rfl)⟩
          ·refine sP ?_ (hw:=wgF rfl e4a)
           refine sP ?_ (hw:=wgF rfl e4a)
           refine sP ?_ (hw:=wgF rfl e4a)
           refine sP ?_
           refine sP ?_
           refine sP ?_
           refine sP ?_
           refine sP ?_
           refine sP ?_
           refine sP ?_
           refine sP ?_
           refine sP ?_
           refine sP ?_
           refine sP ?_ (hw:=wgF rfl e4a)
           refine sV (Aw (evb rfl e4a) rfl) ?_ (hw:=wgT rfl e3a)
           obtain rfl:=sj f9q
           exact HJ1157 _ _ ⟨uu,uu,uu,uu,uu,uu,uu,uu,uu,uu,uu,uu,uu,uu,rfl,(by simp only [S0,S1]<;>rfl)⟩
         ·rintro l' _ ⟨t1e,t2e,t3e,t4e,t5e,t6e,t7e,t8e,t9e,t0f,t1f,t2f,t3f,t4f,rfl,hq'⟩ l'' hl
          rw [hq'] at hl
          clear hq'
          simp only [S0,S1] at hl
          subst hl
          refine sV (Aw (evb rfl e3a) rfl) ?_
          obtain rfl:=sj f7q
          exact HJ1015 _ _ ⟨(.int .i64 r8a),(.bool z3b),(.bool z3b),t1e,t2e,t3e,t4e,t5e,t6e,t7e,t8e,t9e,t0f,t1f,t2f,t3f,t4f,(.bool m8l),rfl,(by simp only [S0,S1]<;>rfl)⟩
       ·rintro l' _ ⟨t3c,t4c,t5c,t6c,t7c,t8c,t9c,t0d,t1d,t2d,t3d,t4d,t5d,t6d,t7d,t8d,t9d,t0e,rfl,hq'⟩ l'' hl
        rw [hq'] at hl
        clear hq'
        simp only [S0,S1] at hl
        subst hl
        refine sV (Ac rfl) ?_
        refine AG ?_
        obtain rfl:=sj f3q
        exact ⟨_,rfl,(.int .i64 r8a),(.slice A4 (sz x1) c5),(.slice A4 (sz x1) c5),(.slice A4l (sz r2c) c5l),(.slice A7 (sz x2) c8),(.int .i64 r8a),(.int .i64 r8a),(.bool z2b),(.bool z2b),t3c,t4c,t5c,t6c,t7c,t8c,t9c,t0d,t1d,t2d,t3d,t4d,t5d,t6d,t7d,t8d,t9d,t0e,(.bool m7l),(((UpdS.refl _ _).ext E1b).ext E6l),(by simp only [S0,S1]<;>rfl)⟩
      ·refine wp_cond_false (Ai (evb rfl e1c))<|wp_skip ?_
       obtain rfl:=sj f4p
       exact ⟨_,rfl,uu,uu,uu,uu,uu,uu,uu,uu,uu,uu,uu,uu,uu,uu,uu,uu,uu,uu,uu,uu,uu,uu,uu,uu,uu,uu,uu,uu,(UpdS.refl _ _),(by simp only [S0,S1]<;>rfl)⟩
     ·rintro l' w1 ⟨t6i,t7i,t8i,t9i,t0j,t1j,t2j,t3j,t4j,t5j,t6j,t7j,t8j,t9j,t0k,t1k,t2k,t3k,t4k,t5k,t6k,t7k,t8k,t9k,t0l,t1l,t2l,t3l,U3s,hq'⟩ l'' hl
      rw [hq'] at hl
      clear hq'
      simp only [S0,S1] at hl
      subst hl
      have X6b:=KR (Ext.refl _) U3s (Nat.le_refl _) al0
      refine h3o _ _<|wp_seq_k fun _ h4s=>wp_seq_k fun _ h5s=>Ae<|sV (Aa rfl) ?_
      refine wh h5s ?_
      rcases zb f2p with ⟨e1h,f6s⟩ | ⟨e1h,f7s⟩
      ·refine wp_cond_true (Ai (evb rfl e1h))<|wp_seq_k fun _ h8s=>Ae<|sV (Aa rfl) ?_
       obtain ⟨r1m,h9s,f0t⟩:=Ab f6s
       refine sc (Ad Nl (by rfl)) (FS w1 (tbx X6b hT)  r1m h9s) ?_
       rintro _ w2 E1t ⟨A2t,c3t,rfl,n4t⟩
       refine nrm ?_
       have X2h:=xtr X6b E1t
       obtain ⟨r5t,h6t,f7t⟩:=Ab f0t
       refine sc (Ad OM (by rfl)) (FW x0 r1m A1 c2 A2t c3t w2 (tbx X2h hT) (n3.ext X2h) n4t r5t h6t) ?_
       rintro _ w3 E8t ⟨A9t,c0u,rfl,n1u⟩
       refine nrm ?_
       have X2u:=xtr X2h E8t
       refine sV (Ac rfl) ?_
       refine wh h8s<|wp_ret ?_
       obtain rfl:=sj f7t
       exact fin rfl (Res.tmp rfl Res.nil) (Aj X2u ⟨A9t,c0u,rfl,n1u⟩)
      ·refine wp_cond_false (Ai (evb rfl e1h))<|wp_skip<|h4s _ _<|wp_seq_k fun _ h3u=>Ae<|sV2 (Aa rfl) (Ac rfl) ?_
       refine wh h3u<|wp_ret ?_
       obtain rfl:=sj f7s
       exact fin rfl (Res.tmp rfl Res.nil) (Aj X6b ⟨A1,c2,rfl,(n3.ext X6b)⟩)
theorem Jc (x0:Ap) (A1:Option Addr) (c2:Nat) (w:World) (hT:TB w) (n3:RLu w A1 c2 x0.Man.Abs) (r:Bool) (hr:CT x0=some r) :
  Calls Tryz.prog 44 #[.agg #[.bool x0.Man.Neg,.slice A1 x0.Man.Abs.length c2,.int .i64 x0.Exp]] w (Ret Gq w r):=by
 unfold CT at hr
 go_enter Tryz.func44,Tryz.ntmps44
 refine wp_seq_k fun _ h4=>Ae<|Bu rfl rfl fun b5 w1 E6 g7 q8=>?_
 refine nrm ?_
 refine sV (Ac rfl) ?_
 refine wh h4<|wp_seq_k fun _ h9=>Ae<|sV3 (Ag (o':=0) Ey rfl rfl) (Ag (o':=1) Bf rfl rfl) (Af BJ rfl (Bx.cell q8 rfl)) ?_
 refine sV (Ax AH rfl) ?_
 refine sb (Ie rfl rfl) fun z4b hz4b=>?_
 refine nrm ?_
 refine sV (Aa rfl) ?_
 obtain ⟨m9c,h0d,f1d⟩:=Ab hr
 refine Bm 20 (fun l l' w'=>∃(t5b:Value) (t6b:Value) (t7b:Value) (t8b:Value) (t9b:Value) (t0c:Value) (t1c:Value) (t2c:Value) (t3c:Value) (t4c:Value) (t5c:Value) (t6c:Value) (t7c:Value),UpdS [] w1 w'∧l'=((((((((((((((l.set 9 t5b).set 10 t6b).set 11 t7b).set 12 t8b).set 13 t9b).set 14 t0c).set 15 t1c).set 16 t2c).set 17 t3c).set 18 t4c).set 19 t5c).set 20 t6c).set 21 t7c).set 22 (.bool m9c))) ?_ ?_
 ·intro HJ85
  rcases zi hz4b h0d with ⟨e0a,_,f2d⟩ | ⟨e0a,_,f3d⟩
  ·refine sV (Ag (o':=2) EZ rfl rfl) ?_ (hw:=wgT rfl e0a)
   refine sV (Af EN rfl (Bx.cell q8 rfl)) ?_ (hw:=wgT rfl e0a)
   refine sb (Fu rfl rfl) ?_ (hw:=wgT rfl e0a)
   intro z3a hz3a
   refine nrm ?_
   refine sV (Aa rfl) ?_ (hw:=wgT rfl e0a)
   obtain ⟨m5a,h4d,f5d⟩:=Ab f2d
   refine Bm 14 (fun l l' w'=>∃(t6a:Value) (t7a:Value) (t8a:Value),w1=w'∧l'=((((l.set 13 t6a).set 14 t7a).set 15 t8a).set 16 (.bool m5a))) ?_ ?_
   ·intro HJ105
    rcases zi hz3a h4d with ⟨e1a,_,f6d⟩ | ⟨e1a,_,f7d⟩
    ·refine sV (Ag (o':=2) EZ rfl rfl) ?_ (hw:=wgT rfl e1a)
     refine sV (Af EN rfl (Bx.cell q8 rfl)) ?_ (hw:=wgT rfl e1a)
     refine sb (Ie rfl rfl) ?_ (hw:=wgT rfl e1a)
     intro z9a hz9a
     refine nrm ?_
     refine sV (Ar (evb rfl e1a) rfl) ?_ (hw:=wgT rfl e0a)
     obtain rfl:z9a=decide (x0.Exp≤3000):=bz hz9a
     obtain rfl:=sj f6d
     exact HJ105 _ _ ⟨(.pointer (some ⟨b5,2,none⟩)),(.int .i64 x0.Exp),(.bool (decide (x0.Exp≤3000))),rfl,(by simp only [S0,S1]<;>rfl)⟩
    ·refine sP ?_ (hw:=wgF rfl e1a)
     refine sP ?_ (hw:=wgF rfl e1a)
     refine sP ?_ (hw:=wgF rfl e1a)
     refine sV (Aw (evb rfl e1a) rfl) ?_ (hw:=wgT rfl e0a)
     obtain rfl:=sj f7d
     exact HJ105 _ _ ⟨uu,uu,uu,rfl,(by simp only [S0,S1]<;>rfl)⟩
   ·rintro l' _ ⟨t6a,t7a,t8a,rfl,hq'⟩ l'' hl
    rw [hq'] at hl
    clear hq'
    simp only [S0,S1] at hl
    subst hl
    refine sV (Aa rfl) ?_ (hw:=wgT rfl e0a)
    obtain ⟨m8c,h8d,f9d⟩:=Ab f5d
    refine Bm 19 (fun l l' w'=>∃(t0b:Value) (t1b:Value) (t2b:Value),UpdS [] w1 w'∧l'=((((l.set 18 t0b).set 19 t1b).set 20 t2b).set 21 (.bool m8c))) ?_ ?_
    ·intro HJ130
     rcases zb h8d with ⟨e2a,f0e⟩ | ⟨e2a,f1e⟩
     ·refine sP ?_ (hw:=wgF rfl e2a)
      refine sP ?_ (hw:=wgF rfl e2a)
      refine sP ?_ (hw:=wgF rfl e2a)
      refine sV (Ar (evb rfl e2a) rfl) ?_ (hw:=wgT rfl e0a)
      obtain rfl:=sj f0e
      exact HJ130 _ _ ⟨uu,uu,uu,(UpdS.refl _ _),(by simp only [S0,S1]<;>rfl)⟩
     ·refine sV (Al Bt rfl q8 rfl) ?_ (hw:=wgT rfl e2a)
      obtain ⟨r4a,h2e,f3e⟩:=Ab f1e
      refine sc (Ad PH (by rfl)) (Gt x0 A1 c2 w1 (tbx E6 hT) (n3.ext E6) r4a h2e) ?_ (hw:=wgT rfl e2a)
      rintro _ w2 E4e rfl
      refine nrm ?_
      refine sb (Fv rfl) ?_ (hw:=wgT rfl e2a)
      intro z3b hz3b
      refine nrm ?_
      refine sV (Aw (evb rfl e2a) rfl) ?_ (hw:=wgT rfl e0a)
      obtain rfl:z3b=decide (¬(r4a=true)):=bz hz3b
      obtain rfl:=sj f3e
      exact HJ130 _ _ ⟨(.agg #[.bool x0.Man.Neg,.slice A1 x0.Man.Abs.length c2,.int .i64 x0.Exp]),(.bool r4a),(.bool (decide (¬(r4a=true)))),((UpdS.refl _ _).ext E4e),(by simp only [S0,S1]<;>rfl)⟩
    ·rintro l' w2 ⟨t0b,t1b,t2b,U5e,hq'⟩ l'' hl
     rw [hq'] at hl
     clear hq'
     simp only [S0,S1] at hl
     subst hl
     refine sV (Ar (evb rfl e0a) rfl) ?_
     obtain rfl:=sj f9d
     exact HJ85 _ _ ⟨(.pointer (some ⟨b5,2,none⟩)),(.int .i64 x0.Exp),(.bool z3a),(.bool z3a),t6a,t7a,t8a,(.bool m5a),(.bool m5a),t0b,t1b,t2b,(.bool m8c),((UpdS.refl _ _).updS U5e al0),(by simp only [S0,S1]<;>rfl)⟩
  ·refine sP ?_ (hw:=wgF rfl e0a)
   refine sP ?_ (hw:=wgF rfl e0a)
   refine sP ?_ (hw:=wgF rfl e0a)
   refine sP ?_ (hw:=wgF rfl e0a)
   refine sP ?_
   refine sP ?_
   refine sP ?_
   refine sP ?_ (hw:=wgF rfl e0a)
   refine sP ?_ (hw:=wgF rfl e0a)
   refine sP ?_
   refine sP ?_
   refine sP ?_
   refine sP ?_ (hw:=wgF rfl e0a)
   refine sV (Aw (evb rfl e0a) rfl) ?_
   obtain rfl:=sj f3d
   exact HJ85 _ _ ⟨uu,uu,uu,uu,uu,uu,uu,uu,uu,uu,uu,uu,uu,(UpdS.refl _ _),(by simp only [S0,S1]<;>rfl)⟩
 ·rintro l' w2 ⟨t5b,t6b,t7b,t8b,t9b,t0c,t1c,t2c,t3c,t4c,t5c,t6c,t7c,U6e,hq'⟩ l'' hl
  rw [hq'] at hl
  clear hq'
  simp only [S0,S1] at hl
  subst hl
  have X7e:=KR E6 U6e (E6).size al0
  refine sV (Ac rfl) ?_
  refine wh h9<|wp_ret ?_
  obtain rfl:=sj f1d
  exact fin rfl (Res.tmp rfl Res.nil) (Aj X7e rfl)
end Go.Proofs

