import Derived.Test.YtabiobmfelafoaaDoorGen1
namespace Go.Proofs
set_option linter.unusedVariables false
set_option linter.unusedSimpArgs false
set_option maxHeartbeats 4000000
open Go.RowKit Go.Sb Go.Proofs.Sbn
theorem DP (x0_0:Al) (x0_1:Al) (bp0:Nat) (A1:Option Addr) (c2:Nat) (A4:Option Addr) (c5:Nat) (w:World) (hT:TB w) (n3:RLu w A1 c2 x0_0.Man.Abs) (n6:RLu w A4 c5 x0_1.Man.Abs) (q7:Bx w bp0 27 [.bool x0_0.Man.Neg,.slice A1 x0_0.Man.Abs.length c2,.int .i64 x0_0.Exp,.bool x0_1.Man.Neg,.slice A4 x0_1.Man.Abs.length c5,.int .i64 x0_1.Exp]) (r:Except Int (Unit)) (hr:Dz x0_0 x0_1=some r) :
  Calls Tryd.prog 39 #[.slice (some ⟨bp0,0,none⟩) 2 2] w (RetE 107 IU w r):=by
 unfold Dz at hr
 go_enter Tryd.func39,Tryd.ntmps39
 refine wp_seq_k fun K8 h8=>Ah<|sV (Aa rfl) ?_
 refine sV (AO EW rfl) ?_
 refine sV (Aa rfl) ?_
 refine Ad<|h8 _ _ ?_
 apply wp_block
 refine Gj<|BV<|wp_seq_k fun K9 h9=>Ah<|sV (GU (v:=.bool true) (CR rfl rfl) (by rfl)) ?_
 refine Ad<|h9 _ _<|wp_seq_k fun K2b h2b=>wp_cond_true (Ao (evb rfl rfl))<|wp_skip<|h2b _ _<|wp_seq_k fun K3b h3b=>?_
 apply wp_block
 refine wp_seq_k fun K4b h4b=>Ah<|sV (EL (o':=0) EW AL rfl rfl (by decide) (by decide) (by decide)) ?_
 refine sV (AE As rfl q7 (by simp only [List.drop_zero,List.take_succ_cons,List.take_zero];rfl) rfl) ?_
 refine Ax Bn fun b4e w1 E3c g4c q5c=>?_
 refine nrm ?_
 refine AA AL rfl rfl q5c rfl rfl rfl rfl (by simp only [SP0,SP1,S0,S1,Nat.reduceAdd];rfl) fun w2 U6c q7c=>?_
 have F0a:=belU E3c U6c g4c
 refine Ad<|h4b _ _<|Ah<|sV (Ak As rfl q7c rfl) ?_
 obtain ⟨r4a,h8c,f9c⟩:=Ab hr
 refine sc (Ae Im (by rfl)) (DV x0_0 A1 c2 w2 (tbx F0a hT) (n3.ext F0a) r4a h8c) ?_
 rintro _ w3 E5b rfl
 refine nrm ?_
 have X1a:=xtr F0a E5b
 rcases Bb f9c with ⟨r5a,h6a,f0d⟩ | ⟨r5a,h6a,rfl⟩
 ·refine scO (Ae DO (by rfl)) (AN r4a 1 w3 (tbx X1a hT)  (.ok r5a) h6a) ?_
  rintro _ w4 E2a rfl
  refine nrm ?_
  have X6b:=xtr X1a E2a
  refine Ad<|h3b _ _<|Ah<|sV (BH (c:=1) rfl rfl (by decide)) ?_
  refine sV (Aa rfl) ?_
  refine Ad<|BV<|wp_seq_k fun K7b h7b=>Ah<|sV (GU (v:=.bool true) (CR rfl rfl) (by rfl)) ?_
  refine Ad<|h7b _ _<|wp_seq_k fun K8b h8b=>wp_cond_true (Ao (evb rfl rfl))<|wp_skip<|h8b _ _<|wp_seq_k fun K9b h9b=>?_
  apply wp_block
  refine wp_seq_k fun K0c h0c=>Ah<|sV (EL (o':=3) EW AL rfl rfl (by decide) (by decide) (by decide)) ?_
  refine sV (AE As rfl (((q7.ext F0a).ext E5b).ext E2a) (by simp only [List.drop_succ_cons,List.drop_zero,List.take_succ_cons,List.take_zero];rfl) rfl) ?_
  refine Ax Bn fun b5e w5 E1d g1c q2d=>?_
  refine nrm ?_
  have g6e:=nlt X6b.size g1c
  refine AA AL rfl rfl q2d rfl rfl rfl rfl (by simp only [SP0,SP1,S0,S1,Nat.reduceAdd];rfl) fun w6 U3d q4d=>?_
  have F5d:=belU E1d U3d g1c
  have X7a:=xtr X6b F5d
  refine Ad<|h0c _ _<|Ah<|sV (Ak As rfl q4d rfl) ?_
  obtain ⟨r8a,h6d,f7d⟩:=Ab f0d
  refine sc (Ae Im (by rfl)) (DV x0_1 A4 c5 w6 (tbx X7a hT) (n6.ext X7a) r8a h6d) ?_
  rintro _ w7 E8d rfl
  refine nrm ?_
  have X3a:=xtr X7a E8d
  rcases Bb f7d with ⟨r9a,h0b,f9d⟩ | ⟨r9a,h0b,rfl⟩
  ·refine scO (Ae DO (by rfl)) (AN r8a 1 w7 (tbx X3a hT)  (.ok r9a) h0b) ?_
   rintro _ w8 E1b rfl
   refine nrm ?_
   have X0e:=xtr X3a E1b
   refine Ad<|h9b _ _<|Ah<|sV (BH (c:=2) rfl rfl (by decide)) ?_
   refine sV (Aa rfl) ?_
   refine Ad<|BV<|wp_seq_k fun K2c h2c=>Ah<|sV (GU (v:=.bool false) (CR rfl rfl) (by rfl)) ?_
   refine Ad<|h2c _ _<|wp_seq_k fun K1e h1e=>wp_cond_false (Ao (evb rfl rfl))<|wp_exit ?_
   simp only [Exit.then,Exit.inBlock,↓reduceIte,Nat.reduceEqDiff]
   obtain rfl:=sj f9d
   exact Kj rfl Res.nil (Fw X0e rfl)
  ·refine scP (Ae DO (by rfl)) (AN r8a 1 w7 (tbx X3a hT)  (.error r9a) h0b) fun w8 E1b=>?_
   have X2e:=xtr X3a E1b
   exact ⟨rfl,DC X2e⟩
 ·refine scP (Ae DO (by rfl)) (AN r4a 1 w3 (tbx X1a hT)  (.error r5a) h6a) fun w4 E2a=>?_
  have X3e:=xtr X1a E2a
  exact ⟨rfl,DC X3e⟩
theorem c_dyad_exact__dyad_num_plus__dyad_near (x0:Al) (x1:Al) (A1:Option Addr) (c2:Nat) (A4:Option Addr) (c5:Nat) (w:World) (hT:TB w) (n3:RLu w A1 c2 x0.Man.Abs) (n6:RLu w A4 c5 x1.Man.Abs) (r:Af × Int) (hr:Bg x0 x1=some r) :
  Calls Tryd.prog 32 #[.agg #[.bool x0.Man.Neg,.slice A1 x0.Man.Abs.length c2,.int .i64 x0.Exp],.agg #[.bool x1.Man.Neg,.slice A4 x1.Man.Abs.length c5,.int .i64 x1.Exp],.agg #[.func (.func 33) #[] #[],.func (.func 34) #[] #[]]] w (Ret Ey w r):=by
 unfold Bg at hr
 obtain ⟨q0,hq0,hr0⟩:=Ab hr
 unfold BE at hq0
 go_enter_defers Tryd.func32,Tryd.ntmps32
 refine wp_seq_k fun K7 h7=>Ah<|Br rfl rfl fun b8 w1 E9 g5q q8i=>?_
 refine nrm ?_
 refine Br rfl rfl fun b3g w2 E6e g4g q9i=>?_
 refine nrm ?_
 have g6q:=nlt E9.size g4g
 have X0j:=xtr E9 E6e
 refine Br rfl rfl fun b7q w3 E1j g8q q2j=>?_
 refine nrm ?_
 have g1a2:=nlt X0j.size g8q
 have X8k:=xtr X0j E1j
 refine Ax Bn fun b7e w4 E5d g9q q3c=>?_
 refine nrm ?_
 have g5g:=nlt X8k.size g9q
 have X9k:=xtr X8k E5d
 refine Ax Hz fun b8e w5 E9a g0r q0c=>?_
 refine nrm ?_
 have g6g:=nlt X9k.size g0r
 have X0l:=xtr X9k E9a
 refine Ad<|h7 _ _<|wp_seq_k fun K1l h1l=>Ah<|Gz (vs:=[.pointer (some ⟨b7e,0,none⟩),.pointer (some ⟨b8e,0,none⟩)]) (by rfl) (by rfl)<|Ad<|h1l _ _<|wp_seq_k fun K2l h2l=>Ah<|have q3l:=(((q8i.ext E6e).ext E1j).ext E5d).ext E9a;sV (Ak As rfl q3l rfl) ?_
 have q4l:=((q9i.ext E1j).ext E5d).ext E9a
 refine sV (Ak As rfl q4l rfl) ?_
 refine Dw (vals:=[(0,.agg #[.bool x0.Man.Neg,.slice A1 x0.Man.Abs.length c2,.int .i64 x0.Exp]),(1,.agg #[.bool x1.Man.Neg,.slice A4 x1.Man.Abs.length c5,.int .i64 x1.Exp])]) (cs:=[.bool x0.Man.Neg,.slice A1 x0.Man.Abs.length c2,.int .i64 x0.Exp,.bool x1.Man.Neg,.slice A4 x1.Man.Abs.length c5,.int .i64 x1.Exp]) EW AL Bn (by rfl) (by decide) (by kernel_rfl) fun b3j w6 E3a g1r q5l=>?_
 refine nrm ?_
 have g2a2:=nlt X0l.size g1r
 have X8c:=xtr X0l E3a
 rcases Bb hq0 with ⟨r7g,h4j,f2r⟩ | ⟨r7g,h4j,rfl⟩
 ·refine scO (Ae GS (by rfl)) (DP x0 x1 b3j A1 c2 A4 c5 w6 (tbx X8c hT) (n3.ext X8c) (n6.ext X8c) q5l (.ok r7g) h4j) ?_
  rintro _ w7 E0a rfl
  refine nrm ?_
  have X3r:=xtr X8c E0a
  refine Ad<|h2l _ _<|wp_seq_k fun K6l h6l=>DD [6,7] 8 mo rfl fun w8 E4a S5j=>?_
  have X7a:=xtr X3r E4a
  refine dV 0 rfl (fun _ hw=>Ak As rfl ((((q3l.ext E3a).ext E0a).ext E4a).ext hw) rfl) S5j ?_ (hQ:=fun _ _ _ h=>dq (rs:=[.cell 6 27,.cell 7 31]) rfl (by decide) h)
  refine dV 2 rfl (fun _ hw=>Ak As rfl ((((q4l.ext E3a).ext E0a).ext E4a).ext hw) rfl) S5j ?_ (hQ:=fun _ _ _ h=>dq (rs:=[.cell 6 27,.cell 7 31]) rfl (by decide) h)
  obtain ⟨m6d,h4r,f5r⟩:=Ab f2r
  have hx7d:=BO h4r
  have n9e:RU w8 A1 c2 m6d:=by unfold RU;rw [hx7d];exact (n3.ext X7a)
  obtain ⟨r8a,h0f,f64⟩:=Ab f5r
  obtain ⟨m5b,h6r,f7r⟩:=Ab f64
  have hx6b:=BO h6r
  have n1c:RU w8 A4 c5 m5b:=by unfold RU;rw [hx6b];exact (n6.ext X7a)
  obtain ⟨r6a,h2c,f8r⟩:=Ab f7r
  refine IF #[true,true,true,true,true,true,false,false] 2 (fun l' w'=>∃(A1d:Option Addr) (c2d:Nat) (A3d:Option Addr) (c4d:Nat) (b1f:Nat) (b2f:Nat),Ext w8 w'∧RU w' A1d c2d r8a.m.Abs∧RU w' A3d c4d r6a.m.Abs∧w8.heap.size≤b1f∧Bx w' b1f 63 [.bool false,.slice none 0 0,.int .i64 0]∧w8.heap.size≤b2f∧Bx w' b2f 63 [.bool false,.slice none 0 0,.int .i64 0]∧b1f≠b2f∧l'=[.agg #[.bool x0.Man.Neg,.slice A1 x0.Man.Abs.length c2,.int .i64 x0.Exp],.agg #[.bool x1.Man.Neg,.slice A4 x1.Man.Abs.length c5,.int .i64 x1.Exp],.agg #[.func (.func 33) #[] #[],.func (.func 34) #[] #[]],.pointer (some ⟨b8,0,none⟩),.pointer (some ⟨b3g,0,none⟩),.pointer (some ⟨b7q,0,none⟩),.pointer (some ⟨b7e,0,none⟩),.pointer (some ⟨b8e,0,none⟩),.pointer (some ⟨b1f,0,none⟩),.pointer (some ⟨b2f,0,none⟩),.agg #[.bool x0.Man.Neg,.slice A1 x0.Man.Abs.length c2,.int .i64 x0.Exp],.agg #[.bool x1.Man.Neg,.slice A4 x1.Man.Abs.length c5,.int .i64 x1.Exp],.slice (some ⟨b3j,0,none⟩) 2 2,.tuple #[],.agg #[.bool x0.Man.Neg,.slice A1 x0.Man.Abs.length c2,.int .i64 x0.Exp],.agg #[.bool r8a.m.Neg,.slice A1d (sz r8a.m.Abs) c2d,.int .i64 r8a.e],.agg #[.bool x1.Man.Neg,.slice A4 x1.Man.Abs.length c5,.int .i64 x1.Exp],.agg #[.bool r6a.m.Neg,.slice A3d (sz r6a.m.Abs) c4d,.int .i64 r6a.e],uu,uu,uu,uu,uu,uu,uu,uu,uu,uu,uu,uu]) ?_ ?_
  ·rintro _ w9 ⟨A1d,c2d,A3d,c4d,b1f,b2f,E5a,n9r,n0s,g1s,q4c,g2s,q5c,ne7b,rfl⟩
   have g3s:=nlt X7a.size g1s
   have g4s:=nlt X7a.size g2s
   have X5s:=xtr X7a E5a
   have S3a2:=S5j.trans E5a
   refine dk 6 rfl (by kernel_rfl) (by decide) (by rfl) CA rfl rfl q4c rfl rfl rfl rfl (by simp only [SP0,SP1,S0,S1,Nat.reduceAdd];rfl) fun w5q U1a q7l=>?_
   have X6s:=belU X5s U1a g3s
   refine dk 7 rfl (by kernel_rfl) (by decide) (by rfl) CA rfl rfl (q5c.upd U1a (Ne.symm ne7b)) rfl rfl rfl rfl (by simp only [SP0,SP1,S0,S1,Nat.reduceAdd];rfl) fun w8i U3b q8l=>?_
   have X9l:=belU X6s U3b g4s
   refine CC (by kernel_rfl) ?_
   refine h6l _ _<|wp_seq_k fun K0m h0m=>Ah<|sV (Ai (o':=1) Jt rfl rfl) ?_
   have ne1m:=(Bx.neT ((((((q2j.ext E5d).ext E9a).ext E3a).ext E0a).ext E4a).ext E5a) q4c (by decide))
   have ne7s:=(Bx.neT (((((((q2j.ext E5d).ext E9a).ext E3a).ext E0a).ext E4a).ext E5a).upd U1a ne1m) (q5c.upd U1a (Ne.symm ne7b)) (by decide))
   have q2m:=(((((((q2j.ext E5d).ext E9a).ext E3a).ext E0a).ext E4a).ext E5a).upd U1a ne1m).upd U3b ne7s
   refine sV (Aj Kt rfl (Bx.cell q2m rfl)) ?_
   refine sV (Ak AJ rfl (q7l.upd U3b ne7b) rfl) ?_
   refine sV (Ak AJ rfl q8l rfl) ?_
   have n3m:=(n9r.upd U1a q4c (by decide)).upd U3b (q5c.upd U1a (Ne.symm ne7b)) (by decide)
   have n4m:=(n0s.upd U1a q4c (by decide)).upd U3b (q5c.upd U1a (Ne.symm ne7b)) (by decide)
   obtain ⟨r6j,h8s,f9s⟩:=Ab f8r
   refine sc (ET (first:=[]) (cap:=[]) (args:=[.agg #[.bool r8a.m.Neg,.slice A1d (sz r8a.m.Abs) c2d,.int .i64 r8a.e],.agg #[.bool r6a.m.Neg,.slice A3d (sz r6a.m.Abs) c4d,.int .i64 r6a.e]]) Lg (by rfl) (by rfl)) (Iq r8a r6a A1d c2d A3d c4d w8i (tbx X9l hT) n3m n4m r6j h8s) ?_
   rintro _ w3g E4b rfl
   refine nrm ?_
   have X8g:=xtr X9l E4b
   rcases Bb f9s with ⟨r9g,h7j,f0t⟩ | ⟨r9g,h7j,rfl⟩
   ·refine scO (Ae DO (by rfl)) (AN r6j 2 w3g (tbx X8g hT)  (.ok r9g) h7j) ?_
    rintro _ w6e E2b rfl
    refine nrm ?_
    have X5m:=xtr X8g E2b
    refine Ad<|h0m _ _<|wp_seq_k fun K6m h6m=>Ah<|sV (Ai (o':=0) Jl rfl rfl) ?_
    refine sV (Aj KI rfl (Bx.cell ((q2m.ext E4b).ext E2b) rfl)) ?_
    have q1t:=((q7l.upd U3b ne7b).ext E4b).ext E2b
    refine sV (Ak AJ rfl q1t rfl) ?_
    refine sV (Ak AJ rfl ((q8l.ext E4b).ext E2b) rfl) ?_
    obtain ⟨r8j,h2t,f3t⟩:=Ab f0t
    refine sc (ET (first:=[]) (cap:=[]) (args:=[.agg #[.bool r8a.m.Neg,.slice A1d (sz r8a.m.Abs) c2d,.int .i64 r8a.e],.agg #[.bool r6a.m.Neg,.slice A3d (sz r6a.m.Abs) c4d,.int .i64 r6a.e]]) KT (by rfl) (by rfl)) (FT r8a r6a A1d c2d A3d c4d w6e (tbx X5m hT) ((n3m.ext E4b).ext E2b) ((n4m.ext E4b).ext E2b) r8j h2t) ?_
    rintro _ w4g E8d ⟨A7m,c8m,rfl,n9m⟩
    refine nrm ?_
    have X0h:=xtr X5m E8d
    rcases Bb f3t with ⟨r1h,h9j,f4t⟩ | ⟨r1h,h9j,rfl⟩
    ·refine scO (Ae FD (by rfl)) (Ba r8j A7m c8m w4g (tbx X0h hT) n9m (.ok r1h) h9j) ?_
     rintro _ w9i E9c ⟨A5t,c6t,rfl,n7t⟩
     refine nrm ?_
     have X8t:=xtr X0h E9c
     have ne0n:=(Bx.neT (((((q3c.ext E9a).ext E3a).ext E0a).ext E4a).ext E5a) q4c (by decide))
     have ne9t:=(Bx.neT ((((((q3c.ext E9a).ext E3a).ext E0a).ext E4a).ext E5a).upd U1a ne0n) (q5c.upd U1a (Ne.symm ne7b)) (by decide))
     have q0k:=((((((((((q3c.ext E9a).ext E3a).ext E0a).ext E4a).ext E5a).upd U1a ne0n).upd U3b ne9t).ext E4b).ext E2b).ext E8d).ext E9c
     refine AA AL rfl rfl q0k rfl rfl rfl rfl (by simp only [SP0,SP1,S0,S1,Nat.reduceAdd];rfl) fun w6q U1k q0u=>?_
     have X1u:=belU X8t U1k g5g
     have ne2k:=(Bx.neT ((((q0c.ext E3a).ext E0a).ext E4a).ext E5a) q4c (by decide))
     have ne1n:=(Bx.neT (((((q0c.ext E3a).ext E0a).ext E4a).ext E5a).upd U1a ne2k) (q5c.upd U1a (Ne.symm ne7b)) (by decide))
     have ne2n:=(Bx.neT ((((((((((q0c.ext E3a).ext E0a).ext E4a).ext E5a).upd U1a ne2k).upd U3b ne1n).ext E4b).ext E2b).ext E8d).ext E9c) q0k (by decide))
     have q3n:=((((((((((q0c.ext E3a).ext E0a).ext E4a).ext E5a).upd U1a ne2k).upd U3b ne1n).ext E4b).ext E2b).ext E8d).ext E9c).upd U1k ne2n
     refine AA Gt rfl rfl q3n rfl rfl rfl rfl (by simp only [SP0,SP1,S0,S1,Nat.reduceAdd];rfl) fun w0j U3k q2u=>?_
     have X3u:=belU X1u U3k g6g
     refine Ad<|h6m _ _<|wp_ret ?_
     have n4u:=(n7t.upd U1k q0k (by decide)).upd U3k q3n (by decide)
     obtain rfl:=sj f4t
     obtain rfl:=sj hr0
     exact Ir Bz DU rfl (Res.cellN rfl As (q0u.upd U3k (Ne.symm ne2n)) rfl rfl (Res.cell1 rfl Cx (Bx.cell q2u rfl) Res.nil)) (Ap X3u ⟨A5t,c6t,rfl,n4u⟩)
    ·refine scP (Ae FD (by rfl)) (Ba r8j A7m c8m w4g (tbx X0h hT) n9m (.error r1h) h9j) fun w9i E9c=>?_
     have X5u:=xtr X0h E9c
     have ne4n:=(Bx.neT (((((q3c.ext E9a).ext E3a).ext E0a).ext E4a).ext E5a) q4c (by decide))
     have ne6u:=(Bx.neT ((((((q3c.ext E9a).ext E3a).ext E0a).ext E4a).ext E5a).upd U1a ne4n) (q5c.upd U1a (Ne.symm ne7b)) (by decide))
     have q7u:=((((((((((q3c.ext E9a).ext E3a).ext E0a).ext E4a).ext E5a).upd U1a ne4n).upd U3b ne6u).ext E4b).ext E2b).ext E8d).ext E9c
     have ne5n:=(Bx.neT ((((q0c.ext E3a).ext E0a).ext E4a).ext E5a) q4c (by decide))
     have ne8u:=(Bx.neT (((((q0c.ext E3a).ext E0a).ext E4a).ext E5a).upd U1a ne5n) (q5c.upd U1a (Ne.symm ne7b)) (by decide))
     have q9u:=(((((((((q0c.ext E3a).ext E0a).ext E4a).ext E5a).upd U1a ne5n).upd U3b ne8u).ext E4b).ext E2b).ext E8d).ext E9c
     refine Fs DU (AH b7e b8e (.bool false:Value) (.slice none 0 0:Value) (.int .i64 0:Value) (.int .i64 0:Value) r1h q7u q9u) rfl ?_
     rintro w9 ⟨u9,q9,q9'⟩
     obtain rfl:=sj hr0
     exact ⟨_,(Res.cellN rfl As q9 rfl rfl (Res.cell1 rfl Cx (Bx.cell q9' rfl) Res.nil)),Ap (u9.toExt X5u g5g g6g) ⟨none,0,rfl,RU.nil _⟩⟩
   ·refine scP (Ae DO (by rfl)) (AN r6j 2 w3g (tbx X8g hT)  (.error r9g) h7j) fun w6e E2b=>?_
    have X0v:=xtr X8g E2b
    have ne6n:=(Bx.neT (((((q3c.ext E9a).ext E3a).ext E0a).ext E4a).ext E5a) q4c (by decide))
    have ne1v:=(Bx.neT ((((((q3c.ext E9a).ext E3a).ext E0a).ext E4a).ext E5a).upd U1a ne6n) (q5c.upd U1a (Ne.symm ne7b)) (by decide))
    have q2v:=((((((((q3c.ext E9a).ext E3a).ext E0a).ext E4a).ext E5a).upd U1a ne6n).upd U3b ne1v).ext E4b).ext E2b
    have ne7n:=(Bx.neT ((((q0c.ext E3a).ext E0a).ext E4a).ext E5a) q4c (by decide))
    have ne3v:=(Bx.neT (((((q0c.ext E3a).ext E0a).ext E4a).ext E5a).upd U1a ne7n) (q5c.upd U1a (Ne.symm ne7b)) (by decide))
    have q4v:=(((((((q0c.ext E3a).ext E0a).ext E4a).ext E5a).upd U1a ne7n).upd U3b ne3v).ext E4b).ext E2b
    refine Fs DU (AH b7e b8e (.bool false:Value) (.slice none 0 0:Value) (.int .i64 0:Value) (.int .i64 0:Value) r9g q2v q4v) rfl ?_
    rintro w9 ⟨u9,q9,q9'⟩
    obtain rfl:=sj hr0
    exact ⟨_,(Res.cellN rfl As q9 rfl rfl (Res.cell1 rfl Cx (Bx.cell q9' rfl) Res.nil)),Ap (u9.toExt X0v g5g g6g) ⟨none,0,rfl,RU.nil _⟩⟩
  ·intro HJ87
   refine GE 1 4 5 (by kernel_rfl) ?_ ?_ ?_
   ·refine opC 1 rfl (by rfl) (Ae BT (by simp only [sz,hx7d];rfl)) (AC (⟨(⟨x0.Man.Neg,m6d⟩:Ag),x0.Exp⟩:Af) A1 c2 _ (tbx (Ext.refl _) (tbx X7a hT)) (n9e.ext (Ext.refl _)) r8a h0f) ?_
    rintro _ _ E2a ⟨A9d,c0e,rfl,n1e⟩
    refine dnrm ?_
    refine GE 3 4 5 (by kernel_rfl) ?_ ?_ ?_
    ·refine opC 3 rfl (by rfl) (Ae BT (by simp only [sz,hx6b];rfl)) (AC (⟨(⟨x1.Man.Neg,m5b⟩:Ag),x1.Exp⟩:Af) A4 c5 _ (tbx E2a (tbx X7a hT)) (n1c.ext E2a) r6a h2c) ?_
     rintro _ _ E0d ⟨A8n,c9n,rfl,n0o⟩
     refine dnrm ?_
     refine Bi 4 5 (by kernel_rfl) ?_ ?_
     ·refine opA 4 rfl (by rfl) (Aq AG) fun b5v _ E2h g6v q1o=>dnrm ?_
      refine Au 5 (by kernel_rfl) ?_
      ·refine opA 5 rfl (by rfl) (Aq AG) fun b7v _ E3h g2o q8v=>dnrm ?_
       exact AW (by kernel_rfl) (HJ87 _ _ ⟨A9d,c0e,A8n,c9n,b5v,b7v,(((E2a.trans E0d).trans E2h).trans E3h),(((n1e.ext E0d).ext E2h).ext E3h),((n0o.ext E2h).ext E3h),(nlt (E2a.trans E0d).size g6v),(q1o.ext E3h),(nlt ((E2a.trans E0d).trans E2h).size g2o),q8v,(Bx.ne q1o g2o),rfl⟩)
     ·refine opA 5 rfl (by rfl) (Aq AG) fun b9v _ E4h g0w q3o=>dnrm ?_
      refine Au 4 (by kernel_rfl) ?_
      ·refine opA 4 rfl (by rfl) (Aq AG) fun b1w _ E5h g4o q2w=>dnrm ?_
       exact AW (by kernel_rfl) (HJ87 _ _ ⟨A9d,c0e,A8n,c9n,b1w,b9v,(((E2a.trans E0d).trans E4h).trans E5h),(((n1e.ext E0d).ext E4h).ext E5h),((n0o.ext E4h).ext E5h),(nlt ((E2a.trans E0d).trans E4h).size g4o),q2w,(nlt (E2a.trans E0d).size g0w),(q3o.ext E5h),(Ne.symm (Bx.ne q3o g4o)),rfl⟩)
    ·refine opA 4 rfl (by rfl) (Aq AG) fun b5o _ E6c g6o q6h=>dnrm ?_
     refine Bi 3 5 (by kernel_rfl) ?_ ?_
     ·refine opC 3 rfl (by rfl) (Ae BT (by simp only [sz,hx6b];rfl)) (AC (⟨(⟨x1.Man.Neg,m5b⟩:Ag),x1.Exp⟩:Af) A4 c5 _ (tbx (E2a.trans E6c) (tbx X7a hT)) (n1c.ext (E2a.trans E6c)) r6a h2c) ?_
      rintro _ _ E3f ⟨A3w,c4w,rfl,n5w⟩
      refine dnrm ?_
      refine Au 5 (by kernel_rfl) ?_
      ·refine opA 5 rfl (by rfl) (Aq AG) fun b6w _ E7h g7o q7w=>dnrm ?_
       exact AW (by kernel_rfl) (HJ87 _ _ ⟨A9d,c0e,A3w,c4w,b5o,b6w,(((E2a.trans E6c).trans E3f).trans E7h),(((n1e.ext E6c).ext E3f).ext E7h),(n5w.ext E7h),(nlt E2a.size g6o),((q6h.ext E3f).ext E7h),(nlt ((E2a.trans E6c).trans E3f).size g7o),q7w,(Bx.ne (q6h.ext E3f) g7o),rfl⟩)
     ·refine opA 5 rfl (by rfl) (Aq AG) fun b8w _ E4f g8o q9w=>dnrm ?_
      refine Au 3 (by kernel_rfl) ?_
      ·refine opC 3 rfl (by rfl) (Ae BT (by simp only [sz,hx6b];rfl)) (AC (⟨(⟨x1.Man.Neg,m5b⟩:Ag),x1.Exp⟩:Af) A4 c5 _ (tbx ((E2a.trans E6c).trans E4f) (tbx X7a hT)) (n1c.ext ((E2a.trans E6c).trans E4f)) r6a h2c) ?_
       rintro _ _ E8h ⟨A0x,c1x,rfl,n2x⟩
       refine dnrm ?_
       exact AW (by kernel_rfl) (HJ87 _ _ ⟨A9d,c0e,A0x,c1x,b5o,b8w,(((E2a.trans E6c).trans E4f).trans E8h),(((n1e.ext E6c).ext E4f).ext E8h),n2x,(nlt E2a.size g6o),((q6h.ext E4f).ext E8h),(nlt (E2a.trans E6c).size g8o),(q9w.ext E8h),(Bx.ne q6h g8o),rfl⟩)
    ·refine opA 5 rfl (by rfl) (Aq AG) fun b9o _ E7c g0p q9h=>dnrm ?_
     refine Bi 3 4 (by kernel_rfl) ?_ ?_
     ·refine opC 3 rfl (by rfl) (Ae BT (by simp only [sz,hx6b];rfl)) (AC (⟨(⟨x1.Man.Neg,m5b⟩:Ag),x1.Exp⟩:Af) A4 c5 _ (tbx (E2a.trans E7c) (tbx X7a hT)) (n1c.ext (E2a.trans E7c)) r6a h2c) ?_
      rintro _ _ E5f ⟨A3x,c4x,rfl,n5x⟩
      refine dnrm ?_
      refine Au 4 (by kernel_rfl) ?_
      ·refine opA 4 rfl (by rfl) (Aq AG) fun b6x _ E0i g1p q7x=>dnrm ?_
       exact AW (by kernel_rfl) (HJ87 _ _ ⟨A9d,c0e,A3x,c4x,b6x,b9o,(((E2a.trans E7c).trans E5f).trans E0i),(((n1e.ext E7c).ext E5f).ext E0i),(n5x.ext E0i),(nlt ((E2a.trans E7c).trans E5f).size g1p),q7x,(nlt E2a.size g0p),((q9h.ext E5f).ext E0i),(Ne.symm (Bx.ne (q9h.ext E5f) g1p)),rfl⟩)
     ·refine opA 4 rfl (by rfl) (Aq AG) fun b8x _ E6f g2p q9x=>dnrm ?_
      refine Au 3 (by kernel_rfl) ?_
      ·refine opC 3 rfl (by rfl) (Ae BT (by simp only [sz,hx6b];rfl)) (AC (⟨(⟨x1.Man.Neg,m5b⟩:Ag),x1.Exp⟩:Af) A4 c5 _ (tbx ((E2a.trans E7c).trans E6f) (tbx X7a hT)) (n1c.ext ((E2a.trans E7c).trans E6f)) r6a h2c) ?_
       rintro _ _ E1i ⟨A0y,c1y,rfl,n2y⟩
       refine dnrm ?_
       exact AW (by kernel_rfl) (HJ87 _ _ ⟨A9d,c0e,A0y,c1y,b8x,b9o,(((E2a.trans E7c).trans E6f).trans E1i),(((n1e.ext E7c).ext E6f).ext E1i),n2y,(nlt (E2a.trans E7c).size g2p),(q9x.ext E1i),(nlt E2a.size g0p),((q9h.ext E6f).ext E1i),(Ne.symm (Bx.ne q9h g2p)),rfl⟩)
   ·refine opA 4 rfl (by rfl) (Aq AG) fun b4k _ E0b g5k q2e=>dnrm ?_
    refine Bi 1 5 (by kernel_rfl) ?_ ?_
    ·refine opC 1 rfl (by rfl) (Ae BT (by simp only [sz,hx7d];rfl)) (AC (⟨(⟨x0.Man.Neg,m6d⟩:Ag),x0.Exp⟩:Af) A1 c2 _ (tbx E0b (tbx X7a hT)) (n9e.ext E0b) r8a h0f) ?_
     rintro _ _ E8b ⟨A3p,c4p,rfl,n5p⟩
     refine dnrm ?_
     refine Bi 3 5 (by kernel_rfl) ?_ ?_
     ·refine opC 3 rfl (by rfl) (Ae BT (by simp only [sz,hx6b];rfl)) (AC (⟨(⟨x1.Man.Neg,m5b⟩:Ag),x1.Exp⟩:Af) A4 c5 _ (tbx (E0b.trans E8b) (tbx X7a hT)) (n1c.ext (E0b.trans E8b)) r6a h2c) ?_
      rintro _ _ E7f ⟨A3y,c4y,rfl,n5y⟩
      refine dnrm ?_
      refine Au 5 (by kernel_rfl) ?_
      ·refine opA 5 rfl (by rfl) (Aq AG) fun b6y _ E2i g6p q7y=>dnrm ?_
       exact AW (by kernel_rfl) (HJ87 _ _ ⟨A3p,c4p,A3y,c4y,b4k,b6y,(((E0b.trans E8b).trans E7f).trans E2i),((n5p.ext E7f).ext E2i),(n5y.ext E2i),g5k,(((q2e.ext E8b).ext E7f).ext E2i),(nlt ((E0b.trans E8b).trans E7f).size g6p),q7y,(Bx.ne ((q2e.ext E8b).ext E7f) g6p),rfl⟩)
     ·refine opA 5 rfl (by rfl) (Aq AG) fun b8y _ E8f g7p q9y=>dnrm ?_
      refine Au 3 (by kernel_rfl) ?_
      ·refine opC 3 rfl (by rfl) (Ae BT (by simp only [sz,hx6b];rfl)) (AC (⟨(⟨x1.Man.Neg,m5b⟩:Ag),x1.Exp⟩:Af) A4 c5 _ (tbx ((E0b.trans E8b).trans E8f) (tbx X7a hT)) (n1c.ext ((E0b.trans E8b).trans E8f)) r6a h2c) ?_
       rintro _ _ E3i ⟨A0z,c1z,rfl,n2z⟩
       refine dnrm ?_
       exact AW (by kernel_rfl) (HJ87 _ _ ⟨A3p,c4p,A0z,c1z,b4k,b8y,(((E0b.trans E8b).trans E8f).trans E3i),((n5p.ext E8f).ext E3i),n2z,g5k,(((q2e.ext E8b).ext E8f).ext E3i),(nlt (E0b.trans E8b).size g7p),(q9y.ext E3i),(Bx.ne (q2e.ext E8b) g7p),rfl⟩)
    ·refine opA 5 rfl (by rfl) (Aq AG) fun b3z _ E3e g8p q4z=>dnrm ?_
     refine Au 1 (by kernel_rfl) ?_
     ·refine opC 1 rfl (by rfl) (Ae BT (by simp only [sz,hx7d];rfl)) (AC (⟨(⟨x0.Man.Neg,m6d⟩:Ag),x0.Exp⟩:Af) A1 c2 _ (tbx (E0b.trans E3e) (tbx X7a hT)) (n9e.ext (E0b.trans E3e)) r8a h0f) ?_
      rintro _ _ E9f ⟨A5z,c6z,rfl,n7z⟩
      refine dnrm ?_
      refine Au 3 (by kernel_rfl) ?_
      ·refine opC 3 rfl (by rfl) (Ae BT (by simp only [sz,hx6b];rfl)) (AC (⟨(⟨x1.Man.Neg,m5b⟩:Ag),x1.Exp⟩:Af) A4 c5 _ (tbx ((E0b.trans E3e).trans E9f) (tbx X7a hT)) (n1c.ext ((E0b.trans E3e).trans E9f)) r6a h2c) ?_
       rintro _ _ E4i ⟨A8z,c9z,rfl,n0a0⟩
       refine dnrm ?_
       exact AW (by kernel_rfl) (HJ87 _ _ ⟨A5z,c6z,A8z,c9z,b4k,b3z,(((E0b.trans E3e).trans E9f).trans E4i),(n7z.ext E4i),n0a0,g5k,(((q2e.ext E3e).ext E9f).ext E4i),(nlt E0b.size g8p),((q4z.ext E9f).ext E4i),(Bx.ne q2e g8p),rfl⟩)
   ·refine opA 5 rfl (by rfl) (Aq AG) fun b6k _ E1b g7k q4e=>dnrm ?_
    refine Bi 1 4 (by kernel_rfl) ?_ ?_
    ·refine opC 1 rfl (by rfl) (Ae BT (by simp only [sz,hx7d];rfl)) (AC (⟨(⟨x0.Man.Neg,m6d⟩:Ag),x0.Exp⟩:Af) A1 c2 _ (tbx E1b (tbx X7a hT)) (n9e.ext E1b) r8a h0f) ?_
     rintro _ _ E9b ⟨A9p,c0q,rfl,n1q⟩
     refine dnrm ?_
     refine Bi 3 4 (by kernel_rfl) ?_ ?_
     ·refine opC 3 rfl (by rfl) (Ae BT (by simp only [sz,hx6b];rfl)) (AC (⟨(⟨x1.Man.Neg,m5b⟩:Ag),x1.Exp⟩:Af) A4 c5 _ (tbx (E1b.trans E9b) (tbx X7a hT)) (n1c.ext (E1b.trans E9b)) r6a h2c) ?_
      rintro _ _ E0g ⟨A1a0,c2a0,rfl,n3a0⟩
      refine dnrm ?_
      refine Au 4 (by kernel_rfl) ?_
      ·refine opA 4 rfl (by rfl) (Aq AG) fun b4a0 _ E5i g2q q5a0=>dnrm ?_
       exact AW (by kernel_rfl) (HJ87 _ _ ⟨A9p,c0q,A1a0,c2a0,b4a0,b6k,(((E1b.trans E9b).trans E0g).trans E5i),((n1q.ext E0g).ext E5i),(n3a0.ext E5i),(nlt ((E1b.trans E9b).trans E0g).size g2q),q5a0,g7k,(((q4e.ext E9b).ext E0g).ext E5i),(Ne.symm (Bx.ne ((q4e.ext E9b).ext E0g) g2q)),rfl⟩)
     ·refine opA 4 rfl (by rfl) (Aq AG) fun b6a0 _ E1g g3q q7a0=>dnrm ?_
      refine Au 3 (by kernel_rfl) ?_
      ·refine opC 3 rfl (by rfl) (Ae BT (by simp only [sz,hx6b];rfl)) (AC (⟨(⟨x1.Man.Neg,m5b⟩:Ag),x1.Exp⟩:Af) A4 c5 _ (tbx ((E1b.trans E9b).trans E1g) (tbx X7a hT)) (n1c.ext ((E1b.trans E9b).trans E1g)) r6a h2c) ?_
       rintro _ _ E6i ⟨A8a0,c9a0,rfl,n0a1⟩
       refine dnrm ?_
       exact AW (by kernel_rfl) (HJ87 _ _ ⟨A9p,c0q,A8a0,c9a0,b6a0,b6k,(((E1b.trans E9b).trans E1g).trans E6i),((n1q.ext E1g).ext E6i),n0a1,(nlt (E1b.trans E9b).size g3q),(q7a0.ext E6i),g7k,(((q4e.ext E9b).ext E1g).ext E6i),(Ne.symm (Bx.ne (q4e.ext E9b) g3q)),rfl⟩)
    ·refine opA 4 rfl (by rfl) (Aq AG) fun b1a1 _ E5e g4q q2a1=>dnrm ?_
     refine Au 1 (by kernel_rfl) ?_
     ·refine opC 1 rfl (by rfl) (Ae BT (by simp only [sz,hx7d];rfl)) (AC (⟨(⟨x0.Man.Neg,m6d⟩:Ag),x0.Exp⟩:Af) A1 c2 _ (tbx (E1b.trans E5e) (tbx X7a hT)) (n9e.ext (E1b.trans E5e)) r8a h0f) ?_
      rintro _ _ E2g ⟨A3a1,c4a1,rfl,n5a1⟩
      refine dnrm ?_
      refine Au 3 (by kernel_rfl) ?_
      ·refine opC 3 rfl (by rfl) (Ae BT (by simp only [sz,hx6b];rfl)) (AC (⟨(⟨x1.Man.Neg,m5b⟩:Ag),x1.Exp⟩:Af) A4 c5 _ (tbx ((E1b.trans E5e).trans E2g) (tbx X7a hT)) (n1c.ext ((E1b.trans E5e).trans E2g)) r6a h2c) ?_
       rintro _ _ E7i ⟨A6a1,c7a1,rfl,n8a1⟩
       refine dnrm ?_
       exact AW (by kernel_rfl) (HJ87 _ _ ⟨A3a1,c4a1,A6a1,c7a1,b1a1,b6k,(((E1b.trans E5e).trans E2g).trans E7i),(n5a1.ext E7i),n8a1,(nlt E1b.size g4q),((q2a1.ext E2g).ext E7i),g7k,(((q4e.ext E5e).ext E2g).ext E7i),(Ne.symm (Bx.ne q4e g4q)),rfl⟩)
 ·refine scP (Ae GS (by rfl)) (DP x0 x1 b3j A1 c2 A4 c5 w6 (tbx X8c hT) (n3.ext X8c) (n6.ext X8c) q5l (.error r7g) h4j) fun w7 E0a=>?_
  have X9a1:=xtr X8c E0a
  have q0a2:=((q3c.ext E9a).ext E3a).ext E0a
  refine Fs DU (AH b7e b8e (.bool false:Value) (.slice none 0 0:Value) (.int .i64 0:Value) (.int .i64 0:Value) r7g q0a2 ((q0c.ext E3a).ext E0a)) rfl ?_
  rintro w9 ⟨u9,q9,q9'⟩
  obtain rfl:=sj hr0
  exact ⟨_,(Res.cellN rfl As q9 rfl rfl (Res.cell1 rfl Cx (Bx.cell q9' rfl) Res.nil)),Ap (u9.toExt X9a1 g5g g6g) ⟨none,0,rfl,RU.nil _⟩⟩
theorem Fj (x0:Al) (x1:Al) (A1:Option Addr) (c2:Nat) (A4:Option Addr) (c5:Nat) (w:World) (hT:TB w) (n3:RLu w A1 c2 x0.Man.Abs) (n6:RLu w A4 c5 x1.Man.Abs) (r:Af × Int) (hr:BL x0 x1=some r) :
  Calls Tryd.prog 8 #[.agg #[.bool x0.Man.Neg,.slice A1 x0.Man.Abs.length c2,.int .i64 x0.Exp],.agg #[.bool x1.Man.Neg,.slice A4 x1.Man.Abs.length c5,.int .i64 x1.Exp]] w (Ret Ey w r):=by
 unfold BL at hr
 go_enter Tryd.func8,Tryd.ntmps8
 refine wp_seq_k fun K7 h7=>Ah<|Br rfl rfl fun b8 w1 E9 g3c q8a=>?_
 refine nrm ?_
 refine Br rfl rfl fun b4c w2 E3a g9a q0b=>?_
 refine nrm ?_
 have g5c:=nlt E9.size g9a
 have X4a:=xtr E9 E3a
 refine Ax Bn fun b6c w3 E1a g1b q5a=>?_
 refine nrm ?_
 have g2b:=nlt X4a.size g1b
 have X0a:=xtr X4a E1a
 refine sV (Ac rfl) ?_
 refine Ad<|h7 _ _<|wp_seq_k fun K6a h6a=>Ah<|sV (Ak As rfl ((q8a.ext E3a).ext E1a) rfl) ?_
 refine sV (Ak As rfl (q0b.ext E1a) rfl) ?_
 refine sV (Bj (vals:=[(0,.func (.func 33) #[] #[]),(1,.func (.func 34) #[] #[])]) (cells:=[.func (.func 33) #[] #[],.func (.func 34) #[] #[]]) (by rfl) (by kernel_rfl)) ?_
 obtain ⟨r3b,h4b,f5b⟩:=Ab hr
 refine sc (Ae KG (by rfl)) (c_dyad_exact__dyad_num_plus__dyad_near x0 x1 A1 c2 A4 c5 w3 (tbx X0a hT) (n3.ext X0a) (n6.ext X0a) r3b h4b) ?_
 rintro _ w4 E2a ⟨A6b,c7b,rfl,n8b⟩
 refine nrm ?_
 have X9b:=xtr X0a E2a
 refine sV (Am rfl rfl) ?_
 refine sV (Am rfl rfl) ?_
 refine AA AL rfl rfl (q5a.ext E2a) rfl rfl rfl rfl (by simp only [SP0,SP1,S0,S1,Nat.reduceAdd];rfl) fun w5 U7a q0c=>?_
 have X1c:=belU X9b U7a g2b
 refine sV (Ac rfl) ?_
 refine Ad<|h6a _ _<|wp_ret ?_
 have n2c:=n8b.upd U7a (q5a.ext E2a) (by decide)
 obtain rfl:=sj f5b
 exact fin rfl (Res.cellN rfl As q0c rfl rfl (Res.tmp rfl Res.nil)) (Ap X1c ⟨A6b,c7b,rfl,n2c⟩)
theorem c_dyad_Mul_1 (x0:An) (x1:An) (A1:Option Addr) (c2:Nat) (A4:Option Addr) (c5:Nat) (w:World) (hT:TB w) (n3:RU w A1 c2 x0.m.Abs) (n6:RU w A4 c5 x1.m.Abs) (r:Bool) (hr:Gc x0 x1=some r) :
  Calls Tryd.prog 37 #[.agg #[.bool x0.m.Neg,.slice A1 (sz x0.m.Abs) c2,.int .i64 x0.e],.agg #[.bool x1.m.Neg,.slice A4 (sz x1.m.Abs) c5,.int .i64 x1.e]] w (Ret EO w r):=by
 unfold Gc at hr
 go_enter Tryd.func37,Tryd.ntmps37
 refine wp_seq_k fun K7 h7=>Ah<|Br rfl rfl fun b8 w1 E9 g4a q5a=>?_
 refine nrm ?_
 refine Br rfl rfl fun b6a w2 E1a g2a q7a=>?_
 refine nrm ?_
 have g8a:=nlt E9.size g2a
 have X3a:=xtr E9 E1a
 refine sV (Ac rfl) ?_
 refine Ad<|h7 _ _<|wp_seq_k fun K0a h0a=>Ah<|sV (Ac rfl) ?_
 refine Ad<|h0a _ _<|wp_ret ?_
 obtain rfl:=sj hr
 exact fin rfl (Res.tmp rfl Res.nil) (Ap X3a rfl)
theorem c_dyad_exact__dyad_num_times__dyad_Mul_1 (x0:Al) (x1:Al) (A1:Option Addr) (c2:Nat) (A4:Option Addr) (c5:Nat) (w:World) (hT:TB w) (n3:RLu w A1 c2 x0.Man.Abs) (n6:RLu w A4 c5 x1.Man.Abs) (r:Af × Int) (hr:BA x0 x1=some r) :
  Calls Tryd.prog 32 #[.agg #[.bool x0.Man.Neg,.slice A1 x0.Man.Abs.length c2,.int .i64 x0.Exp],.agg #[.bool x1.Man.Neg,.slice A4 x1.Man.Abs.length c5,.int .i64 x1.Exp],.agg #[.func (.func 36) #[] #[],.func (.func 37) #[] #[]]] w (Ret Ey w r):=by
 unfold BA at hr
 obtain ⟨q0,hq0,hr0⟩:=Ab hr
 unfold BY at hq0
 go_enter_defers Tryd.func32,Tryd.ntmps32
 refine wp_seq_k fun K7 h7=>Ah<|Br rfl rfl fun b8 w1 E9 g5q q8i=>?_
 refine nrm ?_
 refine Br rfl rfl fun b3g w2 E6e g4g q9i=>?_
 refine nrm ?_
 have g6q:=nlt E9.size g4g
 have X0j:=xtr E9 E6e
 refine Br rfl rfl fun b7q w3 E1j g8q q2j=>?_
 refine nrm ?_
 have g1a2:=nlt X0j.size g8q
 have X8k:=xtr X0j E1j
 refine Ax Bn fun b7e w4 E5d g9q q3c=>?_
 refine nrm ?_
 have g5g:=nlt X8k.size g9q
 have X9k:=xtr X8k E5d
 refine Ax Hz fun b8e w5 E9a g0r q0c=>?_
 refine nrm ?_
 have g6g:=nlt X9k.size g0r
 have X0l:=xtr X9k E9a
 refine Ad<|h7 _ _<|wp_seq_k fun K1l h1l=>Ah<|Gz (vs:=[.pointer (some ⟨b7e,0,none⟩),.pointer (some ⟨b8e,0,none⟩)]) (by rfl) (by rfl)<|Ad<|h1l _ _<|wp_seq_k fun K2l h2l=>Ah<|have q3l:=(((q8i.ext E6e).ext E1j).ext E5d).ext E9a;sV (Ak As rfl q3l rfl) ?_
 have q4l:=((q9i.ext E1j).ext E5d).ext E9a
 refine sV (Ak As rfl q4l rfl) ?_
 refine Dw (vals:=[(0,.agg #[.bool x0.Man.Neg,.slice A1 x0.Man.Abs.length c2,.int .i64 x0.Exp]),(1,.agg #[.bool x1.Man.Neg,.slice A4 x1.Man.Abs.length c5,.int .i64 x1.Exp])]) (cs:=[.bool x0.Man.Neg,.slice A1 x0.Man.Abs.length c2,.int .i64 x0.Exp,.bool x1.Man.Neg,.slice A4 x1.Man.Abs.length c5,.int .i64 x1.Exp]) EW AL Bn (by rfl) (by decide) (by kernel_rfl) fun b3j w6 E3a g1r q5l=>?_
 refine nrm ?_
 have g2a2:=nlt X0l.size g1r
 have X8c:=xtr X0l E3a
 rcases Bb hq0 with ⟨r7g,h4j,f2r⟩ | ⟨r7g,h4j,rfl⟩
 ·refine scO (Ae GS (by rfl)) (DP x0 x1 b3j A1 c2 A4 c5 w6 (tbx X8c hT) (n3.ext X8c) (n6.ext X8c) q5l (.ok r7g) h4j) ?_
  rintro _ w7 E0a rfl
  refine nrm ?_
  have X3r:=xtr X8c E0a
  refine Ad<|h2l _ _<|wp_seq_k fun K6l h6l=>DD [6,7] 8 mo rfl fun w8 E4a S5j=>?_
  have X7a:=xtr X3r E4a
  refine dV 0 rfl (fun _ hw=>Ak As rfl ((((q3l.ext E3a).ext E0a).ext E4a).ext hw) rfl) S5j ?_ (hQ:=fun _ _ _ h=>dq (rs:=[.cell 6 27,.cell 7 31]) rfl (by decide) h)
  refine dV 2 rfl (fun _ hw=>Ak As rfl ((((q4l.ext E3a).ext E0a).ext E4a).ext hw) rfl) S5j ?_ (hQ:=fun _ _ _ h=>dq (rs:=[.cell 6 27,.cell 7 31]) rfl (by decide) h)
  obtain ⟨m6d,h4r,f5r⟩:=Ab f2r
  have hx7d:=BO h4r
  have n9e:RU w8 A1 c2 m6d:=by unfold RU;rw [hx7d];exact (n3.ext X7a)
  obtain ⟨r8a,h0f,f64⟩:=Ab f5r
  obtain ⟨m5b,h6r,f7r⟩:=Ab f64
  have hx6b:=BO h6r
  have n1c:RU w8 A4 c5 m5b:=by unfold RU;rw [hx6b];exact (n6.ext X7a)
  obtain ⟨r6a,h2c,f8r⟩:=Ab f7r
  refine IF #[true,true,true,true,true,true,false,false] 2 (fun l' w'=>∃(A1d:Option Addr) (c2d:Nat) (A3d:Option Addr) (c4d:Nat) (b1f:Nat) (b2f:Nat),Ext w8 w'∧RU w' A1d c2d r8a.m.Abs∧RU w' A3d c4d r6a.m.Abs∧w8.heap.size≤b1f∧Bx w' b1f 63 [.bool false,.slice none 0 0,.int .i64 0]∧w8.heap.size≤b2f∧Bx w' b2f 63 [.bool false,.slice none 0 0,.int .i64 0]∧b1f≠b2f∧l'=[.agg #[.bool x0.Man.Neg,.slice A1 x0.Man.Abs.length c2,.int .i64 x0.Exp],.agg #[.bool x1.Man.Neg,.slice A4 x1.Man.Abs.length c5,.int .i64 x1.Exp],.agg #[.func (.func 36) #[] #[],.func (.func 37) #[] #[]],.pointer (some ⟨b8,0,none⟩),.pointer (some ⟨b3g,0,none⟩),.pointer (some ⟨b7q,0,none⟩),.pointer (some ⟨b7e,0,none⟩),.pointer (some ⟨b8e,0,none⟩),.pointer (some ⟨b1f,0,none⟩),.pointer (some ⟨b2f,0,none⟩),.agg #[.bool x0.Man.Neg,.slice A1 x0.Man.Abs.length c2,.int .i64 x0.Exp],.agg #[.bool x1.Man.Neg,.slice A4 x1.Man.Abs.length c5,.int .i64 x1.Exp],.slice (some ⟨b3j,0,none⟩) 2 2,.tuple #[],.agg #[.bool x0.Man.Neg,.slice A1 x0.Man.Abs.length c2,.int .i64 x0.Exp],.agg #[.bool r8a.m.Neg,.slice A1d (sz r8a.m.Abs) c2d,.int .i64 r8a.e],.agg #[.bool x1.Man.Neg,.slice A4 x1.Man.Abs.length c5,.int .i64 x1.Exp],.agg #[.bool r6a.m.Neg,.slice A3d (sz r6a.m.Abs) c4d,.int .i64 r6a.e],uu,uu,uu,uu,uu,uu,uu,uu,uu,uu,uu,uu]) ?_ ?_
  ·rintro _ w9 ⟨A1d,c2d,A3d,c4d,b1f,b2f,E5a,n9r,n0s,g1s,q4c,g2s,q5c,ne7b,rfl⟩
   have g3s:=nlt X7a.size g1s
   have g4s:=nlt X7a.size g2s
   have X5s:=xtr X7a E5a
   have S3a2:=S5j.trans E5a
   refine dk 6 rfl (by kernel_rfl) (by decide) (by rfl) CA rfl rfl q4c rfl rfl rfl rfl (by simp only [SP0,SP1,S0,S1,Nat.reduceAdd];rfl) fun w5q U1a q7l=>?_
   have X6s:=belU X5s U1a g3s
   refine dk 7 rfl (by kernel_rfl) (by decide) (by rfl) CA rfl rfl (q5c.upd U1a (Ne.symm ne7b)) rfl rfl rfl rfl (by simp only [SP0,SP1,S0,S1,Nat.reduceAdd];rfl) fun w8i U3b q8l=>?_
   have X9l:=belU X6s U3b g4s
   refine CC (by kernel_rfl) ?_
   refine h6l _ _<|wp_seq_k fun K0m h0m=>Ah<|sV (Ai (o':=1) Jt rfl rfl) ?_
   have ne1m:=(Bx.neT ((((((q2j.ext E5d).ext E9a).ext E3a).ext E0a).ext E4a).ext E5a) q4c (by decide))
   have ne7s:=(Bx.neT (((((((q2j.ext E5d).ext E9a).ext E3a).ext E0a).ext E4a).ext E5a).upd U1a ne1m) (q5c.upd U1a (Ne.symm ne7b)) (by decide))
   have q2m:=(((((((q2j.ext E5d).ext E9a).ext E3a).ext E0a).ext E4a).ext E5a).upd U1a ne1m).upd U3b ne7s
   refine sV (Aj Kt rfl (Bx.cell q2m rfl)) ?_
   refine sV (Ak AJ rfl (q7l.upd U3b ne7b) rfl) ?_
   refine sV (Ak AJ rfl q8l rfl) ?_
   have n3m:=(n9r.upd U1a q4c (by decide)).upd U3b (q5c.upd U1a (Ne.symm ne7b)) (by decide)
   have n4m:=(n0s.upd U1a q4c (by decide)).upd U3b (q5c.upd U1a (Ne.symm ne7b)) (by decide)
   obtain ⟨r6j,h8s,f9s⟩:=Ab f8r
   refine sc (ET (first:=[]) (cap:=[]) (args:=[.agg #[.bool r8a.m.Neg,.slice A1d (sz r8a.m.Abs) c2d,.int .i64 r8a.e],.agg #[.bool r6a.m.Neg,.slice A3d (sz r6a.m.Abs) c4d,.int .i64 r6a.e]]) en_37 (by rfl) (by rfl)) (c_dyad_Mul_1 r8a r6a A1d c2d A3d c4d w8i (tbx X9l hT) n3m n4m r6j h8s) ?_
   rintro _ w3g E4b rfl
   refine nrm ?_
   have X8g:=xtr X9l E4b
   rcases Bb f9s with ⟨r9g,h7j,f0t⟩ | ⟨r9g,h7j,rfl⟩
   ·refine scO (Ae DO (by rfl)) (AN r6j 2 w3g (tbx X8g hT)  (.ok r9g) h7j) ?_
    rintro _ w6e E2b rfl
    refine nrm ?_
    have X5m:=xtr X8g E2b
    refine Ad<|h0m _ _<|wp_seq_k fun K6m h6m=>Ah<|sV (Ai (o':=0) Jl rfl rfl) ?_
    refine sV (Aj KI rfl (Bx.cell ((q2m.ext E4b).ext E2b) rfl)) ?_
    have q1t:=((q7l.upd U3b ne7b).ext E4b).ext E2b
    refine sV (Ak AJ rfl q1t rfl) ?_
    refine sV (Ak AJ rfl ((q8l.ext E4b).ext E2b) rfl) ?_
    obtain ⟨r8j,h2t,f3t⟩:=Ab f0t
    refine sc (ET (first:=[]) (cap:=[]) (args:=[.agg #[.bool r8a.m.Neg,.slice A1d (sz r8a.m.Abs) c2d,.int .i64 r8a.e],.agg #[.bool r6a.m.Neg,.slice A3d (sz r6a.m.Abs) c4d,.int .i64 r6a.e]]) KK (by rfl) (by rfl)) (FL r8a r6a A1d c2d A3d c4d w6e (tbx X5m hT) ((n3m.ext E4b).ext E2b) ((n4m.ext E4b).ext E2b) r8j h2t) ?_
    rintro _ w4g E8d ⟨A7m,c8m,rfl,n9m⟩
    refine nrm ?_
    have X0h:=xtr X5m E8d
    rcases Bb f3t with ⟨r1h,h9j,f4t⟩ | ⟨r1h,h9j,rfl⟩
    ·refine scO (Ae FD (by rfl)) (Ba r8j A7m c8m w4g (tbx X0h hT) n9m (.ok r1h) h9j) ?_
     rintro _ w9i E9c ⟨A5t,c6t,rfl,n7t⟩
     refine nrm ?_
     have X8t:=xtr X0h E9c
     have ne0n:=(Bx.neT (((((q3c.ext E9a).ext E3a).ext E0a).ext E4a).ext E5a) q4c (by decide))
     have ne9t:=(Bx.neT ((((((q3c.ext E9a).ext E3a).ext E0a).ext E4a).ext E5a).upd U1a ne0n) (q5c.upd U1a (Ne.symm ne7b)) (by decide))
     have q0k:=((((((((((q3c.ext E9a).ext E3a).ext E0a).ext E4a).ext E5a).upd U1a ne0n).upd U3b ne9t).ext E4b).ext E2b).ext E8d).ext E9c
     refine AA AL rfl rfl q0k rfl rfl rfl rfl (by simp only [SP0,SP1,S0,S1,Nat.reduceAdd];rfl) fun w6q U1k q0u=>?_
     have X1u:=belU X8t U1k g5g
     have ne2k:=(Bx.neT ((((q0c.ext E3a).ext E0a).ext E4a).ext E5a) q4c (by decide))
     have ne1n:=(Bx.neT (((((q0c.ext E3a).ext E0a).ext E4a).ext E5a).upd U1a ne2k) (q5c.upd U1a (Ne.symm ne7b)) (by decide))
     have ne2n:=(Bx.neT ((((((((((q0c.ext E3a).ext E0a).ext E4a).ext E5a).upd U1a ne2k).upd U3b ne1n).ext E4b).ext E2b).ext E8d).ext E9c) q0k (by decide))
     have q3n:=((((((((((q0c.ext E3a).ext E0a).ext E4a).ext E5a).upd U1a ne2k).upd U3b ne1n).ext E4b).ext E2b).ext E8d).ext E9c).upd U1k ne2n
     refine AA Gt rfl rfl q3n rfl rfl rfl rfl (by simp only [SP0,SP1,S0,S1,Nat.reduceAdd];rfl) fun w0j U3k q2u=>?_
     have X3u:=belU X1u U3k g6g
     refine Ad<|h6m _ _<|wp_ret ?_
     have n4u:=(n7t.upd U1k q0k (by decide)).upd U3k q3n (by decide)
     obtain rfl:=sj f4t
     obtain rfl:=sj hr0
     exact Ir Bz DU rfl (Res.cellN rfl As (q0u.upd U3k (Ne.symm ne2n)) rfl rfl (Res.cell1 rfl Cx (Bx.cell q2u rfl) Res.nil)) (Ap X3u ⟨A5t,c6t,rfl,n4u⟩)
    ·refine scP (Ae FD (by rfl)) (Ba r8j A7m c8m w4g (tbx X0h hT) n9m (.error r1h) h9j) fun w9i E9c=>?_
     have X5u:=xtr X0h E9c
     have ne4n:=(Bx.neT (((((q3c.ext E9a).ext E3a).ext E0a).ext E4a).ext E5a) q4c (by decide))
     have ne6u:=(Bx.neT ((((((q3c.ext E9a).ext E3a).ext E0a).ext E4a).ext E5a).upd U1a ne4n) (q5c.upd U1a (Ne.symm ne7b)) (by decide))
     have q7u:=((((((((((q3c.ext E9a).ext E3a).ext E0a).ext E4a).ext E5a).upd U1a ne4n).upd U3b ne6u).ext E4b).ext E2b).ext E8d).ext E9c
     have ne5n:=(Bx.neT ((((q0c.ext E3a).ext E0a).ext E4a).ext E5a) q4c (by decide))
     have ne8u:=(Bx.neT (((((q0c.ext E3a).ext E0a).ext E4a).ext E5a).upd U1a ne5n) (q5c.upd U1a (Ne.symm ne7b)) (by decide))
     have q9u:=(((((((((q0c.ext E3a).ext E0a).ext E4a).ext E5a).upd U1a ne5n).upd U3b ne8u).ext E4b).ext E2b).ext E8d).ext E9c
     refine Fs DU (AH b7e b8e (.bool false:Value) (.slice none 0 0:Value) (.int .i64 0:Value) (.int .i64 0:Value) r1h q7u q9u) rfl ?_
     rintro w9 ⟨u9,q9,q9'⟩
     obtain rfl:=sj hr0
     exact ⟨_,(Res.cellN rfl As q9 rfl rfl (Res.cell1 rfl Cx (Bx.cell q9' rfl) Res.nil)),Ap (u9.toExt X5u g5g g6g) ⟨none,0,rfl,RU.nil _⟩⟩
   ·refine scP (Ae DO (by rfl)) (AN r6j 2 w3g (tbx X8g hT)  (.error r9g) h7j) fun w6e E2b=>?_
    have X0v:=xtr X8g E2b
    have ne6n:=(Bx.neT (((((q3c.ext E9a).ext E3a).ext E0a).ext E4a).ext E5a) q4c (by decide))
    have ne1v:=(Bx.neT ((((((q3c.ext E9a).ext E3a).ext E0a).ext E4a).ext E5a).upd U1a ne6n) (q5c.upd U1a (Ne.symm ne7b)) (by decide))
    have q2v:=((((((((q3c.ext E9a).ext E3a).ext E0a).ext E4a).ext E5a).upd U1a ne6n).upd U3b ne1v).ext E4b).ext E2b
    have ne7n:=(Bx.neT ((((q0c.ext E3a).ext E0a).ext E4a).ext E5a) q4c (by decide))
    have ne3v:=(Bx.neT (((((q0c.ext E3a).ext E0a).ext E4a).ext E5a).upd U1a ne7n) (q5c.upd U1a (Ne.symm ne7b)) (by decide))
    have q4v:=(((((((q0c.ext E3a).ext E0a).ext E4a).ext E5a).upd U1a ne7n).upd U3b ne3v).ext E4b).ext E2b
    refine Fs DU (AH b7e b8e (.bool false:Value) (.slice none 0 0:Value) (.int .i64 0:Value) (.int .i64 0:Value) r9g q2v q4v) rfl ?_
    rintro w9 ⟨u9,q9,q9'⟩
    obtain rfl:=sj hr0
    exact ⟨_,(Res.cellN rfl As q9 rfl rfl (Res.cell1 rfl Cx (Bx.cell q9' rfl) Res.nil)),Ap (u9.toExt X0v g5g g6g) ⟨none,0,rfl,RU.nil _⟩⟩
  ·intro HJ87
   refine GE 1 4 5 (by kernel_rfl) ?_ ?_ ?_
   ·refine opC 1 rfl (by rfl) (Ae BT (by simp only [sz,hx7d];rfl)) (AC (⟨(⟨x0.Man.Neg,m6d⟩:Ag),x0.Exp⟩:Af) A1 c2 _ (tbx (Ext.refl _) (tbx X7a hT)) (n9e.ext (Ext.refl _)) r8a h0f) ?_
    rintro _ _ E2a ⟨A9d,c0e,rfl,n1e⟩
    refine dnrm ?_
    refine GE 3 4 5 (by kernel_rfl) ?_ ?_ ?_
    ·refine opC 3 rfl (by rfl) (Ae BT (by simp only [sz,hx6b];rfl)) (AC (⟨(⟨x1.Man.Neg,m5b⟩:Ag),x1.Exp⟩:Af) A4 c5 _ (tbx E2a (tbx X7a hT)) (n1c.ext E2a) r6a h2c) ?_
     rintro _ _ E0d ⟨A8n,c9n,rfl,n0o⟩
     refine dnrm ?_
     refine Bi 4 5 (by kernel_rfl) ?_ ?_
     ·refine opA 4 rfl (by rfl) (Aq AG) fun b5v _ E2h g6v q1o=>dnrm ?_
      refine Au 5 (by kernel_rfl) ?_
      ·refine opA 5 rfl (by rfl) (Aq AG) fun b7v _ E3h g2o q8v=>dnrm ?_
       exact AW (by kernel_rfl) (HJ87 _ _ ⟨A9d,c0e,A8n,c9n,b5v,b7v,(((E2a.trans E0d).trans E2h).trans E3h),(((n1e.ext E0d).ext E2h).ext E3h),((n0o.ext E2h).ext E3h),(nlt (E2a.trans E0d).size g6v),(q1o.ext E3h),(nlt ((E2a.trans E0d).trans E2h).size g2o),q8v,(Bx.ne q1o g2o),rfl⟩)
     ·refine opA 5 rfl (by rfl) (Aq AG) fun b9v _ E4h g0w q3o=>dnrm ?_
      refine Au 4 (by kernel_rfl) ?_
      ·refine opA 4 rfl (by rfl) (Aq AG) fun b1w _ E5h g4o q2w=>dnrm ?_
       exact AW (by kernel_rfl) (HJ87 _ _ ⟨A9d,c0e,A8n,c9n,b1w,b9v,(((E2a.trans E0d).trans E4h).trans E5h),(((n1e.ext E0d).ext E4h).ext E5h),((n0o.ext E4h).ext E5h),(nlt ((E2a.trans E0d).trans E4h).size g4o),q2w,(nlt (E2a.trans E0d).size g0w),(q3o.ext E5h),(Ne.symm (Bx.ne q3o g4o)),rfl⟩)
    ·refine opA 4 rfl (by rfl) (Aq AG) fun b5o _ E6c g6o q6h=>dnrm ?_
     refine Bi 3 5 (by kernel_rfl) ?_ ?_
     ·refine opC 3 rfl (by rfl) (Ae BT (by simp only [sz,hx6b];rfl)) (AC (⟨(⟨x1.Man.Neg,m5b⟩:Ag),x1.Exp⟩:Af) A4 c5 _ (tbx (E2a.trans E6c) (tbx X7a hT)) (n1c.ext (E2a.trans E6c)) r6a h2c) ?_
      rintro _ _ E3f ⟨A3w,c4w,rfl,n5w⟩
      refine dnrm ?_
      refine Au 5 (by kernel_rfl) ?_
      ·refine opA 5 rfl (by rfl) (Aq AG) fun b6w _ E7h g7o q7w=>dnrm ?_
       exact AW (by kernel_rfl) (HJ87 _ _ ⟨A9d,c0e,A3w,c4w,b5o,b6w,(((E2a.trans E6c).trans E3f).trans E7h),(((n1e.ext E6c).ext E3f).ext E7h),(n5w.ext E7h),(nlt E2a.size g6o),((q6h.ext E3f).ext E7h),(nlt ((E2a.trans E6c).trans E3f).size g7o),q7w,(Bx.ne (q6h.ext E3f) g7o),rfl⟩)
     ·refine opA 5 rfl (by rfl) (Aq AG) fun b8w _ E4f g8o q9w=>dnrm ?_
      refine Au 3 (by kernel_rfl) ?_
      ·refine opC 3 rfl (by rfl) (Ae BT (by simp only [sz,hx6b];rfl)) (AC (⟨(⟨x1.Man.Neg,m5b⟩:Ag),x1.Exp⟩:Af) A4 c5 _ (tbx ((E2a.trans E6c).trans E4f) (tbx X7a hT)) (n1c.ext ((E2a.trans E6c).trans E4f)) r6a h2c) ?_
       rintro _ _ E8h ⟨A0x,c1x,rfl,n2x⟩
       refine dnrm ?_
       exact AW (by kernel_rfl) (HJ87 _ _ ⟨A9d,c0e,A0x,c1x,b5o,b8w,(((E2a.trans E6c).trans E4f).trans E8h),(((n1e.ext E6c).ext E4f).ext E8h),n2x,(nlt E2a.size g6o),((q6h.ext E4f).ext E8h),(nlt (E2a.trans E6c).size g8o),(q9w.ext E8h),(Bx.ne q6h g8o),rfl⟩)
    ·refine opA 5 rfl (by rfl) (Aq AG) fun b9o _ E7c g0p q9h=>dnrm ?_
     refine Bi 3 4 (by kernel_rfl) ?_ ?_
     ·refine opC 3 rfl (by rfl) (Ae BT (by simp only [sz,hx6b];rfl)) (AC (⟨(⟨x1.Man.Neg,m5b⟩:Ag),x1.Exp⟩:Af) A4 c5 _ (tbx (E2a.trans E7c) (tbx X7a hT)) (n1c.ext (E2a.trans E7c)) r6a h2c) ?_
      rintro _ _ E5f ⟨A3x,c4x,rfl,n5x⟩
      refine dnrm ?_
      refine Au 4 (by kernel_rfl) ?_
      ·refine opA 4 rfl (by rfl) (Aq AG) fun b6x _ E0i g1p q7x=>dnrm ?_
       exact AW (by kernel_rfl) (HJ87 _ _ ⟨A9d,c0e,A3x,c4x,b6x,b9o,(((E2a.trans E7c).trans E5f).trans E0i),(((n1e.ext E7c).ext E5f).ext E0i),(n5x.ext E0i),(nlt ((E2a.trans E7c).trans E5f).size g1p),q7x,(nlt E2a.size g0p),((q9h.ext E5f).ext E0i),(Ne.symm (Bx.ne (q9h.ext E5f) g1p)),rfl⟩)
     ·refine opA 4 rfl (by rfl) (Aq AG) fun b8x _ E6f g2p q9x=>dnrm ?_
      refine Au 3 (by kernel_rfl) ?_
      ·refine opC 3 rfl (by rfl) (Ae BT (by simp only [sz,hx6b];rfl)) (AC (⟨(⟨x1.Man.Neg,m5b⟩:Ag),x1.Exp⟩:Af) A4 c5 _ (tbx ((E2a.trans E7c).trans E6f) (tbx X7a hT)) (n1c.ext ((E2a.trans E7c).trans E6f)) r6a h2c) ?_
       rintro _ _ E1i ⟨A0y,c1y,rfl,n2y⟩
       refine dnrm ?_
       exact AW (by kernel_rfl) (HJ87 _ _ ⟨A9d,c0e,A0y,c1y,b8x,b9o,(((E2a.trans E7c).trans E6f).trans E1i),(((n1e.ext E7c).ext E6f).ext E1i),n2y,(nlt (E2a.trans E7c).size g2p),(q9x.ext E1i),(nlt E2a.size g0p),((q9h.ext E6f).ext E1i),(Ne.symm (Bx.ne q9h g2p)),rfl⟩)
   ·refine opA 4 rfl (by rfl) (Aq AG) fun b4k _ E0b g5k q2e=>dnrm ?_
    refine Bi 1 5 (by kernel_rfl) ?_ ?_
    ·refine opC 1 rfl (by rfl) (Ae BT (by simp only [sz,hx7d];rfl)) (AC (⟨(⟨x0.Man.Neg,m6d⟩:Ag),x0.Exp⟩:Af) A1 c2 _ (tbx E0b (tbx X7a hT)) (n9e.ext E0b) r8a h0f) ?_
     rintro _ _ E8b ⟨A3p,c4p,rfl,n5p⟩
     refine dnrm ?_
     refine Bi 3 5 (by kernel_rfl) ?_ ?_
     ·refine opC 3 rfl (by rfl) (Ae BT (by simp only [sz,hx6b];rfl)) (AC (⟨(⟨x1.Man.Neg,m5b⟩:Ag),x1.Exp⟩:Af) A4 c5 _ (tbx (E0b.trans E8b) (tbx X7a hT)) (n1c.ext (E0b.trans E8b)) r6a h2c) ?_
      rintro _ _ E7f ⟨A3y,c4y,rfl,n5y⟩
      refine dnrm ?_
      refine Au 5 (by kernel_rfl) ?_
      ·refine opA 5 rfl (by rfl) (Aq AG) fun b6y _ E2i g6p q7y=>dnrm ?_
       exact AW (by kernel_rfl) (HJ87 _ _ ⟨A3p,c4p,A3y,c4y,b4k,b6y,(((E0b.trans E8b).trans E7f).trans E2i),((n5p.ext E7f).ext E2i),(n5y.ext E2i),g5k,(((q2e.ext E8b).ext E7f).ext E2i),(nlt ((E0b.trans E8b).trans E7f).size g6p),q7y,(Bx.ne ((q2e.ext E8b).ext E7f) g6p),rfl⟩)
     ·refine opA 5 rfl (by rfl) (Aq AG) fun b8y _ E8f g7p q9y=>dnrm ?_
      refine Au 3 (by kernel_rfl) ?_
      ·refine opC 3 rfl (by rfl) (Ae BT (by simp only [sz,hx6b];rfl)) (AC (⟨(⟨x1.Man.Neg,m5b⟩:Ag),x1.Exp⟩:Af) A4 c5 _ (tbx ((E0b.trans E8b).trans E8f) (tbx X7a hT)) (n1c.ext ((E0b.trans E8b).trans E8f)) r6a h2c) ?_
       rintro _ _ E3i ⟨A0z,c1z,rfl,n2z⟩
       refine dnrm ?_
       exact AW (by kernel_rfl) (HJ87 _ _ ⟨A3p,c4p,A0z,c1z,b4k,b8y,(((E0b.trans E8b).trans E8f).trans E3i),((n5p.ext E8f).ext E3i),n2z,g5k,(((q2e.ext E8b).ext E8f).ext E3i),(nlt (E0b.trans E8b).size g7p),(q9y.ext E3i),(Bx.ne (q2e.ext E8b) g7p),rfl⟩)
    ·refine opA 5 rfl (by rfl) (Aq AG) fun b3z _ E3e g8p q4z=>dnrm ?_
     refine Au 1 (by kernel_rfl) ?_
     ·refine opC 1 rfl (by rfl) (Ae BT (by simp only [sz,hx7d];rfl)) (AC (⟨(⟨x0.Man.Neg,m6d⟩:Ag),x0.Exp⟩:Af) A1 c2 _ (tbx (E0b.trans E3e) (tbx X7a hT)) (n9e.ext (E0b.trans E3e)) r8a h0f) ?_
      rintro _ _ E9f ⟨A5z,c6z,rfl,n7z⟩
      refine dnrm ?_
      refine Au 3 (by kernel_rfl) ?_
      ·refine opC 3 rfl (by rfl) (Ae BT (by simp only [sz,hx6b];rfl)) (AC (⟨(⟨x1.Man.Neg,m5b⟩:Ag),x1.Exp⟩:Af) A4 c5 _ (tbx ((E0b.trans E3e).trans E9f) (tbx X7a hT)) (n1c.ext ((E0b.trans E3e).trans E9f)) r6a h2c) ?_
       rintro _ _ E4i ⟨A8z,c9z,rfl,n0a0⟩
       refine dnrm ?_
       exact AW (by kernel_rfl) (HJ87 _ _ ⟨A5z,c6z,A8z,c9z,b4k,b3z,(((E0b.trans E3e).trans E9f).trans E4i),(n7z.ext E4i),n0a0,g5k,(((q2e.ext E3e).ext E9f).ext E4i),(nlt E0b.size g8p),((q4z.ext E9f).ext E4i),(Bx.ne q2e g8p),rfl⟩)
   ·refine opA 5 rfl (by rfl) (Aq AG) fun b6k _ E1b g7k q4e=>dnrm ?_
    refine Bi 1 4 (by kernel_rfl) ?_ ?_
    ·refine opC 1 rfl (by rfl) (Ae BT (by simp only [sz,hx7d];rfl)) (AC (⟨(⟨x0.Man.Neg,m6d⟩:Ag),x0.Exp⟩:Af) A1 c2 _ (tbx E1b (tbx X7a hT)) (n9e.ext E1b) r8a h0f) ?_
     rintro _ _ E9b ⟨A9p,c0q,rfl,n1q⟩
     refine dnrm ?_
     refine Bi 3 4 (by kernel_rfl) ?_ ?_
     ·refine opC 3 rfl (by rfl) (Ae BT (by simp only [sz,hx6b];rfl)) (AC (⟨(⟨x1.Man.Neg,m5b⟩:Ag),x1.Exp⟩:Af) A4 c5 _ (tbx (E1b.trans E9b) (tbx X7a hT)) (n1c.ext (E1b.trans E9b)) r6a h2c) ?_
      rintro _ _ E0g ⟨A1a0,c2a0,rfl,n3a0⟩
      refine dnrm ?_
      refine Au 4 (by kernel_rfl) ?_
      ·refine opA 4 rfl (by rfl) (Aq AG) fun b4a0 _ E5i g2q q5a0=>dnrm ?_
       exact AW (by kernel_rfl) (HJ87 _ _ ⟨A9p,c0q,A1a0,c2a0,b4a0,b6k,(((E1b.trans E9b).trans E0g).trans E5i),((n1q.ext E0g).ext E5i),(n3a0.ext E5i),(nlt ((E1b.trans E9b).trans E0g).size g2q),q5a0,g7k,(((q4e.ext E9b).ext E0g).ext E5i),(Ne.symm (Bx.ne ((q4e.ext E9b).ext E0g) g2q)),rfl⟩)
     ·refine opA 4 rfl (by rfl) (Aq AG) fun b6a0 _ E1g g3q q7a0=>dnrm ?_
      refine Au 3 (by kernel_rfl) ?_
      ·refine opC 3 rfl (by rfl) (Ae BT (by simp only [sz,hx6b];rfl)) (AC (⟨(⟨x1.Man.Neg,m5b⟩:Ag),x1.Exp⟩:Af) A4 c5 _ (tbx ((E1b.trans E9b).trans E1g) (tbx X7a hT)) (n1c.ext ((E1b.trans E9b).trans E1g)) r6a h2c) ?_
       rintro _ _ E6i ⟨A8a0,c9a0,rfl,n0a1⟩
       refine dnrm ?_
       exact AW (by kernel_rfl) (HJ87 _ _ ⟨A9p,c0q,A8a0,c9a0,b6a0,b6k,(((E1b.trans E9b).trans E1g).trans E6i),((n1q.ext E1g).ext E6i),n0a1,(nlt (E1b.trans E9b).size g3q),(q7a0.ext E6i),g7k,(((q4e.ext E9b).ext E1g).ext E6i),(Ne.symm (Bx.ne (q4e.ext E9b) g3q)),rfl⟩)
    ·refine opA 4 rfl (by rfl) (Aq AG) fun b1a1 _ E5e g4q q2a1=>dnrm ?_
     refine Au 1 (by kernel_rfl) ?_
     ·refine opC 1 rfl (by rfl) (Ae BT (by simp only [sz,hx7d];rfl)) (AC (⟨(⟨x0.Man.Neg,m6d⟩:Ag),x0.Exp⟩:Af) A1 c2 _ (tbx (E1b.trans E5e) (tbx X7a hT)) (n9e.ext (E1b.trans E5e)) r8a h0f) ?_
      rintro _ _ E2g ⟨A3a1,c4a1,rfl,n5a1⟩
      refine dnrm ?_
      refine Au 3 (by kernel_rfl) ?_
      ·refine opC 3 rfl (by rfl) (Ae BT (by simp only [sz,hx6b];rfl)) (AC (⟨(⟨x1.Man.Neg,m5b⟩:Ag),x1.Exp⟩:Af) A4 c5 _ (tbx ((E1b.trans E5e).trans E2g) (tbx X7a hT)) (n1c.ext ((E1b.trans E5e).trans E2g)) r6a h2c) ?_
       rintro _ _ E7i ⟨A6a1,c7a1,rfl,n8a1⟩
       refine dnrm ?_
       exact AW (by kernel_rfl) (HJ87 _ _ ⟨A3a1,c4a1,A6a1,c7a1,b1a1,b6k,(((E1b.trans E5e).trans E2g).trans E7i),(n5a1.ext E7i),n8a1,(nlt E1b.size g4q),((q2a1.ext E2g).ext E7i),g7k,(((q4e.ext E5e).ext E2g).ext E7i),(Ne.symm (Bx.ne q4e g4q)),rfl⟩)
 ·refine scP (Ae GS (by rfl)) (DP x0 x1 b3j A1 c2 A4 c5 w6 (tbx X8c hT) (n3.ext X8c) (n6.ext X8c) q5l (.error r7g) h4j) fun w7 E0a=>?_
  have X9a1:=xtr X8c E0a
  have q0a2:=((q3c.ext E9a).ext E3a).ext E0a
  refine Fs DU (AH b7e b8e (.bool false:Value) (.slice none 0 0:Value) (.int .i64 0:Value) (.int .i64 0:Value) r7g q0a2 ((q0c.ext E3a).ext E0a)) rfl ?_
  rintro w9 ⟨u9,q9,q9'⟩
  obtain rfl:=sj hr0
  exact ⟨_,(Res.cellN rfl As q9 rfl rfl (Res.cell1 rfl Cx (Bx.cell q9' rfl) Res.nil)),Ap (u9.toExt X9a1 g5g g6g) ⟨none,0,rfl,RU.nil _⟩⟩
theorem Dy (x0:Al) (x1:Al) (A1:Option Addr) (c2:Nat) (A4:Option Addr) (c5:Nat) (w:World) (hT:TB w) (n3:RLu w A1 c2 x0.Man.Abs) (n6:RLu w A4 c5 x1.Man.Abs) (r:Af × Int) (hr:BM x0 x1=some r) :
  Calls Tryd.prog 10 #[.agg #[.bool x0.Man.Neg,.slice A1 x0.Man.Abs.length c2,.int .i64 x0.Exp],.agg #[.bool x1.Man.Neg,.slice A4 x1.Man.Abs.length c5,.int .i64 x1.Exp]] w (Ret Ey w r):=by
 unfold BM at hr
 go_enter Tryd.func10,Tryd.ntmps10
 refine wp_seq_k fun K7 h7=>Ah<|Br rfl rfl fun b8 w1 E9 g3c q8a=>?_
 refine nrm ?_
 refine Br rfl rfl fun b4c w2 E3a g9a q0b=>?_
 refine nrm ?_
 have g5c:=nlt E9.size g9a
 have X4a:=xtr E9 E3a
 refine Ax Bn fun b6c w3 E1a g1b q5a=>?_
 refine nrm ?_
 have g2b:=nlt X4a.size g1b
 have X0a:=xtr X4a E1a
 refine sV (Ac rfl) ?_
 refine Ad<|h7 _ _<|wp_seq_k fun K6a h6a=>Ah<|sV (Ak As rfl ((q8a.ext E3a).ext E1a) rfl) ?_
 refine sV (Ak As rfl (q0b.ext E1a) rfl) ?_
 refine sV (Bj (vals:=[(0,.func (.func 36) #[] #[]),(1,.func (.func 37) #[] #[])]) (cells:=[.func (.func 36) #[] #[],.func (.func 37) #[] #[]]) (by rfl) (by kernel_rfl)) ?_
 obtain ⟨r3b,h4b,f5b⟩:=Ab hr
 refine sc (Ae KG (by rfl)) (c_dyad_exact__dyad_num_times__dyad_Mul_1 x0 x1 A1 c2 A4 c5 w3 (tbx X0a hT) (n3.ext X0a) (n6.ext X0a) r3b h4b) ?_
 rintro _ w4 E2a ⟨A6b,c7b,rfl,n8b⟩
 refine nrm ?_
 have X9b:=xtr X0a E2a
 refine sV (Am rfl rfl) ?_
 refine sV (Am rfl rfl) ?_
 refine AA AL rfl rfl (q5a.ext E2a) rfl rfl rfl rfl (by simp only [SP0,SP1,S0,S1,Nat.reduceAdd];rfl) fun w5 U7a q0c=>?_
 have X1c:=belU X9b U7a g2b
 refine sV (Ac rfl) ?_
 refine Ad<|h6a _ _<|wp_ret ?_
 have n2c:=n8b.upd U7a (q5a.ext E2a) (by decide)
 obtain rfl:=sj f5b
 exact fin rfl (Res.cellN rfl As q0c rfl rfl (Res.tmp rfl Res.nil)) (Ap X1c ⟨A6b,c7b,rfl,n2c⟩)
theorem Gh (x0:Af) (x1:Af) (A1:Option Addr) (c2:Nat) (A4:Option Addr) (c5:Nat) (w:World) (hT:TB w) (n3:RU w A1 c2 x0.Man.Abs) (n6:RU w A4 c5 x1.Man.Abs) (r:Af) (hr:DJ x0 x1=some r) :
  Calls Tryd.prog 11 #[.agg #[.bool x0.Man.Neg,.slice A1 (sz x0.Man.Abs) c2,.int .i64 x0.Exp],.agg #[.bool x1.Man.Neg,.slice A4 (sz x1.Man.Abs) c5,.int .i64 x1.Exp]] w (Ret Ju w r):=by
 unfold DJ at hr
 go_enter Tryd.func11,Tryd.ntmps11
 refine wp_seq_k fun K7 h7=>Ah<|Br rfl rfl fun b8 w1 E9 g1d q2b=>?_
 refine nrm ?_
 refine Br rfl rfl fun b2d w2 E4a g3b q4b=>?_
 refine nrm ?_
 have g3d:=nlt E9.size g3b
 have X5a:=xtr E9 E4a
 refine Ax Bn fun b4d w3 E2a g5b q6a=>?_
 refine nrm ?_
 have g6b:=nlt X5a.size g5b
 have X0a:=xtr X5a E2a
 refine Ad<|h7 _ _<|wp_seq_k fun K7a h7a=>Ah<|sV (Ak As rfl ((q2b.ext E4a).ext E2a) rfl) ?_
 refine sV (Ak As rfl (q4b.ext E2a) rfl) ?_
 obtain ⟨r7b,h8b,f9b⟩:=Ab hr
 refine sc (Ae GP (by rfl)) (Dy (⟨(⟨x0.Man.Neg,(limbs x0.Man.Abs)⟩:Ay),x0.Exp⟩:Al) (⟨(⟨x1.Man.Neg,(limbs x1.Man.Abs)⟩:Ay),x1.Exp⟩:Al) A1 c2 A4 c5 w3 (tbx X0a hT) (n3.ext X0a) (n6.ext X0a) r7b h8b) ?_
 rintro _ w4 E3a ⟨A0c,c1c,rfl,n2c⟩
 refine nrm ?_
 have X8a:=xtr X0a E3a
 refine sV (Aa rfl) ?_
 refine sV (Am rfl rfl) ?_
 refine sV (Am rfl rfl) ?_
 refine Ax Bn fun b5d w5 E3c g9a q4c=>?_
 refine nrm ?_
 have g6d:=nlt X8a.size g9a
 refine AA AL rfl rfl q4c rfl rfl rfl rfl (by simp only [SP0,SP1,S0,S1,Nat.reduceAdd];rfl) fun w6 U5c q6c=>?_
 have F1a:=belU E3c U5c g9a
 have X7c:=xtr X8a F1a
 refine sV (Ac rfl) ?_
 refine Ad<|h7a _ _<|wp_seq_k fun K0b h0b=>Ah<|sV (Ak As rfl q6c rfl) ?_
 refine AA AL rfl rfl ((q6a.ext E3a).ext F1a) rfl rfl rfl rfl (by simp only [SP0,SP1,S0,S1,Nat.reduceAdd];rfl) fun w7 U1b q8c=>?_
 have X9c:=belU X7c U1b g6b
 refine Ad<|h0b _ _<|wp_ret ?_
 have n0d:=(n2c.ext F1a).upd U1b ((q6a.ext E3a).ext F1a) (by decide)
 obtain rfl:=sj f9b
 exact fin rfl (Res.cellN rfl As q8c rfl rfl Res.nil) (Ap X9c ⟨A0c,c1c,rfl,n0d⟩)
end Go.Proofs

