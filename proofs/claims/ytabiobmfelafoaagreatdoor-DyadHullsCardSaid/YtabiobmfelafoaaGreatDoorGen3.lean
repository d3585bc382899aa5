import Derived.Test.YtabiobmfelafoaaGreatDoorGen2
namespace Go.Proofs
set_option linter.unusedVariables false
set_option linter.unusedSimpArgs false
set_option maxHeartbeats 4000000
open Go.RowKit Go.Sb Go.Proofs.Sbn
theorem Gi (x0:Al) (A1:Option Addr) (c2:Nat) (A4:Option Addr) (c5:Nat) (w:World) (hT:TB w) (n3:RU w A1 c2 x0.Lo.Man.Abs) (n6:RU w A4 c5 x0.Hi.Man.Abs) (r:Al) (hr:Ch x0=some r) :
  Calls Tryz.prog 28 #[.agg #[.bool x0.Lo.Man.Neg,.slice A1 (sz x0.Lo.Man.Abs) c2,.int .i64 x0.Lo.Exp,.bool x0.Hi.Man.Neg,.slice A4 (sz x0.Hi.Man.Abs) c5,.int .i64 x0.Hi.Exp]] w (Ret KA w r):=by
 unfold Ch at hr
 go_enter Tryz.func28,Tryz.ntmps28
 refine wp_seq_k fun _ h7=>Af<|Bm rfl rfl fun b8 w1 E9 g4e q5b=>?_
 refine nrm ?_
 refine Ax Cv fun b5e w2 E5a g0c q1c=>?_
 refine nrm ?_
 have g2c:=nlt E9.size g0c
 have X6a:=xtr E9 E5a
 refine wh h7<|wp_seq_k fun _ h3c=>Af<|sV2 (Ah (o':=3) Jv rfl rfl) (dld BT (q5b.ext E5a)) ?_
 refine scn hr (Ad RI (by rfl)) (JD x0.Hi A4 c5 w2 (tbx X6a hT) (n6.ext X6a)) fun r0a f4c w3 A7a c8a E9a n5c=>?_
 have X6b:=xtr X6a E9a
 refine Ax Hq fun b6e w4 E6c g7b q7c=>?_
 refine nrm ?_
 have g7e:=nlt X6b.size g7b
 refine ss FI q7c fun w5 U8c q9c=>?_
 have F3a:=belU E6c U8c g7b
 have X0b:=xtr X6b F3a
 refine wh h3c<|wp_seq_k fun _ h0d=>Af<|sV (Ah (o':=0) Jy rfl rfl) ?_
 have q1d:=((q5b.ext E5a).ext E9a).ext F3a
 refine sV (dld BT q1d) ?_
 refine scn f4c (Ad RI (by rfl)) (JD x0.Lo A1 c2 w5 (tbx X0b hT) (n3.ext X0b)) fun r1a f2d w6 A1b c2b E4a n3d=>?_
 have X8b:=xtr X0b E4a
 refine Ax Hq fun b8e w7 E4d g9b q5d=>?_
 refine nrm ?_
 have g9e:=nlt X8b.size g9b
 refine ss FI q5d fun w8 U6d q7d=>?_
 have F2a:=belU E4d U6d g9b
 have X8d:=xtr X8b F2a
 refine wh h0d<|wp_seq_k fun _ h9d=>Af<|sV3 (Am BT rfl ((q9c.ext E4a).ext F2a) rfl) (Am BT rfl q7d rfl) (Bb (vals:=[(0,.agg #[.bool r0a.Man.Neg,.slice A7a (sz r0a.Man.Abs) c8a,.int .i64 r0a.Exp]),(1,.agg #[.bool r1a.Man.Neg,.slice A1b (sz r1a.Man.Abs) c2b,.int .i64 r1a.Exp])]) (cells:=[.bool r0a.Man.Neg,.slice A7a (sz r0a.Man.Abs) c8a,.int .i64 r0a.Exp,.bool r1a.Man.Neg,.slice A1b (sz r1a.Man.Abs) c2b,.int .i64 r1a.Exp]) (by rfl) (by kernel_rfl)) ?_
 have q3b:=(((q1c.ext E9a).ext F3a).ext E4a).ext F2a
 refine ss Bp q3b fun w9 U4b q0e=>?_
 have X1e:=belU X8d U4b g2c
 refine wh h9d<|wp_ret ?_
 have n2e:=(((n5c.ext F3a).ext E4a).ext F2a).upd U4b q3b (by decide)
 have n3e:=(n3d.ext F2a).upd U4b q3b (by decide)
 exact CV f2d rfl (Res.cellN rfl AI q0e rfl rfl Res.nil) (Av X1e ⟨A7a,c8a,A1b,c2b,rfl,n2e,n3e⟩)
theorem c_dyad_near (x0:An) (x1:An) (A1:Option Addr) (c2:Nat) (A4:Option Addr) (c5:Nat) (w:World) (hT:TB w) (n3:RU w A1 c2 x0.m.Abs) (n6:RU w A4 c5 x1.m.Abs) (r:Bool) (hr:Jz x0 x1=some r) :
  Calls Tryz.prog 125 #[.agg #[.bool x0.m.Neg,.slice A1 (sz x0.m.Abs) c2,.int .i64 x0.e],.agg #[.bool x1.m.Neg,.slice A4 (sz x1.m.Abs) c5,.int .i64 x1.e]] w (Ret FN w r):=by
 unfold Jz at hr
 go_enter Tryz.func125,Tryz.ntmps125
 refine wp_seq_k fun _ h7=>Af<|Bm rfl rfl fun b8 w1 E9 g4e q7a=>?_
 refine nrm ?_
 refine Bm rfl rfl fun b5e w2 E5a g5c q8a=>?_
 refine nrm ?_
 have g6e:=nlt E9.size g5c
 have X9a:=xtr E9 E5a
 refine sV (Ab rfl) ?_
 refine wh h7<|wp_seq_k fun _ h6c=>wp_seq_k fun _ h7c=>Af<|sV (Am Aw rfl (q7a.ext E5a) rfl) ?_
 refine scr hr (Ad Kf (by rfl)) (CY x0 A1 c2 w2 (tbx X9a hT) (n3.ext X9a)) fun r7e f8c w3 E1a=>?_
 have X6a:=xtr X9a E1a
 refine sb (CG rfl rfl) fun z6b hz6b=>?_
 refine nrm ?_
 refine sV (Aa rfl) ?_
 obtain ⟨m9c,h0d,f1d⟩:=Ac f8c
 refine BH 8 (fun l l' w'=>∃(t7b:Value) (t8b:Value) (t9b:Value),UpdS [] w3 w'∧l'=((((l.set 9 t7b).set 10 t8b).set 11 t9b).set 12 (.bool m9c))) ?_ ?_
 ·intro HJ44
  rcases zi hz6b h0d with ⟨e0a,_,f2d⟩ | ⟨e0a,_,f3d⟩
  ·refine sQ rfl e0a ?_
   refine sQ rfl e0a ?_
   refine sQ rfl e0a ?_
   refine sV (AA (evb rfl e0a) rfl) ?_
   obtain rfl:=sj f2d
   exact HJ44 _ _ ⟨uu,uu,uu,(UpdS.refl _ _),(by kernel_rfl)⟩
  ·refine sV (Am Aw rfl (q8a.ext E1a) rfl) ?_ (hw:=wgT rfl e0a)
   refine scr f3d (Ad Kf (by rfl)) (CY x1 A4 c5 w3 (tbx X6a hT) (n6.ext X6a)) (fun r0b f4d w4 E5d=>?_) (hw:=wgT rfl e0a)
   refine sb (CG rfl rfl) ?_ (hw:=wgT rfl e0a)
   intro z1b hz1b
   refine nrm ?_
   refine sV (AC (evb rfl e0a) rfl) ?_
   obtain rfl:z1b=decide (r0b=0):=bz hz1b
   obtain rfl:=sj f4d
   exact HJ44 _ _ ⟨(.agg #[.bool x1.m.Neg,.slice A4 (sz x1.m.Abs) c5,.int .i64 x1.e]),(.int .i64 r0b),(.bool (decide (r0b=0))),((UpdS.refl _ _).ext E5d),(by kernel_rfl)⟩
 ·rintro l' w4 ⟨t7b,t8b,t9b,U2a,hq'⟩ l'' hl
  rw [hq'] at hl
  clear hq'
  simp only [S0,S1] at hl
  subst hl
  have X0c:=Jf X6a U2a (X6a).size al0
  refine wh h7c ?_
  rcases zb f1d with ⟨e2b,f6d⟩ | ⟨e2b,f7d⟩
  ·refine wp_cond_true (Ak (evb rfl e2b))<|wp_seq_k fun _ h8d=>Af<|sV (Ab rfl) ?_
   refine wh h8d<|wp_ret ?_
   exact BG f6d X0c rfl
  ·refine wp_cond_false (Ak (evb rfl e2b))<|wp_skip<|h6c _ _<|wp_seq_k fun _ h9d=>DK [] 13 mo rfl fun w5 E3a S4a=>have X3b:=xtr X0c E3a;dV 0 rfl (fun _ hw=>Am Aw rfl (((((q7a.ext E5a).ext E1a).updS U2a nm0).ext E3a).ext hw) rfl) S4a ?_
   refine dV 2 rfl (fun _ hw=>Am Aw rfl ((((q8a.ext E1a).updS U2a nm0).ext E3a).ext hw) rfl) S4a ?_
   refine dA 5 rfl (fun _=>Ah (o':=2) CZ rfl rfl) ?_
   refine dV 6 rfl (fun _ hw=>Ai FM rfl (Bx.cell (((((q7a.ext E5a).ext E1a).updS U2a nm0).ext E3a).ext hw) rfl)) S4a ?_
   refine dA 7 rfl (fun _=>Ah (o':=2) CZ rfl rfl) ?_
   refine dV 8 rfl (fun _ hw=>Ai FM rfl (Bx.cell ((((q8a.ext E1a).updS U2a nm0).ext E3a).ext hw) rfl)) S4a ?_
   refine dA 9 rfl (fun _=>Qc rfl rfl) ?_
   refine dcr f7d 1 rfl (by rfl) (Ad Mu (by rfl)) (Ge x0 A1 c2 w5 (tbx X3b hT) (n3.ext X3b)) fun r1c f0e w6 E2c=>?_
   have X4b:=xtr X3b E2c
   have S1e:=S4a.trans E2c
   refine dcr f0e 3 rfl (by rfl) (Ad Mu (by rfl)) (Ge x1 A4 c5 w6 (tbx X4b hT) (n6.ext X4b)) fun r3c f2e w7 E4c=>?_
   have X3e:=xtr X4b E4c
   have S8e:=S1e.trans E4c
   refine dA 4 rfl (fun _=>Nt rfl rfl) ?_
   refine dA 10 rfl (fun _=>BA (c:=wi64 ((max r1c r3c) - (min x0.e x1.e))) rfl rfl rfl) ?_
   refine dab 11 rfl (by kernel_rfl) (fun _ _ _ h=>h) (by rfl) (fun _=>Jh rfl rfl) fun z5b hz5b=>?_
   refine dnrm ?_
   refine dA 12 rfl (fun _=>Ab rfl) ?_
   refine CE (by kernel_rfl) ?_
   refine h9d _ _<|wp_ret ?_
   obtain rfl:z5b=decide ((wi64 ((max r1c r3c) - (min x0.e x1.e)))≤32770):=bz hz5b
   exact BG f2e X3e rfl
theorem KS (x0:An) (x1:An) (x2:Int) (x3:Int) (A1:Option Addr) (c2:Nat) (A4:Option Addr) (c5:Nat) (w:World) (hT:TB w) (n3:RU w A1 c2 x0.m.Abs) (n6:RU w A4 c5 x1.m.Abs) (r:An) (hr:HP x0 x1 x2 x3=some r) :
  Calls Tryz.prog 113 #[.agg #[.bool x0.m.Neg,.slice A1 (sz x0.m.Abs) c2,.int .i64 x0.e],.agg #[.bool x1.m.Neg,.slice A4 (sz x1.m.Abs) c5,.int .i64 x1.e],.int .i64 x2,.int .i64 x3] w (Ret IX w r):=by
 unfold HP at hr
 go_enter Tryz.func113,Tryz.ntmps113
 refine wp_seq_k fun _ h7=>Af<|Bm rfl rfl fun b8 w1 E9 g6c q5b=>?_
 refine nrm ?_
 refine Bm rfl rfl fun b4e w2 E7b g3d q6b=>?_
 refine nrm ?_
 have g7c:=nlt E9.size g3d
 have X8c:=xtr E9 E7b
 refine Ax Bn fun b5e w3 E1b g1c q4c=>?_
 refine nrm ?_
 have g6e:=nlt X8c.size g1c
 have X7e:=xtr X8c E1b
 refine wh h7<|wp_seq_k fun _ h7l=>wp_seq_k fun _ h8l=>Af<|sV2 (Am Aw rfl ((q5b.ext E7b).ext E1b) rfl) (Am Aw rfl (q6b.ext E1b) rfl) ?_
 refine scr hr (Ad en_125 (by rfl)) (c_dyad_near x0 x1 A1 c2 A4 c5 w3 (tbx X7e hT) (n3.ext X7e) (n6.ext X7e)) fun r9l f0m w4 E6a=>?_
 have X4d:=xtr X7e E6a
 refine wh h8l ?_
 rcases zb f0m with ⟨e4f,f1m⟩ | ⟨e4f,f2m⟩
 ·refine wp_cond_true (Ak (evb rfl e4f))<|wp_seq_k fun _ h3m=>Af<|have q4m:=((q5b.ext E7b).ext E1b).ext E6a;sV2 (Am Aw rfl q4m rfl) (Am Aw rfl ((q6b.ext E1b).ext E6a) rfl) ?_
  refine scn f1m (Ad PF (by rfl)) (JL x0 x1 A1 c2 A4 c5 w4 (tbx X4d hT) (n3.ext X4d) (n6.ext X4d)) fun r5m f6m w5 A7m c8m E2i n9m=>?_
  have X3i:=xtr X4d E2i
  refine sV2 (Aa rfl) (Aa rfl) ?_
  refine scn f6m (Ad KP (by rfl)) (DD r5m x2 x3 false A7m c8m w5 (tbx X3i hT) n9m) fun r9w f0n w6 A1n c2n E4i n3n=>?_
  have X4n:=xtr X3i E4i
  have q5i:=((q4c.ext E6a).ext E2i).ext E4i
  refine ss BO q5i fun w7 U6i q5n=>?_
  have X6n:=belU X4n U6i g6e
  refine wh h3m<|wp_ret ?_
  exact CV f0n rfl (Res.cellN rfl Aw q5n rfl rfl Res.nil) (Av X6n ⟨A1n,c2n,rfl,(n3n.upd U6i q5i (by decide))⟩)
 ·refine wp_cond_false (Ak (evb rfl e4f))<|wp_skip<|h7l _ _<|wp_seq_k fun _ h7n=>wp_seq_k fun _ h8n=>DK [] 5 mo rfl fun w5 E9a S5f=>have X6f:=xtr X4d E9a;dV 0 rfl (fun _ hw=>Am Aw rfl (((((q5b.ext E7b).ext E1b).ext E6a).ext E9a).ext hw) rfl) S5f ?_
  refine dV 2 rfl (fun _ hw=>Am Aw rfl ((((q6b.ext E1b).ext E6a).ext E9a).ext hw) rfl) S5f ?_
  refine dcr f2m 1 rfl (by rfl) (Ad Mu (by rfl)) (Ge x0 A1 c2 w5 (tbx X6f hT) (n3.ext X6f)) fun r9n f0o w6 E2b=>?_
  have X7f:=xtr X6f E2b
  have S1o:=S5f.trans E2b
  refine dcr f0o 3 rfl (by rfl) (Ad Mu (by rfl)) (Ge x1 A4 c5 w6 (tbx X7f hT) (n6.ext X7f)) fun r2o f3o w7 E3b=>?_
  have X5d:=xtr X7f E3b
  have S0x:=S1o.trans E3b
  refine dab 4 rfl (by kernel_rfl) (fun _ _ _ h=>h) (by rfl) (fun _=>Cn rfl rfl) fun z8f hz8f=>?_
  refine dnrm ?_
  refine CE (by kernel_rfl) ?_
  refine h8n _ _ ?_
  obtain ⟨m0a,h4o,f5o⟩:=Ac f3o
  refine Dm (fun l l' w'=>∃(t9f:Value) (t0g:Value) (A2c:Option Addr) (c3c:Nat) (A6d:Option Addr) (c7d:Nat),UpdS [b8,b4e] w7 w'∧Bx w' b8 119 [.bool m0a.1,.slice A2c (sz m0a.2.1) c3c,.int .i64 m0a.2.2.1]∧Bx w' b4e 119 [.bool m0a.2.2.2.1,.slice A6d (sz m0a.2.2.2.2.1) c7d,.int .i64 m0a.2.2.2.2.2]∧RU w' A2c c3c m0a.2.1∧RU w' A6d c7d m0a.2.2.2.2.1∧l'=((l.set 25 t9f).set 26 t0g)) ?_ ?_
  ·rcases zi hz8f h4o with ⟨e1g,_,f6o⟩ | ⟨e1g,_,f7o⟩
   ·refine wp_cond_true (Ak (evb rfl e1g))<|Af<|have q7i:=((((q6b.ext E1b).ext E6a).ext E9a).ext E2b).ext E3b;sV (Am Aw rfl q7i rfl) ?_
    have q8i:=(((((q5b.ext E7b).ext E1b).ext E6a).ext E9a).ext E2b).ext E3b
    refine sV (Am Aw rfl q8i rfl) ?_
    refine ss BO q8i fun w8 U2g q8o=>?_
    have X9o:=belU X5d U2g g6c
    have ne9i:=(Bx.ne q5b g3d).symm
    refine ss BO (q7i.upd U2g ne9i) fun w9 U3g q0p=>?_
    have X0j:=belU X9o U3g g7c
    refine AK ?_
    obtain rfl:=sj f6o
    exact ⟨_,rfl,(.agg #[.bool x1.m.Neg,.slice A4 (sz x1.m.Abs) c5,.int .i64 x1.e]),(.agg #[.bool x0.m.Neg,.slice A1 (sz x0.m.Abs) c2,.int .i64 x0.e]),A4,c5,A1,c2,(((UpdS.refl _ _).upd U2g (.inl im0)).upd U3g (.inl (imc im0))),(q8o.upd U3g (Ne.symm ne9i)),q0p,(n6.ext X0j),(n3.ext X0j),(by kernel_rfl)⟩
   ·refine wp_cond_false (Ak (evb rfl e1g))<|wp_skip ?_
    have q1p:=(((((q5b.ext E7b).ext E1b).ext E6a).ext E9a).ext E2b).ext E3b
    have q2p:=((((q6b.ext E1b).ext E6a).ext E9a).ext E2b).ext E3b
    obtain rfl:=sj f7o
    exact ⟨_,rfl,uu,uu,A1,c2,A4,c5,(UpdS.refl _ _),q1p,q2p,(n3.ext X5d),(n6.ext X5d),(by kernel_rfl)⟩
  ·rintro l' w8 ⟨t9f,t0g,A2c,c3c,A6d,c7d,U5c,q8d,q8e,n4g,n3p,hq'⟩ l'' hl
   rw [hq'] at hl
   clear hq'
   simp only [S0,S1] at hl
   subst hl
   have X1j:=Jf X5d U5c (X5d).size (alc g6c (alc g7c al0))
   refine h7n _ _<|wp_seq_k fun _ h4p=>Af<|sV3 (Aa rfl) (Bj (c:=wi64 (x2+4)) rfl rfl rfl) (Ah (o':=0) BS rfl rfl) ?_
   refine sV2 (Ah (o':=1) Bt rfl rfl) (Ai Dk rfl (Bx.cell q8d rfl)) ?_
   refine scr f5o (Ad Mq (by rfl)) (Ef m0a.2.1 A2c c3c w8 (tbx X1j hT) n4g) fun r4a f5p w9 E1a=>?_
   have X6p:=xtr X1j E1a
   refine sV3 (BA (c:=wi64 ((wi64 (x2+4)) - r4a)) rfl rfl rfl) (Nt rfl rfl) (Ab rfl) ?_
   refine wh h4p<|wp_seq_k fun _ h7p=>DK [10] 11 mo rfl fun w6c E2a S5g=>have X9e:=xtr X6p E2a;dA 0 rfl (fun _=>Ah (o':=0) BS rfl rfl) ?_
   refine dA 1 rfl (fun _=>Ah (o':=0) En rfl rfl) ?_
   refine dV 2 rfl (fun _ hw=>Ai HZ rfl (Bx.cell (((q8d.ext E1a).ext E2a).ext hw) rfl)) S5g ?_
   refine dA 3 rfl (fun _=>Ah (o':=0) BS rfl rfl) ?_
   refine dA 4 rfl (fun _=>Ah (o':=1) Bt rfl rfl) ?_
   refine dV 5 rfl (fun _ hw=>Ai Dk rfl (Bx.cell (((q8d.ext E1a).ext E2a).ext hw) rfl)) S5g ?_
   refine dA 6 rfl (fun _=>Aa rfl) ?_
   obtain ⟨r7a,h2j,f8p⟩:=Ac f5p
   refine Pd #[true,true,true,true,true,true,true,true,true,true,false] 1 (fun l' w'=>∃(A9b:Option Addr) (c0c:Nat) (b0f:Nat),Ext w6c w'∧RU w' A9b c0c r7a∧w6c.heap.size≤b0f∧Bx w' b0f 117 [.bool false,.slice none 0 0]∧l'=[.agg #[.bool x0.m.Neg,.slice A1 (sz x0.m.Abs) c2,.int .i64 x0.e],.agg #[.bool x1.m.Neg,.slice A4 (sz x1.m.Abs) c5,.int .i64 x1.e],.int .i64 x2,.int .i64 x3,.pointer (some ⟨b8,0,none⟩),.pointer (some ⟨b4e,0,none⟩),uu,uu,.pointer (some ⟨b5e,0,none⟩),.int .i64 (max 0 (wi64 ((wi64 (x2+4)) - r4a))),.pointer (some ⟨b0f,0,none⟩),.agg #[.bool x0.m.Neg,.slice A1 (sz x0.m.Abs) c2,.int .i64 x0.e],.agg #[.bool x1.m.Neg,.slice A4 (sz x1.m.Abs) c5,.int .i64 x1.e],.bool r9l,uu,uu,uu,uu,uu,uu,.agg #[.bool x0.m.Neg,.slice A1 (sz x0.m.Abs) c2,.int .i64 x0.e],.int .i64 r9n,.agg #[.bool x1.m.Neg,.slice A4 (sz x1.m.Abs) c5,.int .i64 x1.e],.int .i64 r2o,.bool z8f,t9f,t0g,.int .i64 x2,.int .i64 (wi64 (x2+4)),.pointer (some ⟨b8,0,none⟩),.pointer (some ⟨b8,1,none⟩),.slice A2c (sz m0a.2.1) c3c,.int .i64 r4a,.int .i64 (wi64 ((wi64 (x2+4)) - r4a)),.int .i64 (max 0 (wi64 ((wi64 (x2+4)) - r4a))),.pointer (some ⟨b8,0,none⟩),.pointer (some ⟨b8,0,none⟩),.bool m0a.1,.pointer (some ⟨b8,0,none⟩),.pointer (some ⟨b8,1,none⟩),.slice A2c (sz m0a.2.1) c3c,.int .i64 (max 0 (wi64 ((wi64 (x2+4)) - r4a))),.slice A9b (sz r7a) c0c,.agg #[.bool m0a.1,.slice A9b (sz r7a) c0c],uu,uu,uu,uu,uu,uu,uu,uu,uu,uu,uu,uu,uu,uu,uu,uu,uu,uu,uu,uu,uu,uu,uu,uu,uu,uu,uu,uu,uu,uu,uu,uu,uu,uu,uu,uu,uu,uu,uu,uu,uu,uu]) ?_ ?_
   ·rintro _ w5b ⟨A9b,c0c,b0f,E8a,n6g,g9p,q8b,rfl⟩
    have g0q:=nlt X9e.size g9p
    have X1q:=xtr X9e E8a
    have S1x:=S5g.trans E8a
    refine dkk 10 Hd q8b fun w4e U4b q7g=>?_
    have X2q:=belU X1q U4b g0q
    refine CE (by kernel_rfl) ?_
    refine h7p _ _<|wp_seq_k fun _ h3q=>Af<|sV2 (Am EF rfl q7g rfl) (Ah (o':=2) CZ rfl rfl) ?_
    have ne8g:=(Bx.neT (((q8d.ext E1a).ext E2a).ext E8a) q8b (by decide))
    have q9c:=(((q8d.ext E1a).ext E2a).ext E8a).upd U4b ne8g
    refine sV3 (Ai FM rfl (Bx.cell q9c rfl)) (Aa rfl) (BA (c:=wi64 (m0a.2.2.1 - (max 0 (wi64 ((wi64 (x2+4)) - r4a))))) rfl rfl rfl) ?_
    refine sV (Bb (vals:=[(0,.agg #[.bool m0a.1,.slice A9b (sz r7a) c0c]),(1,.int .i64 (wi64 (m0a.2.2.1 - (max 0 (wi64 ((wi64 (x2+4)) - r4a))))))]) (cells:=[.bool m0a.1,.slice A9b (sz r7a) c0c,.int .i64 (wi64 (m0a.2.2.1 - (max 0 (wi64 ((wi64 (x2+4)) - r4a)))))]) (by rfl) (by kernel_rfl)) ?_
    refine ss BO q9c fun w7b U0b q9d=>?_
    have X4q:=belU X2q U0b g6c
    refine wh h3q<|wp_seq_k fun _ h5q=>wp_seq_k fun _ h6q=>DK [] 6 mo rfl fun w3d E3a S9g=>have X3j:=xtr X4q E3a;have ne0h:=(Bx.neT (((q8e.ext E1a).ext E2a).ext E8a) q8b (by decide));have ne1h:=(Bx.ne q5b g3d).symm;dV 0 rfl (fun _ hw=>Am Aw rfl (((((((q8e.ext E1a).ext E2a).ext E8a).upd U4b ne0h).upd U0b ne1h).ext E3a).ext hw) rfl) S9g ?_
    refine dA 2 rfl (fun _=>Ah (o':=2) CZ rfl rfl) ?_
    refine dV 3 rfl (fun _ hw=>Ai FM rfl (Bx.cell ((q9d.ext E3a).ext hw) rfl)) S9g ?_
    refine dA 4 rfl (fun _=>BA (c:=wi64 ((wi64 (m0a.2.2.1 - (max 0 (wi64 ((wi64 (x2+4)) - r4a))))) - 1)) rfl rfl rfl) ?_
    have n4j:=(((((n3p.ext E1a).ext E2a).ext E8a).upd U4b q8b (by decide)).upd U0b q9c (by decide)).ext E3a
    refine dcr f8p 1 rfl (by rfl) (Ad Mu (by rfl)) (Ge (⟨(⟨m0a.2.2.2.1,m0a.2.2.2.2.1⟩:Ae),m0a.2.2.2.2.2⟩:An) A6d c7d w3d (tbx X3j hT) n4j) fun r2x f7q w6b E5a=>?_
    have X0e:=xtr X3j E5a
    have S3x:=S9g.trans E5a
    refine dab 5 rfl (by kernel_rfl) (fun _ _ _ h=>h) (by rfl) (fun _=>FP rfl rfl) fun z5j hz5j=>?_
    refine dnrm ?_
    refine CE (by kernel_rfl) ?_
    refine h6q _ _ ?_
    rcases zi hz5j f7q with ⟨e2h,_,f8q⟩ | ⟨e2h,_,f9q⟩
    ·refine wp_cond_true (Ak (evb rfl e2h))<|wp_seq_k fun _ h0r=>Af<|sV (Am Aw rfl ((q9d.ext E3a).ext E5a) rfl) ?_
     have q1r:=((((((q8e.ext E1a).ext E2a).ext E8a).upd U4b ne0h).upd U0b ne1h).ext E3a).ext E5a
     refine sV (Am Aw rfl q1r rfl) ?_
     have n2r:=(((n6g.upd U4b q8b (by decide)).upd U0b q9c (by decide)).ext E3a).ext E5a
     refine scn f8q (Ad PF (by rfl)) (JL (⟨(⟨m0a.1,r7a⟩:Ae),(wi64 (m0a.2.2.1 - (max 0 (wi64 ((wi64 (x2+4)) - r4a)))))⟩:An) (⟨(⟨m0a.2.2.2.1,m0a.2.2.2.2.1⟩:Ae),m0a.2.2.2.2.2⟩:An) A9b c0c A6d c7d w6b (tbx X0e hT) n2r (n4j.ext E5a)) fun r3r f4r w7c A5r c6r E6j n7r=>?_
     have X7j:=xtr X0e E6j
     refine sV2 (Aa rfl) (Aa rfl) ?_
     refine scn f4r (Ad KP (by rfl)) (DD r3r x2 x3 false A5r c6r w7c (tbx X7j hT) n7r) fun r4x f8r w8c A9r c0s E8j n1s=>?_
     have X2s:=xtr X7j E8j
     have ne9j:=(Bx.ne q6b g1c).symm
     have ne3h:=(Bx.ne (q5b.ext E7b) g1c).symm
     have ne3s:=(Bx.neT ((((((((q4c.ext E6a).ext E9a).ext E2b).ext E3b).updS U5c (nmc ne3h (nmc ne9j nm0))).ext E1a).ext E2a).ext E8a) q8b (by decide))
     have q0k:=(((((((((((((q4c.ext E6a).ext E9a).ext E2b).ext E3b).updS U5c (nmc ne3h (nmc ne9j nm0))).ext E1a).ext E2a).ext E8a).upd U4b ne3s).upd U0b ne3h).ext E3a).ext E5a).ext E6j).ext E8j
     refine ss BO q0k fun w5e U1k q4s=>?_
     have X5s:=belU X2s U1k g6e
     refine wh h0r<|wp_ret ?_
     exact CV f8r rfl (Res.cellN rfl Aw q4s rfl rfl Res.nil) (Av X5s ⟨A9r,c0s,rfl,(n1s.upd U1k q0k (by decide))⟩)
    ·refine wp_cond_false (Ak (evb rfl e2h))<|wp_skip<|h5q _ _<|wp_seq_k fun _ h6s=>wp_seq_k fun _ h7s=>Af<|sV3 (Ah (o':=0) BS rfl rfl) (Ah (o':=0) En rfl rfl) (Ai HZ rfl (Bx.cell ((q9d.ext E3a).ext E5a) rfl)) ?_
     refine sV2 (Ah (o':=0) BS rfl rfl) (Ah (o':=0) En rfl rfl) ?_
     have q8s:=((((((q8e.ext E1a).ext E2a).ext E8a).upd U4b ne0h).upd U0b ne1h).ext E3a).ext E5a
     refine sV (Ai HZ rfl (Bx.cell q8s rfl)) ?_
     refine sb (PC Qv rfl rfl) fun z2k hz2k=>?_
     refine nrm ?_
     refine wh h7s ?_
     rcases zi hz2k f9q with ⟨e4h,_,f9s⟩ | ⟨e4h,_,f0t⟩
     ·refine wp_cond_true (Ak (evb rfl e4h))<|wp_seq_k fun _ h1t=>Af<|sV3 (Am Aw rfl ((q9d.ext E3a).ext E5a) rfl) (Aa rfl) (Aa rfl) ?_
      have n2t:=(((n6g.upd U4b q8b (by decide)).upd U0b q9c (by decide)).ext E3a).ext E5a
      refine scn f9s (Ad KP (by rfl)) (DD (⟨(⟨m0a.1,r7a⟩:Ae),(wi64 (m0a.2.2.1 - (max 0 (wi64 ((wi64 (x2+4)) - r4a)))))⟩:An) x2 x3 true A9b c0c w6b (tbx X0e hT) n2t) fun r5x f3t w7c A4t c5t E3k n6t=>?_
      have X7t:=xtr X0e E3k
      have ne4k:=(Bx.ne q6b g1c).symm
      have ne5h:=(Bx.ne (q5b.ext E7b) g1c).symm
      have ne8t:=(Bx.neT ((((((((q4c.ext E6a).ext E9a).ext E2b).ext E3b).updS U5c (nmc ne5h (nmc ne4k nm0))).ext E1a).ext E2a).ext E8a) q8b (by decide))
      have q5k:=((((((((((((q4c.ext E6a).ext E9a).ext E2b).ext E3b).updS U5c (nmc ne5h (nmc ne4k nm0))).ext E1a).ext E2a).ext E8a).upd U4b ne8t).upd U0b ne5h).ext E3a).ext E5a).ext E3k
      refine ss BO q5k fun w8c U6k q9t=>?_
      have X0u:=belU X7t U6k g6e
      refine wh h1t<|wp_ret ?_
      exact CV f3t rfl (Res.cellN rfl Aw q9t rfl rfl Res.nil) (Av X0u ⟨A4t,c5t,rfl,(n6t.upd U6k q5k (by decide))⟩)
     ·refine wp_cond_false (Ak (evb rfl e4h))<|wp_skip<|h6s _ _<|wp_seq_k fun _ h1u=>DK [13] 14 mo rfl fun w7c E0d S1f=>have X7k:=xtr X0e E0d;dA 0 rfl (fun _=>Ah (o':=0) En rfl rfl) ?_
      refine dV 1 rfl (fun _ hw=>Ai HZ rfl (Bx.cell (((((q7g.upd U0b (Ne.symm ne8g)).ext E3a).ext E5a).ext E0d).ext hw) rfl)) S1f ?_
      refine dA 2 rfl (fun _=>Ah (o':=1) Bt rfl rfl) ?_
      refine dV 3 rfl (fun _ hw=>Ai Dk rfl (Bx.cell (((((q7g.upd U0b (Ne.symm ne8g)).ext E3a).ext E5a).ext E0d).ext hw) rfl)) S1f ?_
      refine dA 7 rfl (fun _=>Ah (o':=2) CZ rfl rfl) ?_
      refine dV 8 rfl (fun _ hw=>Ai FM rfl (Bx.cell ((((q9d.ext E3a).ext E5a).ext E0d).ext hw) rfl)) S1f ?_
      refine dA 10 rfl (fun _=>Aa rfl) ?_
      refine dA 11 rfl (fun _=>Aa rfl) ?_
      refine AM 4 (by kernel_rfl) (opB (cs:=[.int .u32 1]) 4 rfl (by rfl) (Pi (vals:=[(0,.int .u32 1)]) As Au HM (by rfl) (by decide) (by kernel_rfl)) ?_)
      intro b2u w8c E2f g3u q4u
      refine dnrm ?_
      have g6x:=nlt X7k.size g3u
      have X8k:=xtr X7k E2f
      have S5u:=S1f.trans E2f
      have n6u:=RL.lit1 q4u (by decide)
      have n7u:=(((((n6g.upd U4b q8b (by decide)).upd U0b q9c (by decide)).ext E3a).ext E5a).ext E0d).ext E2f
      refine dcn f0t 5 rfl (by rfl) (Ad Nr (by rfl)) (FY r7a 1 A9b c0c (some ⟨b2u,0,none⟩) 1 w8c (tbx X8k hT) n7u n6u) fun r1e f8u w5e A2e c3e E6h n9u=>?_
      have X9k:=xtr X8k E6h
      have S0v:=S5u.trans E6h
      refine dA 6 rfl (fun _=>Bb (vals:=[(0,.bool m0a.1),(1,.slice A2e (sz r1e) c3e)]) (cells:=[.bool m0a.1,.slice A2e (sz r1e) c3e]) (by rfl) (by kernel_rfl)) ?_
      refine dA 9 rfl (fun _=>Bb (vals:=[(0,.agg #[.bool m0a.1,.slice A2e (sz r1e) c3e]),(1,.int .i64 (wi64 (m0a.2.2.1 - (max 0 (wi64 ((wi64 (x2+4)) - r4a))))))]) (cells:=[.bool m0a.1,.slice A2e (sz r1e) c3e,.int .i64 (wi64 (m0a.2.2.1 - (max 0 (wi64 ((wi64 (x2+4)) - r4a)))))]) (by rfl) (by kernel_rfl)) ?_
      refine dcn f8u 12 rfl (by rfl) (Ad KP (by rfl)) (DD (⟨(⟨m0a.1,r1e⟩:Ae),(wi64 (m0a.2.2.1 - (max 0 (wi64 ((wi64 (x2+4)) - r4a)))))⟩:An) x2 x3 true A2e c3e w5e (tbx X9k hT) n9u) fun r7x f1v w1b A2v c3v E7h n4v=>?_
      have X5v:=xtr X9k E7h
      have S8x:=S0v.trans E7h
      have ne0l:=(Bx.ne q6b g1c).symm
      have ne8h:=(Bx.ne (q5b.ext E7b) g1c).symm
      have ne6v:=(Bx.neT ((((((((q4c.ext E6a).ext E9a).ext E2b).ext E3b).updS U5c (nmc ne8h (nmc ne0l nm0))).ext E1a).ext E2a).ext E8a) q8b (by decide))
      have q1l:=(((((((((((((((q4c.ext E6a).ext E9a).ext E2b).ext E3b).updS U5c (nmc ne8h (nmc ne0l nm0))).ext E1a).ext E2a).ext E8a).upd U4b ne6v).upd U0b ne8h).ext E3a).ext E5a).ext E0d).ext E2f).ext E6h).ext E7h
      refine dkk 13 BO q1l fun w1c U2l q7v=>?_
      have X8v:=belU X5v U2l g6e
      refine CE (by kernel_rfl) ?_
      refine h1u _ _<|wp_ret ?_
      exact CV f1v rfl (Res.cellN rfl Aw q7v rfl rfl Res.nil) (Av X8v ⟨A2v,c3v,rfl,(n4v.upd U2l q1l (by decide))⟩)
   ·intro HJ147
    refine CP 7 9 (by kernel_rfl) ?_ ?_
    ·refine opC 7 rfl (by rfl) (Ad Kj (by rfl)) (CX m0a.2.1 (max 0 (wi64 ((wi64 (x2+4)) - r4a))) A2c c3c _ (tbx (Ext.refl _) (tbx X9e hT)) (((n4g.ext E1a).ext E2a).ext (Ext.refl _)) r7a h2j) ?_
     rintro _ _ E3f ⟨A1d,c2d,rfl,n3l⟩
     refine dnrm ?_
     refine CP 8 9 (by kernel_rfl) ?_ ?_
     ·refine opV 8 rfl (by rfl) (Bb (vals:=[(0,.bool m0a.1),(1,.slice A1d (sz r7a) c2d)]) (cells:=[.bool m0a.1,.slice A1d (sz r7a) c2d]) (by rfl) (by kernel_rfl)) (dnrm ?_)
      refine AM 9 (by kernel_rfl) ?_
      ·refine opA 9 rfl (by rfl) (AP HD) fun b9v _ E4l g0w q1w=>dnrm ?_
       exact Cm (by kernel_rfl) (HJ147 _ _ ⟨A1d,c2d,b9v,(E3f.trans E4l),(n3l.ext E4l),(nlt E3f.size g0w),q1w,rfl⟩)
     ·refine opA 9 rfl (by rfl) (AP HD) fun b2w _ E5l g3w q4w=>dnrm ?_
      refine AM 8 (by kernel_rfl) ?_
      ·refine opV 8 rfl (by rfl) (Bb (vals:=[(0,.bool m0a.1),(1,.slice A1d (sz r7a) c2d)]) (cells:=[.bool m0a.1,.slice A1d (sz r7a) c2d]) (by rfl) (by kernel_rfl)) (dnrm ?_)
       exact Cm (by kernel_rfl) (HJ147 _ _ ⟨A1d,c2d,b2w,(E3f.trans E5l),(n3l.ext E5l),(nlt E3f.size g3w),q4w,rfl⟩)
    ·refine opA 9 rfl (by rfl) (AP HD) fun b5w _ E9h g6w q7w=>dnrm ?_
     refine AM 7 (by kernel_rfl) ?_
     ·refine opC 7 rfl (by rfl) (Ad Kj (by rfl)) (CX m0a.2.1 (max 0 (wi64 ((wi64 (x2+4)) - r4a))) A2c c3c _ (tbx E9h (tbx X9e hT)) (((n4g.ext E1a).ext E2a).ext E9h) r7a h2j) ?_
      rintro _ _ E6l ⟨A0i,c1i,rfl,n8w⟩
      refine dnrm ?_
      refine AM 8 (by kernel_rfl) ?_
      ·refine opV 8 rfl (by rfl) (Bb (vals:=[(0,.bool m0a.1),(1,.slice A0i (sz r7a) c1i)]) (cells:=[.bool m0a.1,.slice A0i (sz r7a) c1i]) (by rfl) (by kernel_rfl)) (dnrm ?_)
       exact Cm (by kernel_rfl) (HJ147 _ _ ⟨A0i,c1i,b5w,(E9h.trans E6l),n8w,g6w,(q7w.ext E6l),rfl⟩)
theorem Md (x0:Ap) (x1:Ap) (x2:Int) (A1:Option Addr) (c2:Nat) (A4:Option Addr) (c5:Nat) (A7:Option Addr) (c8:Nat) (A4b:Option Addr) (c5b:Nat) (w:World) (hT:TB w) (n3:RU w A1 c2 x0.lo.m.Abs) (n6:RU w A4 c5 x0.hi.m.Abs) (n9:RU w A7 c8 x1.lo.m.Abs) (n8c:RU w A4b c5b x1.hi.m.Abs) (r:Except Int (Al)) (hr:GE x0 x1 x2=some r) :
  Calls Tryz.prog 112 #[.agg #[.bool x0.lo.m.Neg,.slice A1 (sz x0.lo.m.Abs) c2,.int .i64 x0.lo.e,.bool x0.hi.m.Neg,.slice A4 (sz x0.hi.m.Abs) c5,.int .i64 x0.hi.e],.agg #[.bool x1.lo.m.Neg,.slice A7 (sz x1.lo.m.Abs) c8,.int .i64 x1.lo.e,.bool x1.hi.m.Neg,.slice A4b (sz x1.hi.m.Abs) c5b,.int .i64 x1.hi.e],.int .i64 x2] w (RetE 201 KA w r):=by
 unfold GE at hr
 go_enter Tryz.func112,Tryz.ntmps112
 refine wp_seq_k fun _ h9c=>Af<|Bm rfl rfl fun b1f w1 E2c g2f q3c=>?_
 refine nrm ?_
 refine Bm rfl rfl fun b3f w2 E6b g0d q4c=>?_
 refine nrm ?_
 have g4f:=nlt E2c.size g0d
 have X5c:=xtr E2c E6b
 refine Ax Cv fun b5f w3 E3a g1d q2d=>?_
 refine nrm ?_
 have g3d:=nlt X5c.size g1d
 have X4d:=xtr X5c E3a
 refine wh h9c<|wp_seq_k fun _ h5d=>DK [14] 15 mo rfl fun w4 E2a S4a=>have X7a:=xtr X4d E2a;dA 0 rfl (fun _=>Ah (o':=0) Cl rfl rfl) ?_
 refine dV 1 rfl (fun _ hw=>dld Aw ((((q3c.ext E6b).ext E3a).ext E2a).ext hw)) S4a ?_
 refine dA 2 rfl (fun _=>Ah (o':=0) Cl rfl rfl) ?_
 refine dV 3 rfl (fun _ hw=>dld Aw (((q4c.ext E3a).ext E2a).ext hw)) S4a ?_
 refine dA 4 rfl (fun _=>Aa rfl) ?_
 refine dA 6 rfl (fun _=>Ah (o':=3) Cw rfl rfl) ?_
 refine dV 7 rfl (fun _ hw=>dld Aw ((((q3c.ext E6b).ext E3a).ext E2a).ext hw)) S4a ?_
 refine dA 8 rfl (fun _=>Ah (o':=3) Cw rfl rfl) ?_
 refine dV 9 rfl (fun _ hw=>dld Aw (((q4c.ext E3a).ext E2a).ext hw)) S4a ?_
 refine dA 10 rfl (fun _=>Aa rfl) ?_
 refine dcn hr 5 rfl (by rfl) (Ad OB (by rfl)) (KS x0.lo x1.lo x2 5 A1 c2 A7 c8 w4 (tbx X7a hT) (n3.ext X7a) (n9.ext X7a)) fun r0a f6d w5 A8a c9a E7b n6c=>?_
 have X0b:=xtr X7a E7b
 have S7d:=S4a.trans E7b
 refine dcn f6d 11 rfl (by rfl) (Ad OB (by rfl)) (KS x0.hi x1.hi x2 4 A4 c5 A4b c5b w5 (tbx X0b hT) (n6.ext X0b) (n8c.ext X0b)) fun r1a f8d w6 A1b c2b E5a n7c=>?_
 have X3b:=xtr X0b E5a
 have S9d:=S7d.trans E5a
 refine dA 12 rfl (fun _=>Bb (vals:=[(0,.agg #[.bool r0a.m.Neg,.slice A8a (sz r0a.m.Abs) c9a,.int .i64 r0a.e]),(1,.agg #[.bool r1a.m.Neg,.slice A1b (sz r1a.m.Abs) c2b,.int .i64 r1a.e])]) (cells:=[.bool r0a.m.Neg,.slice A8a (sz r0a.m.Abs) c9a,.int .i64 r0a.e,.bool r1a.m.Neg,.slice A1b (sz r1a.m.Abs) c2b,.int .i64 r1a.e]) (by rfl) (by kernel_rfl)) ?_
 rcases AF f8d with ⟨r8b,h9b,f0e⟩ | ⟨r8b,h9b,rfl⟩
 ·refine dcO 13 rfl (by kernel_rfl) (by rfl) (Ad IZ (by rfl)) (BX (⟨r0a,r1a⟩:Ap) A8a c9a A1b c2b w6 (tbx X3b hT) (n6c.ext E5a) n7c (.ok r8b) h9b) ?_
  rintro _ w7 E6a ⟨A1e,c2e,A3e,c4e,rfl,n5e,n6e⟩
  refine dnrm ?_
  have X7e:=xtr X3b E6a
  have S6f:=S9d.trans E6a
  have q0c:=(((q2d.ext E2a).ext E7b).ext E5a).ext E6a
  refine dkk 14 Bp q0c fun w8 U1c q8e=>?_
  have X9e:=belU X7e U1c g3d
  refine CE (by kernel_rfl) ?_
  refine h5d _ _<|wp_ret ?_
  exact CV f0e rfl (Res.cellN rfl AI q8e rfl rfl Res.nil) (DC X9e ⟨A1e,c2e,A3e,c4e,rfl,(n5e.upd U1c q0c (by decide)),(n6e.upd U1c q0c (by decide))⟩)
 ·refine dcP 13 rfl (by kernel_rfl) (by rfl) (Ad IZ (by rfl)) (BX (⟨r0a,r1a⟩:Ap) A8a c9a A1b c2b w6 (tbx X3b hT) (n6c.ext E5a) n7c (.error r8b) h9b) fun w7 E6a=>?_
  have X0f:=xtr X3b E6a
  exact ⟨rfl,BK X0f⟩
theorem c_dyad_made_Span__dyad_Plus_1 (x0:Ao) (x1:Ao) (x2:Int) (A1:Option Addr) (c2:Nat) (A4:Option Addr) (c5:Nat) (A7:Option Addr) (c8:Nat) (A6a:Option Addr) (c8a:Nat) (w:World) (hT:TB w) (n3:RLu w A1 c2 x0.Lo.Man.Abs) (n6:RLu w A4 c5 x0.Hi.Man.Abs) (n9:RLu w A7 c8 x1.Lo.Man.Abs) (n4b:RLu w A6a c8a x1.Hi.Man.Abs) (r:Al × Int) (hr:CS x0 x1 x2=some r) :
  Calls Tryz.prog 100 #[.agg #[.bool x0.Lo.Man.Neg,.slice A1 x0.Lo.Man.Abs.length c2,.int .i64 x0.Lo.Exp,.bool x0.Hi.Man.Neg,.slice A4 x0.Hi.Man.Abs.length c5,.int .i64 x0.Hi.Exp],.agg #[.bool x1.Lo.Man.Neg,.slice A7 x1.Lo.Man.Abs.length c8,.int .i64 x1.Lo.Exp,.bool x1.Hi.Man.Neg,.slice A6a x1.Hi.Man.Abs.length c8a,.int .i64 x1.Hi.Exp],.int .i64 x2,.func (.func 112) #[] #[]] w (Ret FC w r):=by
 unfold CS at hr
 obtain ⟨q0,hq0,hr0⟩:=Ac hr
 unfold DE at hq0
 go_enter_defers Tryz.func100,Tryz.ntmps100
 refine wp_seq_k fun _ h4e=>Af<|Bm rfl rfl fun b9l w1 E5e g0m q7g=>?_
 refine nrm ?_
 refine Bm rfl rfl fun b1m w2 E6e g8g q7e=>?_
 refine nrm ?_
 have g2m:=nlt E5e.size g8g
 have X8e:=xtr E5e E6e
 refine Ax Cv fun b5b w3 E6b g9g q7b=>?_
 refine nrm ?_
 have g8b:=nlt X8e.size g9g
 have X9e:=xtr X8e E6b
 refine Ax Jk fun b9b w4 E0b g0h q3b=>?_
 refine nrm ?_
 have g0c:=nlt X9e.size g0h
 have X0f:=xtr X9e E0b
 refine wh h4e<|wp_seq_k fun _ h1h=>Af<|Hw (vs:=[.pointer (some ⟨b5b,0,none⟩),.pointer (some ⟨b9b,0,none⟩)]) (by rfl) (by rfl)<|wh h1h<|wp_seq_k fun _ h2h=>Af<|have q1f:=((q7g.ext E6e).ext E6b).ext E0b;sV2 (Am AI rfl q1f rfl) (Am AI rfl ((q7e.ext E6b).ext E0b) rfl) ?_
 refine CI (vals:=[(0,.agg #[.bool x0.Lo.Man.Neg,.slice A1 x0.Lo.Man.Abs.length c2,.int .i64 x0.Lo.Exp,.bool x0.Hi.Man.Neg,.slice A4 x0.Hi.Man.Abs.length c5,.int .i64 x0.Hi.Exp]),(1,.agg #[.bool x1.Lo.Man.Neg,.slice A7 x1.Lo.Man.Abs.length c8,.int .i64 x1.Lo.Exp,.bool x1.Hi.Man.Neg,.slice A6a x1.Hi.Man.Abs.length c8a,.int .i64 x1.Hi.Exp])]) (cs:=[.bool x0.Lo.Man.Neg,.slice A1 x0.Lo.Man.Abs.length c2,.int .i64 x0.Lo.Exp,.bool x0.Hi.Man.Neg,.slice A4 x0.Hi.Man.Abs.length c5,.int .i64 x0.Hi.Exp,.bool x1.Lo.Man.Neg,.slice A7 x1.Lo.Man.Abs.length c8,.int .i64 x1.Lo.Exp,.bool x1.Hi.Man.Neg,.slice A6a x1.Hi.Man.Abs.length c8a,.int .i64 x1.Hi.Exp]) Jn Bp Cv (by rfl) (by decide) (by kernel_rfl) fun b2f w5 E3a g3h q3f=>?_
 refine nrm ?_
 have g3m:=nlt X0f.size g3h
 have X4a:=xtr X0f E3a
 rcases AF hq0 with ⟨r1c,h9d,f4h⟩ | ⟨r1c,h9d,rfl⟩
 ·refine scO (Ad It (by rfl)) (BP x0 x1 b2f A1 c2 A4 c5 A7 c8 A6a c8a w5 (tbx X4a hT) (n3.ext X4a) (n6.ext X4a) (n9.ext X4a) (n4b.ext X4a) q3f (.ok r1c) h9d) ?_
  rintro _ w6 E2a rfl
  refine nrm ?_
  have X2c:=xtr X4a E2a
  refine wh h2h<|wp_seq_k fun _ h5h=>Af<|sV (Aa rfl) ?_
  rcases AF f4h with ⟨r3c,h0e,f6h⟩ | ⟨r3c,h0e,rfl⟩
  ·refine scO (Ad Ip (by rfl)) (Dj x2 w6 (tbx X2c hT)  (.ok r3c) h0e) ?_
   rintro _ w7 E5a rfl
   refine nrm ?_
   have X7h:=xtr X2c E5a
   refine wh h5h<|wp_seq_k fun _ h8h=>DK [7,8] 9 mo rfl fun w8 E1b S1e=>?_
   have X4c:=xtr X7h E1b
   refine dA 0 rfl (fun _=>Aa rfl) ?_ (hQ:=fun _ _ _ h=>dq (rs:=[.cell 8 29,.cell 9 33]) rfl (by decide) h)
   refine dV 1 rfl (fun _ hw=>Am AI rfl (((((q1f.ext E3a).ext E2a).ext E5a).ext E1b).ext hw) rfl) S1e ?_ (hQ:=fun _ _ _ h=>dq (rs:=[.cell 8 29,.cell 9 33]) rfl (by decide) h)
   refine dV 3 rfl (fun _ hw=>Am AI rfl (((((((q7e.ext E6b).ext E0b).ext E3a).ext E2a).ext E5a).ext E1b).ext hw) rfl) S1e ?_ (hQ:=fun _ _ _ h=>dq (rs:=[.cell 8 29,.cell 9 33]) rfl (by decide) h)
   refine dA 5 rfl (fun _=>Aa rfl) ?_ (hQ:=fun _ _ _ h=>dq (rs:=[.cell 8 29,.cell 9 33]) rfl (by decide) h)
   obtain ⟨m4f,h9h,f0i⟩:=Ac f6h
   have hx5f:=AU h9h
   have n1i:RU w8 A1 c2 m4f:=by unfold RU;rw [hx5f];exact (n3.ext X4c)
   obtain ⟨m6f,h2i,f3i⟩:=Ac f0i
   have hx7f:=AU h2i
   have n4i:RU w8 A4 c5 m6f:=by unfold RU;rw [hx7f];exact (n6.ext X4c)
   obtain ⟨r0a,h5i,f6i⟩:=Ac f3i
   refine dc 2 rfl (by kernel_rfl) (by rfl) (Ad IY (by simp only [sz,hx5f,hx7f];rfl)) (CN (⟨(⟨(⟨x0.Lo.Man.Neg,m4f⟩:Ae),x0.Lo.Exp⟩:Ag),(⟨(⟨x0.Hi.Man.Neg,m6f⟩:Ae),x0.Hi.Exp⟩:Ag)⟩:Al) A1 c2 A4 c5 w8 (tbx X4c hT) n1i n4i r0a h5i) ?_
   rintro _ w9 E2b ⟨A5c,c6c,A7c,c8c,rfl,n8f,n9f⟩
   refine dnrm ?_
   have X9c:=xtr X4c E2b
   have S7i:=S1e.trans E2b
   obtain ⟨m0g,h8i,f9i⟩:=Ac f6i
   have hx1g:=AU h8i
   have n0j:RU w9 A7 c8 m0g:=by unfold RU;rw [hx1g];exact (n9.ext X9c)
   obtain ⟨m2g,h1j,f2j⟩:=Ac f9i
   have hx3g:=AU h1j
   have n3j:RU w9 A6a c8a m2g:=by unfold RU;rw [hx3g];exact (n4b.ext X9c)
   obtain ⟨r1a,h4j,f5j⟩:=Ac f2j
   refine dc 4 rfl (by kernel_rfl) (by rfl) (Ad IY (by simp only [sz,hx1g,hx3g];rfl)) (CN (⟨(⟨(⟨x1.Lo.Man.Neg,m0g⟩:Ae),x1.Lo.Exp⟩:Ag),(⟨(⟨x1.Hi.Man.Neg,m2g⟩:Ae),x1.Hi.Exp⟩:Ag)⟩:Al) A7 c8 A6a c8a w9 (tbx X9c hT) n0j n3j r1a h4j) ?_
   rintro _ w6a E7a ⟨A0d,c1d,A2d,c3d,rfl,n4g,n5g⟩
   refine dnrm ?_
   have X4d:=xtr X9c E7a
   have S6j:=S7i.trans E7a
   rcases AF f5j with ⟨r5d,h2e,f7j⟩ | ⟨r5d,h2e,rfl⟩
   ·refine dcO 6 rfl (by kernel_rfl) (by rfl) (Ee (first:=[]) (cap:=[]) (args:=[.agg #[.bool r0a.lo.m.Neg,.slice A5c (sz r0a.lo.m.Abs) c6c,.int .i64 r0a.lo.e,.bool r0a.hi.m.Neg,.slice A7c (sz r0a.hi.m.Abs) c8c,.int .i64 r0a.hi.e],.agg #[.bool r1a.lo.m.Neg,.slice A0d (sz r1a.lo.m.Abs) c1d,.int .i64 r1a.lo.e,.bool r1a.hi.m.Neg,.slice A2d (sz r1a.hi.m.Abs) c3d,.int .i64 r1a.hi.e],.int .i64 x2]) QI (by rfl) (by rfl)) (Md r0a r1a x2 A5c c6c A7c c8c A0d c1d A2d c3d w6a (tbx X4d hT) (n8f.ext E7a) (n9f.ext E7a) n4g n5g (.ok r5d) h2e) ?_
    rintro _ w8a E9a ⟨A8j,c9j,A0k,c1k,rfl,n2k,n3k⟩
    refine dnrm ?_
    have X4k:=xtr X4d E9a
    have S4m:=S6j.trans E9a
    have q6d:=(((((((q7b.ext E0b).ext E3a).ext E2a).ext E5a).ext E1b).ext E2b).ext E7a).ext E9a
    refine dkk 7 Bp q6d fun w4b U7d q5k=>?_
    have X6k:=belU X4k U7d g8b
    have ne6g:=(Bx.neT (((((((q3b.ext E3a).ext E2a).ext E5a).ext E1b).ext E2b).ext E7a).ext E9a) q6d (by decide))
    have q3e:=(((((((q3b.ext E3a).ext E2a).ext E5a).ext E1b).ext E2b).ext E7a).ext E9a).upd U7d ne6g
    refine dkk 8 GW q3e fun w4e U8d q7k=>?_
    have X8k:=belU X6k U8d g0c
    refine CE (by kernel_rfl) ?_
    refine h8h _ _<|wp_ret ?_
    have n9k:=(n2k.upd U7d q6d (by decide)).upd U8d q3e (by decide)
    have n0l:=(n3k.upd U7d q6d (by decide)).upd U8d q3e (by decide)
    obtain rfl:=sj f7j
    obtain rfl:=sj hr0
    exact Mj Dl ER rfl (Res.cellN rfl AI (q5k.upd U8d (Ne.symm ne6g)) rfl rfl (Res.cell1 rfl BW (Bx.cell q7k rfl) Res.nil)) (Av X8k ⟨A8j,c9j,A0k,c1k,rfl,n9k,n0l⟩)
   ·refine dcP 6 rfl (by kernel_rfl) (by rfl) (Ee (first:=[]) (cap:=[]) (args:=[.agg #[.bool r0a.lo.m.Neg,.slice A5c (sz r0a.lo.m.Abs) c6c,.int .i64 r0a.lo.e,.bool r0a.hi.m.Neg,.slice A7c (sz r0a.hi.m.Abs) c8c,.int .i64 r0a.hi.e],.agg #[.bool r1a.lo.m.Neg,.slice A0d (sz r1a.lo.m.Abs) c1d,.int .i64 r1a.lo.e,.bool r1a.hi.m.Neg,.slice A2d (sz r1a.hi.m.Abs) c3d,.int .i64 r1a.hi.e],.int .i64 x2]) QI (by rfl) (by rfl)) (Md r0a r1a x2 A5c c6c A7c c8c A0d c1d A2d c3d w6a (tbx X4d hT) (n8f.ext E7a) (n9f.ext E7a) n4g n5g (.error r5d) h2e) fun w8a E9a=>?_
    have X1l:=xtr X4d E9a
    have q2l:=(((((((q7b.ext E0b).ext E3a).ext E2a).ext E5a).ext E1b).ext E2b).ext E7a).ext E9a
    have q3l:=((((((q3b.ext E3a).ext E2a).ext E5a).ext E1b).ext E2b).ext E7a).ext E9a
    refine Ir ER (AL b5b b9b (.bool false:Value) (.slice none 0 0:Value) (.int .i64 0:Value) (.bool false:Value) (.slice none 0 0:Value) (.int .i64 0:Value) (.int .i64 0:Value) r5d q2l q3l) rfl ?_
    rintro w9 ⟨u9,q9,q9'⟩
    obtain rfl:=sj hr0
    exact ⟨_,(Res.cellN rfl AI q9 rfl rfl (Res.cell1 rfl BW (Bx.cell q9' rfl) Res.nil)),Av (u9.toExt X1l g8b g0c) ⟨none,0,none,0,rfl,RU.nil _,RU.nil _⟩⟩
  ·refine scP (Ad Ip (by rfl)) (Dj x2 w6 (tbx X2c hT)  (.error r3c) h0e) fun w7 E5a=>?_
   have X4l:=xtr X2c E5a
   have q5l:=(((q7b.ext E0b).ext E3a).ext E2a).ext E5a
   have q6l:=((q3b.ext E3a).ext E2a).ext E5a
   refine Ir ER (AL b5b b9b (.bool false:Value) (.slice none 0 0:Value) (.int .i64 0:Value) (.bool false:Value) (.slice none 0 0:Value) (.int .i64 0:Value) (.int .i64 0:Value) r3c q5l q6l) rfl ?_
   rintro w9 ⟨u9,q9,q9'⟩
   obtain rfl:=sj hr0
   exact ⟨_,(Res.cellN rfl AI q9 rfl rfl (Res.cell1 rfl BW (Bx.cell q9' rfl) Res.nil)),Av (u9.toExt X4l g8b g0c) ⟨none,0,none,0,rfl,RU.nil _,RU.nil _⟩⟩
 ·refine scP (Ad It (by rfl)) (BP x0 x1 b2f A1 c2 A4 c5 A7 c8 A6a c8a w5 (tbx X4a hT) (n3.ext X4a) (n6.ext X4a) (n9.ext X4a) (n4b.ext X4a) q3f (.error r1c) h9d) fun w6 E2a=>?_
  have X7l:=xtr X4a E2a
  have q8l:=((q7b.ext E0b).ext E3a).ext E2a
  refine Ir ER (AL b5b b9b (.bool false:Value) (.slice none 0 0:Value) (.int .i64 0:Value) (.bool false:Value) (.slice none 0 0:Value) (.int .i64 0:Value) (.int .i64 0:Value) r1c q8l ((q3b.ext E3a).ext E2a)) rfl ?_
  rintro w9 ⟨u9,q9,q9'⟩
  obtain rfl:=sj hr0
  exact ⟨_,(Res.cellN rfl AI q9 rfl rfl (Res.cell1 rfl BW (Bx.cell q9' rfl) Res.nil)),Av (u9.toExt X7l g8b g0c) ⟨none,0,none,0,rfl,RU.nil _,RU.nil _⟩⟩
theorem IH (x0:Ao) (x1:Ao) (x2:Int) (A1:Option Addr) (c2:Nat) (A4:Option Addr) (c5:Nat) (A7:Option Addr) (c8:Nat) (A2a:Option Addr) (c3a:Nat) (w:World) (hT:TB w) (n3:RLu w A1 c2 x0.Lo.Man.Abs) (n6:RLu w A4 c5 x0.Hi.Man.Abs) (n9:RLu w A7 c8 x1.Lo.Man.Abs) (n0b:RLu w A2a c3a x1.Hi.Man.Abs) (r:Al × Int) (hr:Gw x0 x1 x2=some r) :
  Calls Tryz.prog 30 #[.agg #[.bool x0.Lo.Man.Neg,.slice A1 x0.Lo.Man.Abs.length c2,.int .i64 x0.Lo.Exp,.bool x0.Hi.Man.Neg,.slice A4 x0.Hi.Man.Abs.length c5,.int .i64 x0.Hi.Exp],.agg #[.bool x1.Lo.Man.Neg,.slice A7 x1.Lo.Man.Abs.length c8,.int .i64 x1.Lo.Exp,.bool x1.Hi.Man.Neg,.slice A2a x1.Hi.Man.Abs.length c3a,.int .i64 x1.Hi.Exp],.int .i64 x2] w (Ret FC w r):=by
 unfold Gw at hr
 go_enter Tryz.func30,Tryz.ntmps30
 refine wp_seq_k fun _ h1b=>Af<|Bm rfl rfl fun b2d w1 E7a g3d q2b=>?_
 refine nrm ?_
 refine Bm rfl rfl fun b4d w2 E8a g3b q4b=>?_
 refine nrm ?_
 have g5d:=nlt E7a.size g3b
 have X9a:=xtr E7a E8a
 refine Ax Cv fun b6d w3 E4a g5b q5a=>?_
 refine nrm ?_
 have g6b:=nlt X9a.size g5b
 have X0a:=xtr X9a E4a
 refine sV (Ab rfl) ?_
 refine wh h1b<|wp_seq_k fun _ h7b=>Af<|sV3 (Am AI rfl ((q2b.ext E8a).ext E4a) rfl) (Am AI rfl (q4b.ext E4a) rfl) (Aa rfl) ?_
 obtain ⟨r8b,h9b,f0c⟩:=Ac hr
 refine sc (Ad Mk (by rfl)) (c_dyad_made_Span__dyad_Plus_1 x0 x1 x2 A1 c2 A4 c5 A7 c8 A2a c3a w3 (tbx X0a hT) (n3.ext X0a) (n6.ext X0a) (n9.ext X0a) (n0b.ext X0a) r8b h9b) ?_
 rintro _ w4 E1a ⟨A1c,c2c,A3c,c4c,rfl,n5c,n6c⟩
 refine nrm ?_
 have X7c:=xtr X0a E1a
 refine sV2 (Aj rfl rfl) (Aj rfl rfl) ?_
 refine ss Bp (q5a.ext E1a) fun w5 U6a q8c=>?_
 have X9c:=belU X7c U6a g6b
 refine sV (Ab rfl) ?_
 refine wh h7b<|wp_ret ?_
 have n0d:=n5c.upd U6a (q5a.ext E1a) (by decide)
 have n1d:=n6c.upd U6a (q5a.ext E1a) (by decide)
 exact CV f0c rfl (Res.cellN rfl AI q8c rfl rfl (Res.tmp rfl Res.nil)) (Av X9c ⟨A1c,c2c,A3c,c4c,rfl,n0d,n1d⟩)
theorem Lq (x0:Ap) (x1:Ap) (x2:Int) (A1:Option Addr) (c2:Nat) (A4:Option Addr) (c5:Nat) (A7:Option Addr) (c8:Nat) (A8a:Option Addr) (c4b:Nat) (w:World) (hT:TB w) (n3:RU w A1 c2 x0.lo.m.Abs) (n6:RU w A4 c5 x0.hi.m.Abs) (n9:RU w A7 c8 x1.lo.m.Abs) (n2d:RU w A8a c4b x1.hi.m.Abs) (r:Except Int (Al)) (hr:Gd x0 x1 x2=some r) :
  Calls Tryz.prog 114 #[.agg #[.bool x0.lo.m.Neg,.slice A1 (sz x0.lo.m.Abs) c2,.int .i64 x0.lo.e,.bool x0.hi.m.Neg,.slice A4 (sz x0.hi.m.Abs) c5,.int .i64 x0.hi.e],.agg #[.bool x1.lo.m.Neg,.slice A7 (sz x1.lo.m.Abs) c8,.int .i64 x1.lo.e,.bool x1.hi.m.Neg,.slice A8a (sz x1.hi.m.Abs) c4b,.int .i64 x1.hi.e],.int .i64 x2] w (RetE 201 KA w r):=by
 unfold Gd at hr
 go_enter Tryz.func114,Tryz.ntmps114
 refine wp_seq_k fun _ h3d=>Af<|Bm rfl rfl fun b7g w1 E6c g8g q7c=>?_
 refine nrm ?_
 refine Bm rfl rfl fun b9g w2 E5b g4d q8c=>?_
 refine nrm ?_
 have g0h:=nlt E6c.size g4d
 have X9c:=xtr E6c E5b
 refine Ax Cv fun b1h w3 E3a g5d q6d=>?_
 refine nrm ?_
 have g7d:=nlt X9c.size g5d
 have X8d:=xtr X9c E3a
 refine wh h3d<|wp_seq_k fun _ h9d=>DK [16] 17 mo rfl fun w4 E2a S4a=>have X6b:=xtr X8d E2a;dA 0 rfl (fun _=>Ah (o':=0) Cl rfl rfl) ?_
 refine dV 1 rfl (fun _ hw=>dld Aw ((((q7c.ext E5b).ext E3a).ext E2a).ext hw)) S4a ?_
 refine dA 2 rfl (fun _=>Ah (o':=3) Cw rfl rfl) ?_
 refine dV 3 rfl (fun _ hw=>dld Aw (((q8c.ext E3a).ext E2a).ext hw)) S4a ?_
 refine dA 5 rfl (fun _=>Aa rfl) ?_
 refine dA 7 rfl (fun _=>Ah (o':=3) Cw rfl rfl) ?_
 refine dV 8 rfl (fun _ hw=>dld Aw ((((q7c.ext E5b).ext E3a).ext E2a).ext hw)) S4a ?_
 refine dA 9 rfl (fun _=>Ah (o':=0) Cl rfl rfl) ?_
 refine dV 10 rfl (fun _ hw=>dld Aw (((q8c.ext E3a).ext E2a).ext hw)) S4a ?_
 refine dA 12 rfl (fun _=>Aa rfl) ?_
 refine dcn hr 4 rfl (by rfl) (Ad PP (by rfl)) (Jp x1.hi A8a c4b w4 (tbx X6b hT) (n2d.ext X6b)) fun r0e f1e w5 A2e c3e E7b n4e=>?_
 have X8b:=xtr X6b E7b
 have S5e:=S4a.trans E7b
 refine dcn f1e 6 rfl (by rfl) (Ad OB (by rfl)) (KS x0.lo r0e x2 5 A1 c2 A2e c3e w5 (tbx X8b hT) (n3.ext X8b) n4e) fun r0a f6e w6 A9a c0b E9b n0d=>?_
 have X0c:=xtr X8b E9b
 have S7e:=S5e.trans E9b
 refine dcn f6e 11 rfl (by rfl) (Ad PP (by rfl)) (Jp x1.lo A7 c8 w6 (tbx X0c hT) (n9.ext X0c)) fun r8e f9e w7 A0f c1f E5a n2f=>?_
 have X1c:=xtr X0c E5a
 have S3f:=S7e.trans E5a
 refine dcn f9e 13 rfl (by rfl) (Ad OB (by rfl)) (KS x0.hi r8e x2 4 A4 c5 A0f c1f w7 (tbx X1c hT) (n6.ext X1c) n2f) fun r1a f4f w8 A1b c2b E6a n1d=>?_
 have X3b:=xtr X1c E6a
 have S5f:=S3f.trans E6a
 refine dA 14 rfl (fun _=>Bb (vals:=[(0,.agg #[.bool r0a.m.Neg,.slice A9a (sz r0a.m.Abs) c0b,.int .i64 r0a.e]),(1,.agg #[.bool r1a.m.Neg,.slice A1b (sz r1a.m.Abs) c2b,.int .i64 r1a.e])]) (cells:=[.bool r0a.m.Neg,.slice A9a (sz r0a.m.Abs) c0b,.int .i64 r0a.e,.bool r1a.m.Neg,.slice A1b (sz r1a.m.Abs) c2b,.int .i64 r1a.e]) (by rfl) (by kernel_rfl)) ?_
 rcases AF f4f with ⟨r2c,h3c,f6f⟩ | ⟨r2c,h3c,rfl⟩
 ·refine dcO 15 rfl (by kernel_rfl) (by rfl) (Ad IZ (by rfl)) (BX (⟨r0a,r1a⟩:Ap) A9a c0b A1b c2b w8 (tbx X3b hT) ((n0d.ext E5a).ext E6a) n1d (.ok r2c) h3c) ?_
  rintro _ w9 E7a ⟨A7f,c8f,A9f,c0g,rfl,n1g,n2g⟩
  refine dnrm ?_
  have X3g:=xtr X3b E7a
  have S2h:=S5f.trans E7a
  have q4c:=(((((q6d.ext E2a).ext E7b).ext E9b).ext E5a).ext E6a).ext E7a
  refine dkk 16 Bp q4c fun w8a U5c q4g=>?_
  have X5g:=belU X3g U5c g7d
  refine CE (by kernel_rfl) ?_
  refine h9d _ _<|wp_ret ?_
  exact CV f6f rfl (Res.cellN rfl AI q4g rfl rfl Res.nil) (DC X5g ⟨A7f,c8f,A9f,c0g,rfl,(n1g.upd U5c q4c (by decide)),(n2g.upd U5c q4c (by decide))⟩)
 ·refine dcP 15 rfl (by kernel_rfl) (by rfl) (Ad IZ (by rfl)) (BX (⟨r0a,r1a⟩:Ap) A9a c0b A1b c2b w8 (tbx X3b hT) ((n0d.ext E5a).ext E6a) n1d (.error r2c) h3c) fun w9 E7a=>?_
  have X6g:=xtr X3b E7a
  exact ⟨rfl,BK X6g⟩
theorem c_dyad_made_Span__dyad_Minus_1 (x0:Ao) (x1:Ao) (x2:Int) (A1:Option Addr) (c2:Nat) (A4:Option Addr) (c5:Nat) (A7:Option Addr) (c8:Nat) (A6a:Option Addr) (c8a:Nat) (w:World) (hT:TB w) (n3:RLu w A1 c2 x0.Lo.Man.Abs) (n6:RLu w A4 c5 x0.Hi.Man.Abs) (n9:RLu w A7 c8 x1.Lo.Man.Abs) (n4b:RLu w A6a c8a x1.Hi.Man.Abs) (r:Al × Int) (hr:CK x0 x1 x2=some r) :
  Calls Tryz.prog 100 #[.agg #[.bool x0.Lo.Man.Neg,.slice A1 x0.Lo.Man.Abs.length c2,.int .i64 x0.Lo.Exp,.bool x0.Hi.Man.Neg,.slice A4 x0.Hi.Man.Abs.length c5,.int .i64 x0.Hi.Exp],.agg #[.bool x1.Lo.Man.Neg,.slice A7 x1.Lo.Man.Abs.length c8,.int .i64 x1.Lo.Exp,.bool x1.Hi.Man.Neg,.slice A6a x1.Hi.Man.Abs.length c8a,.int .i64 x1.Hi.Exp],.int .i64 x2,.func (.func 114) #[] #[]] w (Ret FC w r):=by
 unfold CK at hr
 obtain ⟨q0,hq0,hr0⟩:=Ac hr
 unfold Ds at hq0
 go_enter_defers Tryz.func100,Tryz.ntmps100
 refine wp_seq_k fun _ h4e=>Af<|Bm rfl rfl fun b9l w1 E5e g0m q7g=>?_
 refine nrm ?_
 refine Bm rfl rfl fun b1m w2 E6e g8g q7e=>?_
 refine nrm ?_
 have g2m:=nlt E5e.size g8g
 have X8e:=xtr E5e E6e
 refine Ax Cv fun b5b w3 E6b g9g q7b=>?_
 refine nrm ?_
 have g8b:=nlt X8e.size g9g
 have X9e:=xtr X8e E6b
 refine Ax Jk fun b9b w4 E0b g0h q3b=>?_
 refine nrm ?_
 have g0c:=nlt X9e.size g0h
 have X0f:=xtr X9e E0b
 refine wh h4e<|wp_seq_k fun _ h1h=>Af<|Hw (vs:=[.pointer (some ⟨b5b,0,none⟩),.pointer (some ⟨b9b,0,none⟩)]) (by rfl) (by rfl)<|wh h1h<|wp_seq_k fun _ h2h=>Af<|have q1f:=((q7g.ext E6e).ext E6b).ext E0b;sV2 (Am AI rfl q1f rfl) (Am AI rfl ((q7e.ext E6b).ext E0b) rfl) ?_
 refine CI (vals:=[(0,.agg #[.bool x0.Lo.Man.Neg,.slice A1 x0.Lo.Man.Abs.length c2,.int .i64 x0.Lo.Exp,.bool x0.Hi.Man.Neg,.slice A4 x0.Hi.Man.Abs.length c5,.int .i64 x0.Hi.Exp]),(1,.agg #[.bool x1.Lo.Man.Neg,.slice A7 x1.Lo.Man.Abs.length c8,.int .i64 x1.Lo.Exp,.bool x1.Hi.Man.Neg,.slice A6a x1.Hi.Man.Abs.length c8a,.int .i64 x1.Hi.Exp])]) (cs:=[.bool x0.Lo.Man.Neg,.slice A1 x0.Lo.Man.Abs.length c2,.int .i64 x0.Lo.Exp,.bool x0.Hi.Man.Neg,.slice A4 x0.Hi.Man.Abs.length c5,.int .i64 x0.Hi.Exp,.bool x1.Lo.Man.Neg,.slice A7 x1.Lo.Man.Abs.length c8,.int .i64 x1.Lo.Exp,.bool x1.Hi.Man.Neg,.slice A6a x1.Hi.Man.Abs.length c8a,.int .i64 x1.Hi.Exp]) Jn Bp Cv (by rfl) (by decide) (by kernel_rfl) fun b2f w5 E3a g3h q3f=>?_
 refine nrm ?_
 have g3m:=nlt X0f.size g3h
 have X4a:=xtr X0f E3a
 rcases AF hq0 with ⟨r1c,h9d,f4h⟩ | ⟨r1c,h9d,rfl⟩
 ·refine scO (Ad It (by rfl)) (BP x0 x1 b2f A1 c2 A4 c5 A7 c8 A6a c8a w5 (tbx X4a hT) (n3.ext X4a) (n6.ext X4a) (n9.ext X4a) (n4b.ext X4a) q3f (.ok r1c) h9d) ?_
  rintro _ w6 E2a rfl
  refine nrm ?_
  have X2c:=xtr X4a E2a
  refine wh h2h<|wp_seq_k fun _ h5h=>Af<|sV (Aa rfl) ?_
  rcases AF f4h with ⟨r3c,h0e,f6h⟩ | ⟨r3c,h0e,rfl⟩
  ·refine scO (Ad Ip (by rfl)) (Dj x2 w6 (tbx X2c hT)  (.ok r3c) h0e) ?_
   rintro _ w7 E5a rfl
   refine nrm ?_
   have X7h:=xtr X2c E5a
   refine wh h5h<|wp_seq_k fun _ h8h=>DK [7,8] 9 mo rfl fun w8 E1b S1e=>?_
   have X4c:=xtr X7h E1b
   refine dA 0 rfl (fun _=>Aa rfl) ?_ (hQ:=fun _ _ _ h=>dq (rs:=[.cell 8 29,.cell 9 33]) rfl (by decide) h)
   refine dV 1 rfl (fun _ hw=>Am AI rfl (((((q1f.ext E3a).ext E2a).ext E5a).ext E1b).ext hw) rfl) S1e ?_ (hQ:=fun _ _ _ h=>dq (rs:=[.cell 8 29,.cell 9 33]) rfl (by decide) h)
   refine dV 3 rfl (fun _ hw=>Am AI rfl (((((((q7e.ext E6b).ext E0b).ext E3a).ext E2a).ext E5a).ext E1b).ext hw) rfl) S1e ?_ (hQ:=fun _ _ _ h=>dq (rs:=[.cell 8 29,.cell 9 33]) rfl (by decide) h)
   refine dA 5 rfl (fun _=>Aa rfl) ?_ (hQ:=fun _ _ _ h=>dq (rs:=[.cell 8 29,.cell 9 33]) rfl (by decide) h)
   obtain ⟨m4f,h9h,f0i⟩:=Ac f6h
   have hx5f:=AU h9h
   have n1i:RU w8 A1 c2 m4f:=by unfold RU;rw [hx5f];exact (n3.ext X4c)
   obtain ⟨m6f,h2i,f3i⟩:=Ac f0i
   have hx7f:=AU h2i
   have n4i:RU w8 A4 c5 m6f:=by unfold RU;rw [hx7f];exact (n6.ext X4c)
   obtain ⟨r0a,h5i,f6i⟩:=Ac f3i
   refine dc 2 rfl (by kernel_rfl) (by rfl) (Ad IY (by simp only [sz,hx5f,hx7f];rfl)) (CN (⟨(⟨(⟨x0.Lo.Man.Neg,m4f⟩:Ae),x0.Lo.Exp⟩:Ag),(⟨(⟨x0.Hi.Man.Neg,m6f⟩:Ae),x0.Hi.Exp⟩:Ag)⟩:Al) A1 c2 A4 c5 w8 (tbx X4c hT) n1i n4i r0a h5i) ?_
   rintro _ w9 E2b ⟨A5c,c6c,A7c,c8c,rfl,n8f,n9f⟩
   refine dnrm ?_
   have X9c:=xtr X4c E2b
   have S7i:=S1e.trans E2b
   obtain ⟨m0g,h8i,f9i⟩:=Ac f6i
   have hx1g:=AU h8i
   have n0j:RU w9 A7 c8 m0g:=by unfold RU;rw [hx1g];exact (n9.ext X9c)
   obtain ⟨m2g,h1j,f2j⟩:=Ac f9i
   have hx3g:=AU h1j
   have n3j:RU w9 A6a c8a m2g:=by unfold RU;rw [hx3g];exact (n4b.ext X9c)
   obtain ⟨r1a,h4j,f5j⟩:=Ac f2j
   refine dc 4 rfl (by kernel_rfl) (by rfl) (Ad IY (by simp only [sz,hx1g,hx3g];rfl)) (CN (⟨(⟨(⟨x1.Lo.Man.Neg,m0g⟩:Ae),x1.Lo.Exp⟩:Ag),(⟨(⟨x1.Hi.Man.Neg,m2g⟩:Ae),x1.Hi.Exp⟩:Ag)⟩:Al) A7 c8 A6a c8a w9 (tbx X9c hT) n0j n3j r1a h4j) ?_
   rintro _ w6a E7a ⟨A0d,c1d,A2d,c3d,rfl,n4g,n5g⟩
   refine dnrm ?_
   have X4d:=xtr X9c E7a
   have S6j:=S7i.trans E7a
   rcases AF f5j with ⟨r5d,h2e,f7j⟩ | ⟨r5d,h2e,rfl⟩
   ·refine dcO 6 rfl (by kernel_rfl) (by rfl) (Ee (first:=[]) (cap:=[]) (args:=[.agg #[.bool r0a.lo.m.Neg,.slice A5c (sz r0a.lo.m.Abs) c6c,.int .i64 r0a.lo.e,.bool r0a.hi.m.Neg,.slice A7c (sz r0a.hi.m.Abs) c8c,.int .i64 r0a.hi.e],.agg #[.bool r1a.lo.m.Neg,.slice A0d (sz r1a.lo.m.Abs) c1d,.int .i64 r1a.lo.e,.bool r1a.hi.m.Neg,.slice A2d (sz r1a.hi.m.Abs) c3d,.int .i64 r1a.hi.e],.int .i64 x2]) Ra (by rfl) (by rfl)) (Lq r0a r1a x2 A5c c6c A7c c8c A0d c1d A2d c3d w6a (tbx X4d hT) (n8f.ext E7a) (n9f.ext E7a) n4g n5g (.ok r5d) h2e) ?_
    rintro _ w8a E9a ⟨A8j,c9j,A0k,c1k,rfl,n2k,n3k⟩
    refine dnrm ?_
    have X4k:=xtr X4d E9a
    have S4m:=S6j.trans E9a
    have q6d:=(((((((q7b.ext E0b).ext E3a).ext E2a).ext E5a).ext E1b).ext E2b).ext E7a).ext E9a
    refine dkk 7 Bp q6d fun w4b U7d q5k=>?_
    have X6k:=belU X4k U7d g8b
    have ne6g:=(Bx.neT (((((((q3b.ext E3a).ext E2a).ext E5a).ext E1b).ext E2b).ext E7a).ext E9a) q6d (by decide))
    have q3e:=(((((((q3b.ext E3a).ext E2a).ext E5a).ext E1b).ext E2b).ext E7a).ext E9a).upd U7d ne6g
    refine dkk 8 GW q3e fun w4e U8d q7k=>?_
    have X8k:=belU X6k U8d g0c
    refine CE (by kernel_rfl) ?_
    refine h8h _ _<|wp_ret ?_
    have n9k:=(n2k.upd U7d q6d (by decide)).upd U8d q3e (by decide)
    have n0l:=(n3k.upd U7d q6d (by decide)).upd U8d q3e (by decide)
    obtain rfl:=sj f7j
    obtain rfl:=sj hr0
    exact Mj Dl ER rfl (Res.cellN rfl AI (q5k.upd U8d (Ne.symm ne6g)) rfl rfl (Res.cell1 rfl BW (Bx.cell q7k rfl) Res.nil)) (Av X8k ⟨A8j,c9j,A0k,c1k,rfl,n9k,n0l⟩)
   ·refine dcP 6 rfl (by kernel_rfl) (by rfl) (Ee (first:=[]) (cap:=[]) (args:=[.agg #[.bool r0a.lo.m.Neg,.slice A5c (sz r0a.lo.m.Abs) c6c,.int .i64 r0a.lo.e,.bool r0a.hi.m.Neg,.slice A7c (sz r0a.hi.m.Abs) c8c,.int .i64 r0a.hi.e],.agg #[.bool r1a.lo.m.Neg,.slice A0d (sz r1a.lo.m.Abs) c1d,.int .i64 r1a.lo.e,.bool r1a.hi.m.Neg,.slice A2d (sz r1a.hi.m.Abs) c3d,.int .i64 r1a.hi.e],.int .i64 x2]) Ra (by rfl) (by rfl)) (Lq r0a r1a x2 A5c c6c A7c c8c A0d c1d A2d c3d w6a (tbx X4d hT) (n8f.ext E7a) (n9f.ext E7a) n4g n5g (.error r5d) h2e) fun w8a E9a=>?_
    have X1l:=xtr X4d E9a
    have q2l:=(((((((q7b.ext E0b).ext E3a).ext E2a).ext E5a).ext E1b).ext E2b).ext E7a).ext E9a
    have q3l:=((((((q3b.ext E3a).ext E2a).ext E5a).ext E1b).ext E2b).ext E7a).ext E9a
    refine Ir ER (AL b5b b9b (.bool false:Value) (.slice none 0 0:Value) (.int .i64 0:Value) (.bool false:Value) (.slice none 0 0:Value) (.int .i64 0:Value) (.int .i64 0:Value) r5d q2l q3l) rfl ?_
    rintro w9 ⟨u9,q9,q9'⟩
    obtain rfl:=sj hr0
    exact ⟨_,(Res.cellN rfl AI q9 rfl rfl (Res.cell1 rfl BW (Bx.cell q9' rfl) Res.nil)),Av (u9.toExt X1l g8b g0c) ⟨none,0,none,0,rfl,RU.nil _,RU.nil _⟩⟩
  ·refine scP (Ad Ip (by rfl)) (Dj x2 w6 (tbx X2c hT)  (.error r3c) h0e) fun w7 E5a=>?_
   have X4l:=xtr X2c E5a
   have q5l:=(((q7b.ext E0b).ext E3a).ext E2a).ext E5a
   have q6l:=((q3b.ext E3a).ext E2a).ext E5a
   refine Ir ER (AL b5b b9b (.bool false:Value) (.slice none 0 0:Value) (.int .i64 0:Value) (.bool false:Value) (.slice none 0 0:Value) (.int .i64 0:Value) (.int .i64 0:Value) r3c q5l q6l) rfl ?_
   rintro w9 ⟨u9,q9,q9'⟩
   obtain rfl:=sj hr0
   exact ⟨_,(Res.cellN rfl AI q9 rfl rfl (Res.cell1 rfl BW (Bx.cell q9' rfl) Res.nil)),Av (u9.toExt X4l g8b g0c) ⟨none,0,none,0,rfl,RU.nil _,RU.nil _⟩⟩
 ·refine scP (Ad It (by rfl)) (BP x0 x1 b2f A1 c2 A4 c5 A7 c8 A6a c8a w5 (tbx X4a hT) (n3.ext X4a) (n6.ext X4a) (n9.ext X4a) (n4b.ext X4a) q3f (.error r1c) h9d) fun w6 E2a=>?_
  have X7l:=xtr X4a E2a
  have q8l:=((q7b.ext E0b).ext E3a).ext E2a
  refine Ir ER (AL b5b b9b (.bool false:Value) (.slice none 0 0:Value) (.int .i64 0:Value) (.bool false:Value) (.slice none 0 0:Value) (.int .i64 0:Value) (.int .i64 0:Value) r1c q8l ((q3b.ext E3a).ext E2a)) rfl ?_
  rintro w9 ⟨u9,q9,q9'⟩
  obtain rfl:=sj hr0
  exact ⟨_,(Res.cellN rfl AI q9 rfl rfl (Res.cell1 rfl BW (Bx.cell q9' rfl) Res.nil)),Av (u9.toExt X7l g8b g0c) ⟨none,0,none,0,rfl,RU.nil _,RU.nil _⟩⟩
theorem MH (x0:Ao) (x1:Ao) (x2:Int) (A1:Option Addr) (c2:Nat) (A4:Option Addr) (c5:Nat) (A7:Option Addr) (c8:Nat) (A2a:Option Addr) (c3a:Nat) (w:World) (hT:TB w) (n3:RLu w A1 c2 x0.Lo.Man.Abs) (n6:RLu w A4 c5 x0.Hi.Man.Abs) (n9:RLu w A7 c8 x1.Lo.Man.Abs) (n0b:RLu w A2a c3a x1.Hi.Man.Abs) (r:Al × Int) (hr:GB x0 x1 x2=some r) :
  Calls Tryz.prog 31 #[.agg #[.bool x0.Lo.Man.Neg,.slice A1 x0.Lo.Man.Abs.length c2,.int .i64 x0.Lo.Exp,.bool x0.Hi.Man.Neg,.slice A4 x0.Hi.Man.Abs.length c5,.int .i64 x0.Hi.Exp],.agg #[.bool x1.Lo.Man.Neg,.slice A7 x1.Lo.Man.Abs.length c8,.int .i64 x1.Lo.Exp,.bool x1.Hi.Man.Neg,.slice A2a x1.Hi.Man.Abs.length c3a,.int .i64 x1.Hi.Exp],.int .i64 x2] w (Ret FC w r):=by
 unfold GB at hr
 go_enter Tryz.func31,Tryz.ntmps31
 refine wp_seq_k fun _ h1b=>Af<|Bm rfl rfl fun b2d w1 E7a g3d q2b=>?_
 refine nrm ?_
 refine Bm rfl rfl fun b4d w2 E8a g3b q4b=>?_
 refine nrm ?_
 have g5d:=nlt E7a.size g3b
 have X9a:=xtr E7a E8a
 refine Ax Cv fun b6d w3 E4a g5b q5a=>?_
 refine nrm ?_
 have g6b:=nlt X9a.size g5b
 have X0a:=xtr X9a E4a
 refine sV (Ab rfl) ?_
 refine wh h1b<|wp_seq_k fun _ h7b=>Af<|sV3 (Am AI rfl ((q2b.ext E8a).ext E4a) rfl) (Am AI rfl (q4b.ext E4a) rfl) (Aa rfl) ?_
 obtain ⟨r8b,h9b,f0c⟩:=Ac hr
 refine sc (Ad Mk (by rfl)) (c_dyad_made_Span__dyad_Minus_1 x0 x1 x2 A1 c2 A4 c5 A7 c8 A2a c3a w3 (tbx X0a hT) (n3.ext X0a) (n6.ext X0a) (n9.ext X0a) (n0b.ext X0a) r8b h9b) ?_
 rintro _ w4 E1a ⟨A1c,c2c,A3c,c4c,rfl,n5c,n6c⟩
 refine nrm ?_
 have X7c:=xtr X0a E1a
 refine sV2 (Aj rfl rfl) (Aj rfl rfl) ?_
 refine ss Bp (q5a.ext E1a) fun w5 U6a q8c=>?_
 have X9c:=belU X7c U6a g6b
 refine sV (Ab rfl) ?_
 refine wh h7b<|wp_ret ?_
 have n0d:=n5c.upd U6a (q5a.ext E1a) (by decide)
 have n1d:=n6c.upd U6a (q5a.ext E1a) (by decide)
 exact CV f0c rfl (Res.cellN rfl AI q8c rfl rfl (Res.tmp rfl Res.nil)) (Av X9c ⟨A1c,c2c,A3c,c4c,rfl,n0d,n1d⟩)
theorem Lh (x0_0:Aq) (x0_1:Aq) (bp0:Nat) (A1:Option Addr) (c2:Nat) (A4:Option Addr) (c5:Nat) (w:World) (hT:TB w) (n3:RLu w A1 c2 x0_0.Man.Abs) (n6:RLu w A4 c5 x0_1.Man.Abs) (q7:Bx w bp0 27 [.bool x0_0.Man.Neg,.slice A1 x0_0.Man.Abs.length c2,.int .i64 x0_0.Exp,.bool x0_1.Man.Neg,.slice A4 x0_1.Man.Abs.length c5,.int .i64 x0_1.Exp]) (r:Except Int (Unit)) (hr:Hs x0_0 x0_1=some r) :
  Calls Tryz.prog 120 #[.slice (some ⟨bp0,0,none⟩) 2 2] w (RetE 201 Lc w r):=by
 unfold Hs at hr
 go_enter Tryz.func120,Tryz.ntmps120
 refine wp_seq_k fun _ h8=>Af<|sV3 (Aa rfl) (AG KE rfl) (Aa rfl) ?_
 refine wh h8 ?_
 apply wp_block
 refine Hh<|Bk<|wp_seq_k fun _ h9=>Af<|sV (IN (v:=.bool true) (Cn rfl rfl) (by rfl)) ?_
 refine wh h9<|wp_seq_k fun _ h5b=>wp_cond_true (Ak (evb rfl rfl))<|wp_skip<|h5b _ _<|wp_seq_k fun _ h6b=>?_
 apply wp_block
 refine wp_seq_k fun _ h7b=>Af<|sV (Ht (o':=0) KE FI rfl rfl (by decide) (by decide) (by decide)) ?_
 refine sV (dld BT q7) ?_
 refine Ax Hq fun b1e w1 E8b g9b q0c=>?_
 refine nrm ?_
 refine ss FI q0c fun w2 U1c q2c=>?_
 have F0a:=belU E8b U1c g9b
 refine wh h7b<|Af<|sV (Am BT rfl q2c rfl) ?_
 refine scr hr (Ad NQ (by rfl)) (Ic x0_0 A1 c2 w2 (tbx F0a hT) (n3.ext F0a)) fun r0b f3c w3 E1b=>?_
 have X1a:=xtr F0a E1b
 rcases AF f3c with ⟨r4a,h5a,f4c⟩ | ⟨r4a,h5a,rfl⟩
 ·refine scO (Ad DY (by rfl)) (AZ r0b 1 w3 (tbx X1a hT)  (.ok r4a) h5a) ?_
  rintro _ w4 E2a rfl
  refine nrm ?_
  have X2b:=xtr X1a E2a
  refine wh h6b<|Af<|sV (Bj (c:=1) rfl rfl (by decide)) ?_
  refine sV (Aa rfl) ?_
  refine AK<|Bk<|wp_seq_k fun _ h5c=>Af<|sV (IN (v:=.bool true) (Cn rfl rfl) (by rfl)) ?_
  refine wh h5c<|wp_seq_k fun _ h6c=>wp_cond_true (Ak (evb rfl rfl))<|wp_skip<|h6c _ _<|wp_seq_k fun _ h7c=>?_
  apply wp_block
  refine wp_seq_k fun _ h8c=>Af<|sV (Ht (o':=3) KE FI rfl rfl (by decide) (by decide) (by decide)) ?_
  refine sV (dld BT (((q7.ext F0a).ext E1b).ext E2a)) ?_
  refine Ax Hq fun b2e w5 E9c g3b q0d=>?_
  refine nrm ?_
  have g3e:=nlt X2b.size g3b
  refine ss FI q0d fun w6 U1d q2d=>?_
  have F3d:=belU E9c U1d g3b
  have X6a:=xtr X2b F3d
  refine wh h8c<|Af<|sV (Am BT rfl q2d rfl) ?_
  refine scr f4c (Ad NQ (by rfl)) (Ic x0_1 A4 c5 w6 (tbx X6a hT) (n6.ext X6a)) fun r4b f4d w7 E5d=>?_
  have X3a:=xtr X6a E5d
  rcases AF f4d with ⟨r7a,h8a,f6d⟩ | ⟨r7a,h8a,rfl⟩
  ·refine scO (Ad DY (by rfl)) (AZ r4b 1 w7 (tbx X3a hT)  (.ok r7a) h8a) ?_
   rintro _ w8 E9a rfl
   refine nrm ?_
   have X7d:=xtr X3a E9a
   refine wh h7c<|Af<|sV (Bj (c:=2) rfl rfl (by decide)) ?_
   refine sV (Aa rfl) ?_
   refine AK<|Bk<|wp_seq_k fun _ h8d=>Af<|sV (IN (v:=.bool false) (Cn rfl rfl) (by rfl)) ?_
   refine wh h8d<|wp_seq_k fun _ h4e=>wp_cond_false (Ak (evb rfl rfl))<|wp_exit ?_
   simp only [Exit.then,Exit.inBlock,↓reduceIte,Nat.reduceEqDiff]
   obtain rfl:=sj f6d
   exact Ng rfl Res.nil (DC X7d rfl)
  ·refine scP (Ad DY (by rfl)) (AZ r4b 1 w7 (tbx X3a hT)  (.error r7a) h8a) fun w8 E9a=>?_
   have X9d:=xtr X3a E9a
   exact ⟨rfl,BK X9d⟩
 ·refine scP (Ad DY (by rfl)) (AZ r0b 1 w3 (tbx X1a hT)  (.error r4a) h5a) fun w4 E2a=>?_
  have X0e:=xtr X1a E2a
  exact ⟨rfl,BK X0e⟩
end Go.Proofs

