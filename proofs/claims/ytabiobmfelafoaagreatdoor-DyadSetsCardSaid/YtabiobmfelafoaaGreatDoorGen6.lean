import Derived.Test.YtabiobmfelafoaaGreatDoorGA
namespace Go.Proofs
set_option linter.unusedVariables false
set_option linter.unusedSimpArgs false
set_option maxHeartbeats 4000000
open Go.RowKit Go.Sb Go.Proofs.Sbn
open Go.Proofs.Tryz
theorem c_dyad_made_Span__dyad_Meet_1 (x0:Am) (x1:Am) (x2:Int) (A1:OA) (c2:Nat) (A4:OA) (c5:Nat) (A7:OA) (c8:Nat) (A0a:OA) (c1a:Nat) (w:World) (hT:TB w) (n3:RLu w A1 c2 x0.Lo.Man.Abs) (n6:RLu w A4 c5 x0.Hi.Man.Abs) (n9:RLu w A7 c8 x1.Lo.Man.Abs) (n2a:RLu w A0a c1a x1.Hi.Man.Abs) (r:Aj × Int) (hr:Ee x0 x1 x2=some r) :
  Calls prog 100 #[.agg #[.bool x0.Lo.Man.Neg,.slice A1 x0.Lo.Man.Abs.length c2,.int .i64 x0.Lo.Exp,.bool x0.Hi.Man.Neg,.slice A4 x0.Hi.Man.Abs.length c5,.int .i64 x0.Hi.Exp],.agg #[.bool x1.Lo.Man.Neg,.slice A7 x1.Lo.Man.Abs.length c8,.int .i64 x1.Lo.Exp,.bool x1.Hi.Man.Neg,.slice A0a x1.Hi.Man.Abs.length c1a,.int .i64 x1.Hi.Exp],.int .i64 x2,.func (.func 165) #[] #[]] w (Ret Gh w r):=Nh ET en_165 c_dyad_Meet_1 x0 x1 x2 A1 c2 A4 c5 A7 c8 A0a c1a w hT n3 n6 n9 n2a r hr
theorem c_dyad_Meet (x0:Am) (x1:Am) (A1:OA) (c2:Nat) (A4:OA) (c5:Nat) (A7:OA) (c8:Nat) (A2a:OA) (c3a:Nat) (w:World) (hT:TB w) (n3:RLu w A1 c2 x0.Lo.Man.Abs) (n6:RLu w A4 c5 x0.Hi.Man.Abs) (n9:RLu w A7 c8 x1.Lo.Man.Abs) (n0b:RLu w A2a c3a x1.Hi.Man.Abs) (r:Aj × Int) (hr:FH x0 x1=some r) :
  Calls prog 75 #[.agg #[.bool x0.Lo.Man.Neg,.slice A1 x0.Lo.Man.Abs.length c2,.int .i64 x0.Lo.Exp,.bool x0.Hi.Man.Neg,.slice A4 x0.Hi.Man.Abs.length c5,.int .i64 x0.Hi.Exp],.agg #[.bool x1.Lo.Man.Neg,.slice A7 x1.Lo.Man.Abs.length c8,.int .i64 x1.Lo.Exp,.bool x1.Hi.Man.Neg,.slice A2a x1.Hi.Man.Abs.length c3a,.int .i64 x1.Hi.Exp]] w (Ret Gh w r):=by
 unfold FH at hr
 go_enter func75,ntmps75
 refine ws fun h1b=>Ai<|sbx rfl rfl fun b2d w1 E7a g3d q2b=>?_
 refine sbx rfl rfl fun b4d w2 E8a g3b q4b=>?_
 have g5d:=nlt E7a.size g3b
 have X9a:=xtr E7a E8a
 refine sal Fo fun b6d w3 E4a g5b q5a=>?_
 have g6b:=nlt X9a.size g5b
 have X0a:=xtr X9a E4a
 refine sV (Ab rfl) ?_
 refine nx h1b fun h7b=>sV2 (Ak Bk rfl ((q2b.ext E8a).ext E4a) rfl) (Ak Bk rfl (q4b.ext E4a) rfl) ?_
 obtain ⟨r8b,h9b,f0c⟩:=Ac hr
 refine sc (Ad MV (by rfl)) (c_dyad_made_Span__dyad_Meet_1 x0 x1 1 A1 c2 A4 c5 A7 c8 A2a c3a w3 (tbx X0a hT) (n3.ext X0a) (n6.ext X0a) (n9.ext X0a) (n0b.ext X0a) r8b h9b) ?_
 rintro _ w4 E1a ⟨A1c,c2c,A3c,c4c,rfl,n5c,n6c⟩
 refine nrm ?_
 have X7c:=xtr X0a E1a
 refine sV2 (Aw rfl rfl) (Aw rfl rfl) ?_
 refine ss EM (q5a.ext E1a) fun w5 U6a q8c=>?_
 have X9c:=belU X7c U6a g6b
 refine sV (Ab rfl) ?_
 refine wh h7b<|wp_ret ?_
 have n0d:=n5c.upd U6a (q5a.ext E1a) (by decide)
 have n1d:=n6c.upd U6a (q5a.ext E1a) (by decide)
 exact IJ f0c rfl (Res.cellN rfl Bk q8c rfl rfl (Res.tmp rfl Res.nil)) (Bg X9c ⟨A1c,c2c,A3c,c4c,rfl,n0d,n1d⟩)
theorem JL (b b':Nat) (v0:Value) (u:Value) (n:Int) {w:World} (qa:Bx w b 4 [v0]) (qb:Bx w b' 33 [u]) :
  CallsD prog 166 #[.pointer (some ⟨b,0,none⟩),.pointer (some ⟨b',0,none⟩)] (.panicking [entry 201 n]) w fun e u' w'=>e = .returned (.tuple #[])∧u' = .panicking [{ entry 201 n with recovered:=true }]∧(Upd2 b b' w w'∧Bx w' b 4 [.bool false]∧Bx w' b' 33 [.int .i64 n]):=by
 refine KN func166 rfl [.pointer (some ⟨b,0,none⟩),.pointer (some ⟨b',0,none⟩),uu,uu,uu,uu,uu,uu,uu,uu,uu,uu,uu,uu,uu,uu,uu,uu,uu,uu,uu,uu,uu,uu,uu,uu] (by simp [ntmps166]) fun c₀ cs hu=>?_
 apply wpS_seq
 refine Ry hu rfl ?_
 simp only [S0,S1]
 refine wpS_of_wp<|ws fun h1=>Ai<|sV2 (Aa rfl) (Mb Ml rfl) ?_
 refine wh h1<|ct rfl<|ws fun h2=>Ai<|sV3 (Aa rfl) (Ly Nc rfl) (Aa rfl) ?_
 refine sV2 (Aw rfl rfl) (Aw rfl rfl) ?_
 refine sal NT fun b3 w1 E4 g5 q6=>?_
 have X7:=(Upd2.refl b b' w).ext E4
 refine ss Oi q6 fun w2 U8 q9=>?_
 have X7a:=X7.upd U8 (.inl g5)
 refine sV (Ab rfl) ?_
 refine wh h2<|ws fun h8a=>ws fun h9a=>Ai<|sV2 (Aa rfl) (Mq rfl rfl rfl) ?_
 refine wh h9a<|cf rfl<|wp_skip<|h8a _ _<|ws fun h0b=>Ai<|sV (Ab rfl) ?_
 refine wh h0b<|DD [6,8] 9 mo rfl fun w3 E0a S2c=>have X1b:=X7a.ext E0a;dA 0 rfl (fun _=>Aa rfl) ?_
 refine dA2 1 2 rfl rfl (fun _=>Aa rfl) (fun _=>Aa rfl) ?_
 refine dA2 3 5 rfl rfl (fun _=>Ag (o':=0) LU rfl rfl) (fun _=>BO rfl) ?_
 refine GZ (tb 9 127) 2 (fun l l' w'=>UpdS [b] w3 w'∧Bx w' b 4 [.bool false]∧l'=(l.set 23 (.int .i64 n))) ?_ ?_
 ·intro HJ31
  refine Gv 4 6 (by kernel_rfl) ?_ ?_
  ·refine opV 4 rfl (by rfl) (Ah DQ rfl (Bx.cell (q9.ext E0a) rfl)) (dnrm ?_)
   refine Cp 6 (by kernel_rfl) ?_
   ·have F2b:=belU E4 U8 g5
    refine opK 6 rfl (by decide) (by rfl) Rv rfl rfl ((qa.ext F2b).ext E0a) rfl rfl rfl rfl (by simp only [SP0,SP1,S0,S1,Nat.reduceAdd];rfl) fun w4 U3b q4b=>?_
    exact dls (HJ31 _ _ ⟨((UpdS.refl _ _).upd U3b (.inl im0)),q4b,(by kernel_rfl)⟩)
  ·have F2a:=belU E4 U8 g5
   refine opK 6 rfl (by decide) (by rfl) Rv rfl rfl ((qa.ext F2a).ext E0a) rfl rfl rfl rfl (by simp only [SP0,SP1,S0,S1,Nat.reduceAdd];rfl) fun w4 U3a q5b=>?_
   refine Cp 4 (by kernel_rfl) ?_
   ·have ne6b:=(Bx.neT (q9.ext E0a) ((qa.ext F2a).ext E0a) (by decide))
    refine opV 4 rfl (by rfl) (Ah DQ rfl (Bx.cell ((q9.ext E0a).upd U3a ne6b) rfl)) (dnrm ?_)
    exact dls (HJ31 _ _ ⟨((UpdS.refl _ _).upd U3a (.inl im0)),q5b,(by kernel_rfl)⟩)
 ·rintro _ w4 ⟨U4a,q7b,rfl⟩ _ rfl
  have X8b:=X1b.updS U4a (alc (.inr (.inl rfl)) al0)
  refine dA 7 rfl (fun _=>BO rfl) ?_
  have F1a:=belU E4 U8 g5
  have ne5a:=(Bx.neT ((qb.ext F1a).ext E0a) ((qa.ext F1a).ext E0a) (by decide))
  have q9b:=((qb.ext F1a).ext E0a).updS U4a (nmc ne5a nm0)
  refine dkk 8 Jr q9b fun w5 U6a q0c=>?_
  have X1c:=X8b.upd U6a (.inr (.inr rfl))
  refine CI (by kernel_rfl) ?_
  exact Rz (by kernel_rfl) ⟨rfl,rfl,X1c,(q7b.upd U6a (Ne.symm ne5a)),q0c⟩
theorem IT:Rf prog 166:=by
 intro ar b b' w ha
 subst ha
 refine KN func166 rfl [.pointer (some ⟨b,0,none⟩),.pointer (some ⟨b',0,none⟩),uu,uu,uu,uu,uu,uu,uu,uu,uu,uu,uu,uu,uu,uu,uu,uu,uu,uu,uu,uu,uu,uu,uu,uu] (by simp [ntmps166]) fun c₀ cs hu=>?_
 apply wpS_seq
 refine QF hu rfl ?_
 simp only [S0,S1]
 refine wpS_of_wp<|ws fun h1=>Ai<|sV2 (Aa rfl) (KB Ml rfl) ?_
 refine wh h1<|cf rfl<|wp_skip ?_
 exact QX hu (by kernel_rfl) ⟨rfl,rfl,rfl⟩
theorem EC (x0_0:Am) (bp0:Nat) (A1:OA) (c2:Nat) (A4:OA) (c5:Nat) (w:World) (hT:TB w) (n3:RLu w A1 c2 x0_0.Lo.Man.Abs) (n6:RLu w A4 c5 x0_0.Hi.Man.Abs) (q7:Bx w bp0 29 [.bool x0_0.Lo.Man.Neg,.slice A1 x0_0.Lo.Man.Abs.length c2,.int .i64 x0_0.Lo.Exp,.bool x0_0.Hi.Man.Neg,.slice A4 x0_0.Hi.Man.Abs.length c5,.int .i64 x0_0.Hi.Exp]) (r:Except Int (Unit)) (hr:CT x0_0=some r) :
  Calls prog 162 #[.slice (some ⟨bp0,0,none⟩) 1 1] w (RetE 201 Md w r):=by
 unfold CT at hr
 go_enter func162,ntmps162
 refine ws fun h8=>Ai<|sV3 (Aa rfl) (Az Kq rfl) (Aa rfl) ?_
 refine wh h8 ?_
 apply wp_block
 refine Ip<|AW<|ws fun h9=>Ai<|sV (Ks (v:=.bool true) (Cu rfl rfl) (by rfl)) ?_
 refine wh h9<|ws fun h6a=>ct rfl<|wp_skip<|h6a _ _<|ws fun h7a=>?_
 apply wp_block
 refine ws fun h8a=>Ai<|sV (Jk (o':=0) Kq EM rfl rfl (by decide) (by decide) (by decide)) ?_
 refine sV (Ak Bk rfl q7 rfl) ?_
 refine sal Fo fun b0c w1 E9a g0b q1b=>?_
 refine ss EM q1b fun w2 U2b q3b=>?_
 have F0a:=belU E9a U2b g0b
 refine wh h8a<|Ai<|sV (Ak Bk rfl q3b rfl) ?_
 refine scr hr (Ad PZ (by rfl)) (Ko x0_0 A1 c2 A4 c5 w2 (tbx F0a hT) (n3.ext F0a) (n6.ext F0a)) fun r5a f4b w3 E5b=>?_
 have X1a:=xtr F0a E5b
 rcases BF f4b with ⟨r2a,h3a,f6b⟩ | ⟨r2a,h3a,rfl⟩
 ·refine scO (Ad Er (by rfl)) (Bb r5a 1 w3 (tbx X1a hT)  (.ok r2a) h3a) ?_
  rintro _ w4 E4a rfl
  refine nrm ?_
  have X7b:=xtr X1a E4a
  refine wh h7a<|Ai<|sV (AL (c:=1) rfl rfl (by decide)) ?_
  refine sV (Aa rfl) ?_
  refine AE<|AW<|ws fun h8b=>Ai<|sV (Ks (v:=.bool false) (Cu rfl rfl) (by rfl)) ?_
  refine wh h8b<|ws fun h1c=>cf rfl<|wp_exit ?_
  simp only [Exit.then,Exit.inBlock,↓reduceIte,Nat.reduceEqDiff]
  obtain rfl:=sj f6b
  exact Od rfl Res.nil (GD X7b rfl)
 ·refine scP (Ad Er (by rfl)) (Bb r5a 1 w3 (tbx X1a hT)  (.error r2a) h3a) fun w4 E4a=>?_
  have X9b:=xtr X1a E4a
  exact ⟨rfl,DI X9b⟩
theorem c_dyad_Has (x0:Am) (x1:Et) (A1:OA) (c2:Nat) (A4:OA) (c5:Nat) (A7:OA) (c8:Nat) (A7b:OA) (c8b:Nat) (w:World) (hT:TB w) (n3:RLu w A1 c2 x0.Lo.Man.Abs) (n6:RLu w A4 c5 x0.Hi.Man.Abs) (n9:RLu w A7 c8 x1.Num.Abs) (n9d:RLu w A7b c8b x1.Den) (r:Bool × Int) (hr:HH x0 x1=some r) :
  Calls prog 77 #[.agg #[.bool x0.Lo.Man.Neg,.slice A1 x0.Lo.Man.Abs.length c2,.int .i64 x0.Lo.Exp,.bool x0.Hi.Man.Neg,.slice A4 x0.Hi.Man.Abs.length c5,.int .i64 x0.Hi.Exp],.agg #[.bool x1.Num.Neg,.slice A7 x1.Num.Abs.length c8,.slice A7b x1.Den.length c8b]] w (Ret rep_4_33 w r):=by
 unfold HH at hr
 obtain ⟨q0,hq0,hr0⟩:=Ac hr
 unfold Kd at hq0
 go_enter_defers func77,ntmps77
 refine ws fun h4f=>Ai<|sbx rfl rfl fun b0e w1 E4c g5f q5c=>?_
 refine sbx rfl rfl fun b1e w2 E1c g6f q7f=>?_
 have g8k:=nlt E4c.size g6f
 have X8f:=xtr E4c E1c
 refine sal zt_4 fun b2e w3 E3e g9k q6c=>?_
 have g7c:=nlt X8f.size g9k
 have X9f:=xtr X8f E3e
 refine sal LH fun b4e w4 E6b g0l q8c=>?_
 have g9c:=nlt X9f.size g0l
 have X0g:=xtr X9f E6b
 refine nx h4f fun h1l=>Kp (vs:=[.pointer (some ⟨b2e,0,none⟩),.pointer (some ⟨b4e,0,none⟩)]) (by rfl) (by rfl)<|nx h1l fun h2l=>have q1g:=((q5c.ext E1c).ext E3e).ext E6b;sV (Ak Bk rfl q1g rfl) ?_
 refine DY (vals:=[(0,.agg #[.bool x0.Lo.Man.Neg,.slice A1 x0.Lo.Man.Abs.length c2,.int .i64 x0.Lo.Exp,.bool x0.Hi.Man.Neg,.slice A4 x0.Hi.Man.Abs.length c5,.int .i64 x0.Hi.Exp])]) (cs:=[.bool x0.Lo.Man.Neg,.slice A1 x0.Lo.Man.Abs.length c2,.int .i64 x0.Lo.Exp,.bool x0.Hi.Man.Neg,.slice A4 x0.Hi.Man.Abs.length c5,.int .i64 x0.Hi.Exp]) Kq EM Fo (by rfl) (by decide) (by kernel_rfl) fun b2g w5 E4a g3l q3g=>?_
 refine nrm ?_
 have g5t:=nlt X0g.size g3l
 have X0b:=xtr X0g E4a
 rcases BF hq0 with ⟨r0d,h5e,f4l⟩ | ⟨r0d,h5e,rfl⟩
 ·refine scO (Ad Kk (by rfl)) (EC x0 b2g A1 c2 A4 c5 w5 (tbx X0b hT) (n3.ext X0b) (n6.ext X0b) q3g (.ok r0d) h5e) ?_
  rintro _ w6 E3a rfl
  refine nrm ?_
  have X1d:=xtr X0b E3a
  refine nx h2l fun h5l=>have q4g:=(((q7f.ext E3e).ext E6b).ext E4a).ext E3a;sV (Ak HW rfl q4g rfl) ?_
  refine scr f4l (Ad Ri (by rfl)) (LD x1 A7 c8 A7b c8b w6 (tbx X1d hT) (n9.ext X1d) (n9d.ext X1d)) fun r5g f6l w7 E7a=>?_
  have X2d:=xtr X1d E7a
  rcases BF f6l with ⟨r3d,h6e,f7l⟩ | ⟨r3d,h6e,rfl⟩
  ·refine scO (Ad Er (by rfl)) (Bb r5g 1 w7 (tbx X2d hT)  (.ok r3d) h6e) ?_
   rintro _ w8 E5a rfl
   refine nrm ?_
   have X4d:=xtr X2d E5a
   refine nx h5l fun h8l=>sV (Ak HW rfl ((q4g.ext E7a).ext E5a) rfl) ?_
   obtain ⟨m6g,h9l,f0m⟩:=Ac f7l
   have hx7g:=Bs h9l
   have n1m:RU w8 A7 c8 m6g:=by unfold RU;rw [hx7g];exact (n9.ext X4d)
   obtain ⟨m8g,h2m,f3m⟩:=Ac f0m
   have hx9g:=Bs h2m
   have n4m:RU w8 A7b c8b m8g:=by unfold RU;rw [hx9g];exact (n9d.ext X4d)
   obtain ⟨r2c,h5m,f6m⟩:=Ac f3m
   refine sc (Ad Qo (by simp only [sz,hx7g,hx9g];rfl)) (Mn (⟨(⟨x1.Num.Neg,m6g⟩:Af),m8g⟩:BG) A7 c8 A7b c8b w8 (tbx X4d hT) n1m n4m r2c h5m) ?_
   rintro _ w9 E9b ⟨A0h,c1h,A2h,c3h,rfl,n7m,n8m⟩
   refine nrm ?_
   have X4h:=xtr X4d E9b
   refine sV3 (Aa rfl) (Aw rfl rfl) (Aw rfl rfl) ?_
   refine sal AQ fun b6t w7b E1b g9m q8a=>?_
   have g0n:=nlt X4h.size g9m
   have X5h:=xtr X4h E1b
   refine sal AQ fun b7t w8b E1a g6h q1n=>?_
   have g2n:=nlt X5h.size g6h
   have X3n:=xtr X5h E1a
   refine ss Ca (q8a.ext E1a) fun w9d U2a q4n=>?_
   have X5n:=belU X3n U2a g0n
   have ne7h:=(Bx.ne q8a g6h).symm
   have q2b:=q1n.upd U2a ne7h
   refine ss Ca q2b fun w4f U9a q8h=>?_
   have X6n:=belU X5n U9a g2n
   refine wh h8l<|ws fun h9h=>DD [18,19] 20 mo rfl fun w0e E6a S5d=>?_
   have X7e:=xtr X6n E6a
   refine dA 0 rfl (fun _=>Ag (o':=0) Ev rfl rfl) ?_ (hQ:=fun _ _ _ h=>dq (rs:=[.cell 4 4,.cell 5 33]) rfl (by decide) h)
   have q8e:=((((((q1g.ext E4a).ext E3a).ext E7a).ext E5a).ext E9b).ext E1b).ext E1a
   have ne0i:=(Bx.neT q8e (q8a.ext E1a) (by decide))
   have ne7n:=(Bx.neT (q8e.upd U2a ne0i) q2b (by decide))
   have q1i:=((q8e.upd U2a ne0i).upd U9a ne7n).ext E6a
   refine dV 1 rfl (fun _ hw=>Hk AH rfl (q1i.ext hw) (by simp only [List.drop_zero,List.take_succ_cons,List.take_zero];rfl) rfl) S5d ?_ (hQ:=fun _ _ _ h=>dq (rs:=[.cell 4 4,.cell 5 33]) rfl (by decide) h)
   refine dV 3 rfl (fun _ hw=>Ak Ay rfl ((q8h.ext E6a).ext hw) rfl) S5d ?_ (hQ:=fun _ _ _ h=>dq (rs:=[.cell 4 4,.cell 5 33]) rfl (by decide) h)
   have q2i:=(q4n.upd U9a (Ne.symm ne7h)).ext E6a
   refine dV 5 rfl (fun _ hw=>Ak Ay rfl (q2i.ext hw) rfl) S5d ?_ (hQ:=fun _ _ _ h=>dq (rs:=[.cell 4 4,.cell 5 33]) rfl (by decide) h)
   obtain ⟨m3i,h8n,f9n⟩:=Ac f6m
   have hx4i:=Bs h8n
   have n0o:RU w0e A1 c2 m3i:=by unfold RU;rw [hx4i];exact (n3.ext X7e)
   refine dcn f9n 2 rfl (by rfl) (Ad FY (by simp only [sz,hx4i];rfl)) (Cw (⟨(⟨x0.Lo.Man.Neg,m3i⟩:Af),x0.Lo.Exp⟩:Ae) A1 c2 w0e (tbx X7e hT) n0o) fun r1o f2o w4c A3o c4o E3b n5o=>?_
   have X5i:=xtr X7e E3b
   have S6o:=S5d.trans E3b
   have n6i:=(((((n8m.ext E1b).ext E1a).upd U2a (q8a.ext E1a) (by decide)).upd U9a q2b (by decide)).ext E6a).ext E3b
   refine dcn f2o 4 rfl (by rfl) (Ad Oe (by rfl)) (HQ r1o r2c.2 A3o c4o A2h c3h w4c (tbx X5i hT) n5o n6i) fun r7o f8o w5f A9o c0p E4b n1p=>?_
   have X7i:=xtr X5i E4b
   have S2p:=S6o.trans E4b
   have n8i:=((((((n7m.ext E1b).ext E1a).upd U2a (q8a.ext E1a) (by decide)).upd U9a q2b (by decide)).ext E6a).ext E3b).ext E4b
   refine dcr f8o 6 rfl (by rfl) (Ad HZ (by rfl)) (BZ r7o r2c.1 A9o c0p A0h c1h w5f (tbx X7i hT) n1p n8i) fun r8t f3p w5c E5b=>?_
   have X6d:=xtr X7i E5b
   have S7d:=S2p.trans E5b
   refine dab 7 rfl (by kernel_rfl) (fun _ _ _ h=>dq (rs:=[.cell 4 4,.cell 5 33]) rfl (by decide) h) (by rfl) (fun _=>GL rfl rfl) fun z9i hz9i=>?_
   refine dnrm ?_
   refine dA 8 rfl (fun _=>Aa rfl) ?_ (hQ:=fun _ _ _ h=>dq (rs:=[.cell 4 4,.cell 5 33]) rfl (by decide) h)
   rcases zi hz9i f3p with ⟨e0a,_,f4p⟩ | ⟨e0a,_,f5p⟩
   ·refine dA 9 rfl (fun _=>Ag (o':=3) Ez rfl rfl) ?_ (hw:=wgT rfl e0a) (hQ:=fun _ _ _ h=>dq (rs:=[.cell 4 4,.cell 5 33]) rfl (by decide) h)
    refine dV 10 rfl (fun _ hw=>Hk AH rfl (q1i.ext hw) (by simp only [List.drop_succ_cons,List.drop_zero,List.take_succ_cons,List.take_zero];rfl) rfl) S7d ?_ (hw:=wgT rfl e0a) (hQ:=fun _ _ _ h=>dq (rs:=[.cell 4 4,.cell 5 33]) rfl (by decide) h)
    refine dV 12 rfl (fun _ hw=>Ak Ay rfl ((q8h.ext E6a).ext hw) rfl) S7d ?_ (hw:=wgT rfl e0a) (hQ:=fun _ _ _ h=>dq (rs:=[.cell 4 4,.cell 5 33]) rfl (by decide) h)
    refine dV 14 rfl (fun _ hw=>Ak Ay rfl (q2i.ext hw) rfl) S7d ?_ (hw:=wgT rfl e0a) (hQ:=fun _ _ _ h=>dq (rs:=[.cell 4 4,.cell 5 33]) rfl (by decide) h)
    obtain ⟨m0j,h6p,f7p⟩:=Ac f4p
    have hx1j:=Bs h6p
    have n8p:RU w5c A4 c5 m0j:=by unfold RU;rw [hx1j];exact (n6.ext X6d)
    refine dcn f7p 11 rfl (wgT rfl e0a) (Ad FY (by simp only [sz,hx1j];rfl)) (Cw (⟨(⟨x0.Hi.Man.Neg,m0j⟩:Af),x0.Hi.Exp⟩:Ae) A4 c5 w5c (tbx X6d hT) n8p) fun r9p f0q w1e A1q c2q E0c n3q=>?_
    have X2j:=xtr X6d E0c
    have S4q:=S7d.trans E0c
    have n5q:=((n6i.ext E4b).ext E5b).ext E0c
    refine dcn f0q 13 rfl (wgT rfl e0a) (Ad Oe (by rfl)) (HQ r9p r2c.2 A1q c2q A2h c3h w1e (tbx X2j hT) n3q n5q) fun r6q f7q w1c A8q c9q E3c n0r=>?_
    have X3j:=xtr X2j E3c
    have S1r:=S4q.trans E3c
    have n2r:=((n8i.ext E5b).ext E0c).ext E3c
    refine dcr f7q 15 rfl (wgT rfl e0a) (Ad HZ (by rfl)) (BZ r6q r2c.1 A8q c9q A0h c1h w1c (tbx X3j hT) n0r n2r) fun r3r f4r w6f E8d=>?_
    have X5r:=xtr X3j E8d
    have S9t:=S1r.trans E8d
    refine dab 16 rfl (by kernel_rfl) (fun _ _ _ h=>dq (rs:=[.cell 4 4,.cell 5 33]) rfl (by decide) h) (wgT rfl e0a) (fun _=>Gp rfl rfl) fun z9e hz9e=>?_
    refine dnrm ?_
    refine dA 17 rfl (fun _=>Aq (evb rfl e0a) rfl) ?_ (hQ:=fun _ _ _ h=>dq (rs:=[.cell 4 4,.cell 5 33]) rfl (by decide) h)
    have q0f:=(((((((q6c.ext E6b).ext E4a).ext E3a).ext E7a).ext E5a).ext E9b).ext E1b).ext E1a
    have ne4j:=(Bx.neT q0f (q8a.ext E1a) (by decide))
    have ne6r:=(Bx.neT (q0f.upd U2a ne4j) q2b (by decide))
    have q5j:=((((((((q0f.upd U2a ne4j).upd U9a ne6r).ext E6a).ext E3b).ext E4b).ext E5b).ext E0c).ext E3c).ext E8d
    refine dkk 18 Rv q5j fun w7f U6j q7r=>?_
    have X8r:=belU X5r U6j g7c
    have q1f:=((((((q8c.ext E4a).ext E3a).ext E7a).ext E5a).ext E9b).ext E1b).ext E1a
    have ne7j:=(Bx.neT q1f (q8a.ext E1a) (by decide))
    have ne9r:=(Bx.neT (q1f.upd U2a ne7j) q2b (by decide))
    have q8j:=((((((((q1f.upd U2a ne7j).upd U9a ne9r).ext E6a).ext E3b).ext E4b).ext E5b).ext E0c).ext E3c).ext E8d
    have ne9j:=(Bx.neT q8j q5j (by decide))
    have q0s:=q8j.upd U6j ne9j
    refine dkk 19 Jr q0s fun w8k U0k q1s=>?_
    have X2s:=belU X8r U0k g9c
    refine CI (by kernel_rfl) ?_
    refine h9h _ _<|wp_ret ?_
    obtain rfl:z9e=decide (0≤r3r):=bz hz9e
    obtain rfl:=sj f4r
    obtain rfl:=sj hr0
    exact MM IT NP rfl (Res.cell1 rfl Gy (Bx.cell (q7r.upd U0k (Ne.symm ne9j)) rfl) (Res.cell1 rfl DQ (Bx.cell q1s rfl) Res.nil)) (Bg X2s rfl)
   ·refine dP 9 rfl ?_ (hw:=wgF rfl e0a) (hQ:=fun _ _ _ h=>dq (rs:=[.cell 4 4,.cell 5 33]) rfl (by decide) h)
    refine dP 10 rfl ?_ (hw:=wgF rfl e0a) (hQ:=fun _ _ _ h=>dq (rs:=[.cell 4 4,.cell 5 33]) rfl (by decide) h)
    refine dP 11 rfl ?_ (hw:=wgF rfl e0a) (hQ:=fun _ _ _ h=>dq (rs:=[.cell 4 4,.cell 5 33]) rfl (by decide) h)
    refine dP 12 rfl ?_ (hw:=wgF rfl e0a) (hQ:=fun _ _ _ h=>dq (rs:=[.cell 4 4,.cell 5 33]) rfl (by decide) h)
    refine dP 13 rfl ?_ (hw:=wgF rfl e0a) (hQ:=fun _ _ _ h=>dq (rs:=[.cell 4 4,.cell 5 33]) rfl (by decide) h)
    refine dP 14 rfl ?_ (hw:=wgF rfl e0a) (hQ:=fun _ _ _ h=>dq (rs:=[.cell 4 4,.cell 5 33]) rfl (by decide) h)
    refine dP 15 rfl ?_ (hw:=wgF rfl e0a) (hQ:=fun _ _ _ h=>dq (rs:=[.cell 4 4,.cell 5 33]) rfl (by decide) h)
    refine dP 16 rfl ?_ (hw:=wgF rfl e0a) (hQ:=fun _ _ _ h=>dq (rs:=[.cell 4 4,.cell 5 33]) rfl (by decide) h)
    refine dA 17 rfl (fun _=>Av (evb rfl e0a) rfl) ?_ (hQ:=fun _ _ _ h=>dq (rs:=[.cell 4 4,.cell 5 33]) rfl (by decide) h)
    have q2f:=(((((((q6c.ext E6b).ext E4a).ext E3a).ext E7a).ext E5a).ext E9b).ext E1b).ext E1a
    have ne1k:=(Bx.neT q2f (q8a.ext E1a) (by decide))
    have ne3s:=(Bx.neT (q2f.upd U2a ne1k) q2b (by decide))
    have q2k:=(((((q2f.upd U2a ne1k).upd U9a ne3s).ext E6a).ext E3b).ext E4b).ext E5b
    refine dkk 18 Rv q2k fun w1e U3k q4s=>?_
    have X5s:=belU X6d U3k g7c
    have q3f:=((((((q8c.ext E4a).ext E3a).ext E7a).ext E5a).ext E9b).ext E1b).ext E1a
    have ne4k:=(Bx.neT q3f (q8a.ext E1a) (by decide))
    have ne6s:=(Bx.neT (q3f.upd U2a ne4k) q2b (by decide))
    have q5k:=(((((q3f.upd U2a ne4k).upd U9a ne6s).ext E6a).ext E3b).ext E4b).ext E5b
    have ne6k:=(Bx.neT q5k q2k (by decide))
    have q7s:=q5k.upd U3k ne6k
    refine dkk 19 Jr q7s fun w1c U7k q8s=>?_
    have X9s:=belU X5s U7k g9c
    refine CI (by kernel_rfl) ?_
    refine h9h _ _<|wp_ret ?_
    obtain rfl:=sj f5p
    obtain rfl:=sj hr0
    exact MM IT NP rfl (Res.cell1 rfl Gy (Bx.cell (q4s.upd U7k (Ne.symm ne6k)) rfl) (Res.cell1 rfl DQ (Bx.cell q8s rfl) Res.nil)) (Bg X9s rfl)
  ·refine scP (Ad Er (by rfl)) (Bb r5g 1 w7 (tbx X2d hT)  (.error r3d) h6e) fun w8 E5a=>?_
   have X0t:=xtr X2d E5a
   have q1t:=((((q6c.ext E6b).ext E4a).ext E3a).ext E7a).ext E5a
   have q2t:=(((q8c.ext E4a).ext E3a).ext E7a).ext E5a
   refine Ka NP (JL b2e b4e (.bool false:Value) (.int .i64 0:Value) r3d q1t q2t) rfl ?_
   rintro w9 ⟨u9,q9,q9'⟩
   obtain rfl:=sj hr0
   exact ⟨_,(Res.cell1 rfl Gy (Bx.cell q9 rfl) (Res.cell1 rfl DQ (Bx.cell q9' rfl) Res.nil)),Bg (u9.toExt X0t g7c g9c) rfl⟩
 ·refine scP (Ad Kk (by rfl)) (EC x0 b2g A1 c2 A4 c5 w5 (tbx X0b hT) (n3.ext X0b) (n6.ext X0b) q3g (.error r0d) h5e) fun w6 E3a=>?_
  have X3t:=xtr X0b E3a
  have q4t:=((q6c.ext E6b).ext E4a).ext E3a
  refine Ka NP (JL b2e b4e (.bool false:Value) (.int .i64 0:Value) r0d q4t ((q8c.ext E4a).ext E3a)) rfl ?_
  rintro w9 ⟨u9,q9,q9'⟩
  obtain rfl:=sj hr0
  exact ⟨_,(Res.cell1 rfl Gy (Bx.cell q9 rfl) (Res.cell1 rfl DQ (Bx.cell q9' rfl) Res.nil)),Bg (u9.toExt X3t g7c g9c) rfl⟩
theorem c_sorobanref04_Around (x0:BG) (x1:Int) (A1:OA) (c2:Nat) (A4:OA) (c5:Nat) (w:World) (hT:TB w) (n3:RU w A1 c2 x0.Num.Abs) (n6:RU w A4 c5 x0.Den) (r:Aj) (hr:Ek x0 x1=some r) :
  Calls prog 68 #[.agg #[.bool x0.Num.Neg,.slice A1 (sz x0.Num.Abs) c2,.slice A4 (sz x0.Den) c5],.int .i64 x1] w (Ret JT w r):=by
 unfold Ek at hr
 go_enter func68,ntmps68
 refine ws fun h7=>Ai<|sbx rfl rfl fun b8 w1 E9 g4e q5b=>?_
 refine sal Fo fun b5e w2 E7a g0c q1c=>?_
 have g2c:=nlt E9.size g0c
 have X3a:=xtr E9 E7a
 refine nx h7 fun h3c=>sV2 (Ak HW rfl (q5b.ext E7a) rfl) (Aa rfl) ?_
 refine scn hr (Ad RN (by rfl)) (IG x0 x1 5 A1 c2 A4 c5 w2 (tbx X3a hT) (n3.ext X3a) (n6.ext X3a)) fun r0a f4c w3 A8a c9a E0b n5c=>?_
 have X6b:=xtr X3a E0b
 refine sal Ga fun b6e w4 E6c g7b q7c=>?_
 have g7e:=nlt X6b.size g7b
 refine ss DC q7c fun w5 U8c q9c=>?_
 have F4a:=belU E6c U8c g7b
 have X5a:=xtr X6b F4a
 refine nx h3c fun h0d=>have q1d:=((q5b.ext E7a).ext E0b).ext F4a;sV2 (Ak HW rfl q1d rfl) (Aa rfl) ?_
 refine scn f4c (Ad RN (by rfl)) (IG x0 x1 4 A1 c2 A4 c5 w5 (tbx X5a hT) (n3.ext X5a) (n6.ext X5a)) fun r1a f2d w6 A1b c2b E6a n3d=>?_
 have X8b:=xtr X5a E6a
 refine sal Ga fun b8e w7 E4d g9b q5d=>?_
 have g9e:=nlt X8b.size g9b
 refine ss DC q5d fun w8 U6d q7d=>?_
 have F2a:=belU E4d U6d g9b
 have X8d:=xtr X8b F2a
 refine nx h0d fun h9d=>sV3 (Ak AH rfl ((q9c.ext E6a).ext F2a) rfl) (Ak AH rfl q7d rfl) (AR (vals:=[(0,.agg #[.bool r0a.Man.Neg,.slice A8a (sz r0a.Man.Abs) c9a,.int .i64 r0a.Exp]),(1,.agg #[.bool r1a.Man.Neg,.slice A1b (sz r1a.Man.Abs) c2b,.int .i64 r1a.Exp])]) (cells:=[.bool r0a.Man.Neg,.slice A8a (sz r0a.Man.Abs) c9a,.int .i64 r0a.Exp,.bool r1a.Man.Neg,.slice A1b (sz r1a.Man.Abs) c2b,.int .i64 r1a.Exp]) (by rfl) (by kernel_rfl)) ?_
 have q3b:=(((q1c.ext E0b).ext F4a).ext E6a).ext F2a
 refine ss EM q3b fun w9 U4b q0e=>?_
 have X1e:=belU X8d U4b g2c
 refine wh h9d<|wp_ret ?_
 have n2e:=(((n5c.ext F4a).ext E6a).ext F2a).upd U4b q3b (by decide)
 have n3e:=(n3d.ext F2a).upd U4b q3b (by decide)
 exact Ej f2d Bk q0e X1e ⟨A8a,c9a,A1b,c2b,rfl,n2e,n3e⟩
theorem c_sorobanref04_Hull (x0:Aj) (x1:Aj) (A1:OA) (c2:Nat) (A4:OA) (c5:Nat) (A7:OA) (c8:Nat) (A6a:OA) (c7a:Nat) (w:World) (hT:TB w) (n3:RU w A1 c2 x0.Lo.Man.Abs) (n6:RU w A4 c5 x0.Hi.Man.Abs) (n9:RU w A7 c8 x1.Lo.Man.Abs) (n8c:RU w A6a c7a x1.Hi.Man.Abs) (r:Aj) (hr:Fe x0 x1=some r) :
  Calls prog 70 #[.agg #[.bool x0.Lo.Man.Neg,.slice A1 (sz x0.Lo.Man.Abs) c2,.int .i64 x0.Lo.Exp,.bool x0.Hi.Man.Neg,.slice A4 (sz x0.Hi.Man.Abs) c5,.int .i64 x0.Hi.Exp],.agg #[.bool x1.Lo.Man.Neg,.slice A7 (sz x1.Lo.Man.Abs) c8,.int .i64 x1.Lo.Exp,.bool x1.Hi.Man.Neg,.slice A6a (sz x1.Hi.Man.Abs) c7a,.int .i64 x1.Hi.Exp]] w (Ret JT w r):=by
 unfold Fe at hr
 go_enter func70,ntmps70
 refine ws fun h6e=>Ai<|sbx rfl rfl fun b2a w1 E9c g9a q8b=>?_
 refine sbx rfl rfl fun b0d w2 E9b g1d q0c=>?_
 have g8h:=nlt E9c.size g1d
 have X2d:=xtr E9c E9b
 refine sal Fo fun b9h w3 E8a g3d q7e=>?_
 have g8e:=nlt X2d.size g3d
 have X0b:=xtr X2d E8a
 refine wh h6e<|ws fun h9e=>ws fun h0f=>Ai<|sV2 (Ag (o':=0) Ev rfl rfl) (dld AH (q0c.ext E8a)) ?_
 have q1c:=(q8b.ext E9b).ext E8a
 refine sV2 (Ag (o':=0) Ev rfl rfl) (dld AH q1c) ?_
 refine scr hr (Ad NE (by rfl)) (DR x1.Lo x0.Lo A7 c8 A1 c2 w3 (tbx X0b hT) (n9.ext X0b) (n3.ext X0b)) fun r0i f1f w4 E3a=>?_
 have X1b:=xtr X0b E3a
 refine sbl (Cu rfl rfl) fun z4d hz4d=>?_
 refine wh h0f ?_
 obtain ⟨m0a,h2f,f3f⟩:=Ac f1f
 refine BJ (fun l l' w'=>∃(t5d:Value) (t6d:Value) (t7d:Value) (A4a:OA) (c5a:Nat),UpdS [b2a] w4 w'∧Bx w' b2a 29 [.bool m0a.1,.slice A4a (sz m0a.2.1) c5a,.int .i64 m0a.2.2,.bool x0.Hi.Man.Neg,.slice A4 (sz x0.Hi.Man.Abs) c5,.int .i64 x0.Hi.Exp]∧RU w' A4a c5a m0a.2.1∧l'=(((l.set 11 t5d).set 12 t6d).set 13 t7d)) ?_ ?_
 ·rcases zi hz4d h2f with ⟨e2c,_,f4f⟩ | ⟨e2c,_,f5f⟩
  ·refine ct e2c<|Ai<|sV2 (Ag (o':=0) Ev rfl rfl) (dld AH ((q0c.ext E8a).ext E3a)) ?_
   refine sV (Ag (o':=0) Ev rfl rfl) ?_
   have q6f:=q1c.ext E3a
   refine ss DC q6f fun w5 U8d q7f=>?_
   have X8f:=belU X1b U8d g9a
   refine AE ?_
   obtain rfl:=sj f4f
   exact ⟨_,rfl,(.pointer (some ⟨b0d,0,none⟩)),(.agg #[.bool x1.Lo.Man.Neg,.slice A7 (sz x1.Lo.Man.Abs) c8,.int .i64 x1.Lo.Exp]),(.pointer (some ⟨b2a,0,none⟩)),A7,c8,((UpdS.refl _ _).upd U8d (.inl im0)),q7f,(n9.ext X8f),(by kernel_rfl)⟩
  ·refine cf e2c<|wp_skip ?_
   have q9f:=q1c.ext E3a
   obtain rfl:=sj f5f
   exact ⟨_,rfl,uu,uu,uu,A1,c2,(UpdS.refl _ _),q9f,(n3.ext X1b),(by kernel_rfl)⟩
 ·rintro _ w5 ⟨t5d,t6d,t7d,A4a,c5a,U3c,q2b,n0g,rfl⟩ _ rfl
  have X3b:=GM X1b U3c (X1b).size (alc g9a al0)
  refine h9e _ _<|ws fun h1g=>ws fun h2g=>Ai<|sV (Ag (o':=3) Ez rfl rfl) ?_
  have ne3g:=(Bx.ne q8b g1d).symm
  have q9d:=((q0c.ext E8a).ext E3a).updS U3c (nmc ne3g nm0)
  refine sV (dld AH q9d) ?_
  refine sV2 (Ag (o':=3) Ez rfl rfl) (dld AH q2b) ?_
  refine scr f3f (Ad NE (by rfl)) (DR x1.Hi x0.Hi A6a c7a A4 c5 w5 (tbx X3b hT) (n8c.ext X3b) (n6.ext X3b)) fun r1i f4g w6 E1a=>?_
  have X4b:=xtr X3b E1a
  refine sbl (ES rfl rfl) fun z0e hz0e=>?_
  refine wh h2g ?_
  obtain ⟨m5b,h5g,f6g⟩:=Ac f4g
  refine BJ (fun l l' w'=>∃(t1e:Value) (t2e:Value) (t3e:Value) (A6b:OA) (c7b:Nat),UpdS [b2a] w6 w'∧Bx w' b2a 29 [.bool m0a.1,.slice A4a (sz m0a.2.1) c5a,.int .i64 m0a.2.2,.bool m5b.1,.slice A6b (sz m5b.2.1) c7b,.int .i64 m5b.2.2]∧RU w' A6b c7b m5b.2.1∧l'=(((l.set 20 t1e).set 21 t2e).set 22 t3e)) ?_ ?_
  ·rcases zi hz0e h5g with ⟨e4c,_,f7g⟩ | ⟨e4c,_,f8g⟩
   ·refine ct e4c<|Ai<|sV2 (Ag (o':=3) Ez rfl rfl) (dld AH (q9d.ext E1a)) ?_
    refine sV (Ag (o':=3) Ez rfl rfl) ?_
    refine ss DC (q2b.ext E1a) fun w7 U4e q9g=>?_
    have X0h:=belU X4b U4e g9a
    refine AE ?_
    obtain rfl:=sj f7g
    exact ⟨_,rfl,(.pointer (some ⟨b0d,3,none⟩)),(.agg #[.bool x1.Hi.Man.Neg,.slice A6a (sz x1.Hi.Man.Abs) c7a,.int .i64 x1.Hi.Exp]),(.pointer (some ⟨b2a,3,none⟩)),A6a,c7a,((UpdS.refl _ _).upd U4e (.inl im0)),q9g,(n8c.ext X0h),(by kernel_rfl)⟩
   ·refine cf e4c<|wp_skip ?_
    obtain rfl:=sj f8g
    exact ⟨_,rfl,uu,uu,uu,A4,c5,(UpdS.refl _ _),(q2b.ext E1a),(n6.ext X4b),(by kernel_rfl)⟩
  ·rintro _ w7 ⟨t1e,t2e,t3e,A6b,c7b,U5c,q1h,n2h,rfl⟩ _ rfl
   have X3h:=GM X4b U5c (X4b).size (alc g9a al0)
   refine h1g _ _<|ws fun h4h=>Ai<|sV (Ak Bk rfl q1h rfl) ?_
   have ne5e:=(Bx.ne (q8b.ext E9b) g3d).symm
   have q6c:=(((q7e.ext E3a).updS U3c (nmc ne5e nm0)).ext E1a).updS U5c (nmc ne5e nm0)
   refine ss EM q6c fun w8 U7c q5h=>?_
   have X6h:=belU X3h U7c g8e
   refine wh h4h<|wp_ret ?_
   have n7h:RU w8 A4a c5a m0a.2.1:=((n0g.ext E1a).updS U5c (alc ⟨_,_,by decide,q2b.ext E1a⟩ al0)).upd U7c q6c (by decide)
   exact Ej f6g Bk q5h X6h ⟨A4a,c5a,A6b,c7b,rfl,n7h,(n2h.upd U7c q6c (by decide))⟩
theorem c_sorobanref04_Meet (x0:Aj) (x1:Aj) (A1:OA) (c2:Nat) (A4:OA) (c5:Nat) (A7:OA) (c8:Nat) (A0b:OA) (c1b:Nat) (w:World) (hT:TB w) (n3:RU w A1 c2 x0.Lo.Man.Abs) (n6:RU w A4 c5 x0.Hi.Man.Abs) (n9:RU w A7 c8 x1.Lo.Man.Abs) (n0d:RU w A0b c1b x1.Hi.Man.Abs) (r:Cn) (hr:Dp x0 x1=some r) :
  Calls prog 71 #[.agg #[.bool x0.Lo.Man.Neg,.slice A1 (sz x0.Lo.Man.Abs) c2,.int .i64 x0.Lo.Exp,.bool x0.Hi.Man.Neg,.slice A4 (sz x0.Hi.Man.Abs) c5,.int .i64 x0.Hi.Exp],.agg #[.bool x1.Lo.Man.Neg,.slice A7 (sz x1.Lo.Man.Abs) c8,.int .i64 x1.Lo.Exp,.bool x1.Hi.Man.Neg,.slice A0b (sz x1.Hi.Man.Abs) c1b,.int .i64 x1.Hi.Exp]] w (Ret QH w r):=by
 unfold Dp at hr
 go_enter func71,ntmps71
 refine ws fun h6f=>Ai<|sbx rfl rfl fun b8a w1 E1d g4b q2d=>?_
 refine sbx rfl rfl fun b3d w2 E4d g5d q3c=>?_
 have g5j:=nlt E1d.size g5d
 have X6d:=xtr E1d E4d
 refine sal Px fun b6j w3 E2b g7f q5b=>?_
 have g7d:=nlt X6d.size g7f
 have X6b:=xtr X6d E2b
 refine wh h6f<|ws fun h8f=>ws fun h9f=>Ai<|sV2 (Ag (o':=0) Ev rfl rfl) (dld AH (q3c.ext E2b)) ?_
 have q3b:=(q2d.ext E4d).ext E2b
 refine sV2 (Ag (o':=0) Ev rfl rfl) (dld AH q3b) ?_
 refine scr hr (Ad NE (by rfl)) (DR x1.Lo x0.Lo A7 c8 A1 c2 w3 (tbx X6b hT) (n9.ext X6b) (n3.ext X6b)) fun r7j f0g w4 E2a=>?_
 have X7b:=xtr X6b E2a
 refine sbl (ES rfl rfl) fun z8d hz8d=>?_
 refine wh h9f ?_
 obtain ⟨m0a,h1g,f2g⟩:=Ac f0g
 refine BJ (fun l l' w'=>∃(t9d:Value) (t0e:Value) (t1e:Value) (A3a:OA) (c4a:Nat),UpdS [b8a] w4 w'∧Bx w' b8a 29 [.bool m0a.1,.slice A3a (sz m0a.2.1) c4a,.int .i64 m0a.2.2,.bool x0.Hi.Man.Neg,.slice A4 (sz x0.Hi.Man.Abs) c5,.int .i64 x0.Hi.Exp]∧RU w' A3a c4a m0a.2.1∧l'=(((l.set 11 t9d).set 12 t0e).set 13 t1e)) ?_ ?_
 ·rcases zi hz8d h1g with ⟨e4c,_,f3g⟩ | ⟨e4c,_,f4g⟩
  ·refine ct e4c<|Ai<|sV2 (Ag (o':=0) Ev rfl rfl) (dld AH ((q3c.ext E2b).ext E2a)) ?_
   refine sV (Ag (o':=0) Ev rfl rfl) ?_
   have q5g:=q3b.ext E2a
   refine ss DC q5g fun w5 U2e q6g=>?_
   have X7g:=belU X7b U2e g4b
   refine AE ?_
   obtain rfl:=sj f3g
   exact ⟨_,rfl,(.pointer (some ⟨b3d,0,none⟩)),(.agg #[.bool x1.Lo.Man.Neg,.slice A7 (sz x1.Lo.Man.Abs) c8,.int .i64 x1.Lo.Exp]),(.pointer (some ⟨b8a,0,none⟩)),A7,c8,((UpdS.refl _ _).upd U2e (.inl im0)),q6g,(n9.ext X7g),(by kernel_rfl)⟩
  ·refine cf e4c<|wp_skip ?_
   have q8g:=q3b.ext E2a
   obtain rfl:=sj f4g
   exact ⟨_,rfl,uu,uu,uu,A1,c2,(UpdS.refl _ _),q8g,(n3.ext X7b),(by kernel_rfl)⟩
 ·rintro _ w5 ⟨t9d,t0e,t1e,A3a,c4a,U8b,q9b,n9g,rfl⟩ _ rfl
  have X0c:=GM X7b U8b (X7b).size (alc g4b al0)
  refine h8f _ _<|ws fun h0h=>ws fun h1h=>Ai<|sV (Ag (o':=3) Ez rfl rfl) ?_
  have ne2h:=(Bx.ne q2d g5d).symm
  have q3e:=((q3c.ext E2b).ext E2a).updS U8b (nmc ne2h nm0)
  refine sV (dld AH q3e) ?_
  refine sV2 (Ag (o':=3) Ez rfl rfl) (dld AH q9b) ?_
  refine scr f2g (Ad NE (by rfl)) (DR x1.Hi x0.Hi A0b c1b A4 c5 w5 (tbx X0c hT) (n0d.ext X0c) (n6.ext X0c)) fun r8j f3h w6 E5a=>?_
  have X1c:=xtr X0c E5a
  refine sbl (Cu rfl rfl) fun z4e hz4e=>?_
  refine wh h1h ?_
  obtain ⟨m1a,h4h,f5h⟩:=Ac f3h
  refine BJ (fun l l' w'=>∃(t5e:Value) (t6e:Value) (t7e:Value) (A6a:OA) (c7a:Nat),UpdS [b8a] w6 w'∧Bx w' b8a 29 [.bool m0a.1,.slice A3a (sz m0a.2.1) c4a,.int .i64 m0a.2.2,.bool m1a.1,.slice A6a (sz m1a.2.1) c7a,.int .i64 m1a.2.2]∧RU w' A6a c7a m1a.2.1∧l'=(((l.set 20 t5e).set 21 t6e).set 22 t7e)) ?_ ?_
  ·rcases zi hz4e h4h with ⟨e5c,_,f6h⟩ | ⟨e5c,_,f7h⟩
   ·refine ct e5c<|Ai<|sV2 (Ag (o':=3) Ez rfl rfl) (dld AH (q3e.ext E5a)) ?_
    refine sV (Ag (o':=3) Ez rfl rfl) ?_
    refine ss DC (q9b.ext E5a) fun w7 U8e q8h=>?_
    have X9h:=belU X1c U8e g4b
    refine AE ?_
    obtain rfl:=sj f6h
    exact ⟨_,rfl,(.pointer (some ⟨b3d,3,none⟩)),(.agg #[.bool x1.Hi.Man.Neg,.slice A0b (sz x1.Hi.Man.Abs) c1b,.int .i64 x1.Hi.Exp]),(.pointer (some ⟨b8a,3,none⟩)),A0b,c1b,((UpdS.refl _ _).upd U8e (.inl im0)),q8h,(n0d.ext X9h),(by kernel_rfl)⟩
   ·refine cf e5c<|wp_skip ?_
    obtain rfl:=sj f7h
    exact ⟨_,rfl,uu,uu,uu,A4,c5,(UpdS.refl _ _),(q9b.ext E5a),(n6.ext X1c),(by kernel_rfl)⟩
  ·rintro _ w7 ⟨t5e,t6e,t7e,A6a,c7a,U2c,q6c,n9e,rfl⟩ _ rfl
   have X0f:=GM X1c U2c (X1c).size (alc g4b al0)
   refine h0h _ _<|ws fun h0i=>ws fun h1i=>Ai<|sV2 (Ag (o':=0) Ev rfl rfl) (dld AH q6c) ?_
   refine sV2 (Ag (o':=3) Ez rfl rfl) (dld AH q6c) ?_
   have n1f:RU w7 A3a c4a m0a.2.1:=(n9g.ext E5a).updS U2c (alc ⟨_,_,by decide,q9b.ext E5a⟩ al0)
   refine scr f5h (Ad NE (by rfl)) (DR (⟨(⟨m0a.1,m0a.2.1⟩:Af),m0a.2.2⟩:Ae) (⟨(⟨m1a.1,m1a.2.1⟩:Af),m1a.2.2⟩:Ae) A3a c4a A6a c7a w7 (tbx X0f hT) n1f n9e) fun r9j f2i w8 E9a=>?_
   have X2f:=xtr X0f E9a
   refine sbl (ES rfl rfl) fun z3f hz3f=>?_
   refine wh h1i ?_
   rcases zi hz3f f2i with ⟨e7c,_,f3i⟩ | ⟨e7c,_,f4i⟩
   ·refine ct e7c<|ws fun h5i=>Ai<|sV (AR (vals:=[(1,.int .i64 5)]) (cells:=[.bool false,.slice none 0 0,.int .i64 0,.bool false,.slice none 0 0,.int .i64 0,.int .i64 5]) (by rfl) (by kernel_rfl)) ?_
    have ne4f:=(Bx.neT (q5b.ext E2a) (q3b.ext E2a) (by decide))
    have q6i:=((((q5b.ext E2a).updS U8b (nmc ne4f nm0)).ext E5a).updS U2c (nmc ne4f nm0)).ext E9a
    refine ss MX q6i fun w9 U7i q8i=>?_
    have X9i:=belU X2f U7i g7d
    refine wh h5i<|wp_ret ?_
    exact Ej f3i PF q8i X9i ⟨none,0,none,0,rfl,(RU.nil _),(RU.nil _)⟩
   ·refine cf e7c<|wp_skip<|h0i _ _<|ws fun h0j=>Ai<|sV2 (Ak Bk rfl (q6c.ext E9a) rfl) (AR (vals:=[(0,.agg #[.bool m0a.1,.slice A3a (sz m0a.2.1) c4a,.int .i64 m0a.2.2,.bool m1a.1,.slice A6a (sz m1a.2.1) c7a,.int .i64 m1a.2.2])]) (cells:=[.bool m0a.1,.slice A3a (sz m0a.2.1) c4a,.int .i64 m0a.2.2,.bool m1a.1,.slice A6a (sz m1a.2.1) c7a,.int .i64 m1a.2.2,.int .i64 0]) (by rfl) (by kernel_rfl)) ?_
    have ne5f:=(Bx.neT (q5b.ext E2a) (q3b.ext E2a) (by decide))
    have q8c:=((((q5b.ext E2a).updS U8b (nmc ne5f nm0)).ext E5a).updS U2c (nmc ne5f nm0)).ext E9a
    refine ss MX q8c fun w9 U9c q1j=>?_
    have X2j:=belU X2f U9c g7d
    refine wh h0j<|wp_ret ?_
    have n3j:=(n1f.ext E9a).upd U9c q8c (by decide)
    have n4j:=(n9e.ext E9a).upd U9c q8c (by decide)
    exact Ej f4i PF q1j X2j ⟨A3a,c4a,A6a,c7a,rfl,n3j,n4j⟩
theorem c_dyad_Around (x0:Et) (x1:Int) (A1:OA) (c2:Nat) (A4:OA) (c5:Nat) (w:World) (hT:TB w) (n3:RLu w A1 c2 x0.Num.Abs) (n6:RLu w A4 c5 x0.Den) (r:Aj × Int) (hr:Gg x0 x1=some r) :
  Calls prog 72 #[.agg #[.bool x0.Num.Neg,.slice A1 x0.Num.Abs.length c2,.slice A4 x0.Den.length c5],.int .i64 x1] w (Ret Gh w r):=by
 unfold Gg at hr
 obtain ⟨q0,hq0,hr0⟩:=Ac hr
 unfold IK at hq0
 go_enter_defers func72,ntmps72
 refine ws fun h7=>Ai<|sbx rfl rfl fun b8 w1 E9 g0i q1f=>?_
 refine sal Fo fun b5b w2 E2c g3c q6b=>?_
 have g8b:=nlt E9.size g3c
 have X2e:=xtr E9 E2c
 refine sal LH fun b4c w3 E7b g1i q5c=>?_
 have g6c:=nlt X2e.size g1i
 have X7c:=xtr X2e E7b
 have q2f:=(q1f.ext E2c).ext E7b
 refine nx h7 fun h2i=>Kp (vs:=[.pointer (some ⟨b5b,0,none⟩),.pointer (some ⟨b4c,0,none⟩)]) (by rfl) (by rfl)<|nx h2i fun h3i=>sV (Ak HW rfl q2f rfl) ?_
 refine scr hq0 (Ad Ri (by rfl)) (LD x0 A1 c2 A4 c5 w3 (tbx X7c hT) (n3.ext X7c) (n6.ext X7c)) fun r3f f4i w4 E3a=>?_
 have X8c:=xtr X7c E3a
 rcases BF f4i with ⟨r9c,h3e,f5i⟩ | ⟨r9c,h3e,rfl⟩
 ·refine scO (Ad Er (by rfl)) (Bb r3f 1 w4 (tbx X8c hT)  (.ok r9c) h3e) ?_
  rintro _ w5 E1a rfl
  refine nrm ?_
  have X0d:=xtr X8c E1a
  refine nx h3i fun h6i=>sV (Aa rfl) ?_
  rcases BF f5i with ⟨r1d,h4e,f7i⟩ | ⟨r1d,h4e,rfl⟩
  ·refine scO (Ad Lg (by rfl)) (Hb x1 w5 (tbx X0d hT)  (.ok r1d) h4e) ?_
   rintro _ w6 E4a rfl
   refine nrm ?_
   have X2d:=xtr X0d E4a
   refine nx h6i fun h8i=>have q9i:=((q2f.ext E3a).ext E1a).ext E4a;sV (Ak HW rfl q9i rfl) ?_
   obtain ⟨m4f,h0j,f1j⟩:=Ac f7i
   have hx5f:=Bs h0j
   have n2j:RU w6 A1 c2 m4f:=by unfold RU;rw [hx5f];exact (n3.ext X2d)
   obtain ⟨m6f,h3j,f4j⟩:=Ac f1j
   have hx7f:=Bs h3j
   have n5j:RU w6 A4 c5 m6f:=by unfold RU;rw [hx7f];exact (n6.ext X2d)
   obtain ⟨r9b,h6j,f7j⟩:=Ac f4j
   refine sc (Ad Qo (by simp only [sz,hx5f,hx7f];rfl)) (Mn (⟨(⟨x0.Num.Neg,m4f⟩:Af),m6f⟩:BG) A1 c2 A4 c5 w6 (tbx X2d hT) n2j n5j r9b h6j) ?_
   rintro _ w7 E0c ⟨A8f,c9f,A0g,c1g,rfl,n8j,n9j⟩
   refine nrm ?_
   have X2g:=xtr X2d E0c
   refine sV3 (Aa rfl) (Aw rfl rfl) (Aw rfl rfl) ?_
   refine sal AQ fun b9n w8 E3b g0k q6a=>?_
   have g1k:=nlt X2g.size g0k
   have X3g:=xtr X2g E3b
   refine sal AQ fun b0o w9 E0a g4g q2k=>?_
   have g3k:=nlt X3g.size g4g
   have X4k:=xtr X3g E0a
   refine ss Ca (q6a.ext E0a) fun w0i U2a q5k=>?_
   have X6k:=belU X4k U2a g1k
   have ne5g:=(Bx.ne q6a g4g).symm
   have q4b:=q2k.upd U2a ne5g
   refine ss Ca q4b fun w1f U7a q6g=>?_
   have X7k:=belU X6k U7a g3k
   refine wh h8i<|ws fun h8k=>DD [10,11] 12 mo rfl fun w5b E5a S1c=>?_
   have X7g:=xtr X7k E5a
   have q8g:=(q5k.upd U7a (Ne.symm ne5g)).ext E5a
   refine dV 0 rfl (fun _ hw=>Ak Ay rfl (q8g.ext hw) rfl) S1c ?_ (hQ:=fun _ _ _ h=>dq (rs:=[.cell 4 29,.cell 5 33]) rfl (by decide) h)
   refine dV 1 rfl (fun _ hw=>Ak Ay rfl ((q6g.ext E5a).ext hw) rfl) S1c ?_ (hQ:=fun _ _ _ h=>dq (rs:=[.cell 4 29,.cell 5 33]) rfl (by decide) h)
   refine dA 2 rfl (fun _=>Aa rfl) ?_ (hQ:=fun _ _ _ h=>dq (rs:=[.cell 4 29,.cell 5 33]) rfl (by decide) h)
   refine dV 4 rfl (fun _ hw=>Ak Ay rfl (q8g.ext hw) rfl) S1c ?_ (hQ:=fun _ _ _ h=>dq (rs:=[.cell 4 29,.cell 5 33]) rfl (by decide) h)
   refine dV 5 rfl (fun _ hw=>Ak Ay rfl ((q6g.ext E5a).ext hw) rfl) S1c ?_ (hQ:=fun _ _ _ h=>dq (rs:=[.cell 4 29,.cell 5 33]) rfl (by decide) h)
   refine dA 6 rfl (fun _=>Aa rfl) ?_ (hQ:=fun _ _ _ h=>dq (rs:=[.cell 4 29,.cell 5 33]) rfl (by decide) h)
   have n9g:=((((n8j.ext E3b).ext E0a).upd U2a (q6a.ext E0a) (by decide)).upd U7a q4b (by decide)).ext E5a
   have n0h:=((((n9j.ext E3b).ext E0a).upd U2a (q6a.ext E0a) (by decide)).upd U7a q4b (by decide)).ext E5a
   refine dcn f7j 3 rfl (by rfl) (Ad DV (by rfl)) (AA r9b.1 r9b.2 x1 5 A8f c9f A0g c1g w5b (tbx X7g hT) n9g n0h) fun r8a f9k w2c A3d c4d E9a n1h=>?_
   have X2h:=xtr X7g E9a
   have S0l:=S1c.trans E9a
   refine dcn f9k 7 rfl (by rfl) (Ad DV (by rfl)) (AA r9b.1 r9b.2 x1 4 A8f c9f A0g c1g w2c (tbx X2h hT) (n9g.ext E9a) (n0h.ext E9a)) fun r0b f1l w3c A5d c6d E1b n3h=>?_
   have X7d:=xtr X2h E1b
   have S2l:=S0l.trans E1b
   refine dA 8 rfl (fun _=>AR (vals:=[(0,.agg #[.bool r8a.m.Neg,.slice A3d (sz r8a.m.Abs) c4d,.int .i64 r8a.e]),(1,.agg #[.bool r0b.m.Neg,.slice A5d (sz r0b.m.Abs) c6d,.int .i64 r0b.e])]) (cells:=[.bool r8a.m.Neg,.slice A3d (sz r8a.m.Abs) c4d,.int .i64 r8a.e,.bool r0b.m.Neg,.slice A5d (sz r0b.m.Abs) c6d,.int .i64 r0b.e]) (by rfl) (by kernel_rfl)) ?_ (hQ:=fun _ _ _ h=>dq (rs:=[.cell 4 29,.cell 5 33]) rfl (by decide) h)
   rcases BF f1l with ⟨r8d,h5e,f3l⟩ | ⟨r8d,h5e,rfl⟩
   ·refine dcO 9 rfl (by kernel_rfl) (by rfl) (Ad IR (by rfl)) (Cg (⟨r8a,r0b⟩:An) A3d c4d A5d c6d w3c (tbx X7d hT) (n1h.ext E1b) n3h (.ok r8d) h5e) ?_
    rintro _ w6b E2b ⟨A4l,c5l,A6l,c7l,rfl,n8l,n9l⟩
    refine dnrm ?_
    have X0m:=xtr X7d E2b
    have S1o:=S2l.trans E2b
    have q6e:=((((((q6b.ext E7b).ext E3a).ext E1a).ext E4a).ext E0c).ext E3b).ext E0a
    have ne4h:=(Bx.neT q6e (q6a.ext E0a) (by decide))
    have ne1m:=(Bx.neT (q6e.upd U2a ne4h) q4b (by decide))
    have q9d:=(((((q6e.upd U2a ne4h).upd U7a ne1m).ext E5a).ext E9a).ext E1b).ext E2b
    refine dkk 10 EM q9d fun w8b U0e q2m=>?_
    have X3m:=belU X0m U0e g8b
    have q7e:=(((((q5c.ext E3a).ext E1a).ext E4a).ext E0c).ext E3b).ext E0a
    have ne5h:=(Bx.neT q7e (q6a.ext E0a) (by decide))
    have ne4m:=(Bx.neT (q7e.upd U2a ne5h) q4b (by decide))
    have q6h:=(((((q7e.upd U2a ne5h).upd U7a ne4m).ext E5a).ext E9a).ext E1b).ext E2b
    have ne7h:=(Bx.neT q6h q9d (by decide))
    have q8e:=q6h.upd U0e ne7h
    refine dkk 11 Jr q8e fun w2e U1e q5m=>?_
    have X6m:=belU X3m U1e g6c
    refine CI (by kernel_rfl) ?_
    refine h8k _ _<|wp_ret ?_
    have n7m:=(n8l.upd U0e q9d (by decide)).upd U1e q8e (by decide)
    have n8m:=(n9l.upd U0e q9d (by decide)).upd U1e q8e (by decide)
    obtain rfl:=sj f3l
    obtain rfl:=sj hr0
    exact MM Hx Jy rfl (Res.cellN rfl Bk (q2m.upd U1e (Ne.symm ne7h)) rfl rfl (Res.cell1 rfl DQ (Bx.cell q5m rfl) Res.nil)) (Bg X6m ⟨A4l,c5l,A6l,c7l,rfl,n7m,n8m⟩)
   ·refine dcP 9 rfl (by kernel_rfl) (by rfl) (Ad IR (by rfl)) (Cg (⟨r8a,r0b⟩:An) A3d c4d A5d c6d w3c (tbx X7d hT) (n1h.ext E1b) n3h (.error r8d) h5e) fun w6b E2b=>?_
    have X9m:=xtr X7d E2b
    have q9e:=((((((q6b.ext E7b).ext E3a).ext E1a).ext E4a).ext E0c).ext E3b).ext E0a
    have ne8h:=(Bx.neT q9e (q6a.ext E0a) (by decide))
    have ne0n:=(Bx.neT (q9e.upd U2a ne8h) q4b (by decide))
    have q1n:=(((((q9e.upd U2a ne8h).upd U7a ne0n).ext E5a).ext E9a).ext E1b).ext E2b
    have q0f:=(((((q5c.ext E3a).ext E1a).ext E4a).ext E0c).ext E3b).ext E0a
    have ne9h:=(Bx.neT q0f (q6a.ext E0a) (by decide))
    have ne2n:=(Bx.neT (q0f.upd U2a ne9h) q4b (by decide))
    have q3n:=(((((q0f.upd U2a ne9h).upd U7a ne2n).ext E5a).ext E9a).ext E1b).ext E2b
    refine Ka Jy (Di b5b b4c (.bool false:Value) (.slice none 0 0:Value) (.int .i64 0:Value) (.bool false:Value) (.slice none 0 0:Value) (.int .i64 0:Value) (.int .i64 0:Value) r8d q1n q3n) rfl ?_
    rintro w9 ⟨u9,q9,q9'⟩
    obtain rfl:=sj hr0
    exact ⟨_,(Res.cellN rfl Bk q9 rfl rfl (Res.cell1 rfl DQ (Bx.cell q9' rfl) Res.nil)),Bg (u9.toExt X9m g8b g6c) ⟨none,0,none,0,rfl,RU.nil _,RU.nil _⟩⟩
  ·refine scP (Ad Lg (by rfl)) (Hb x1 w5 (tbx X0d hT)  (.error r1d) h4e) fun w6 E4a=>?_
   have X4n:=xtr X0d E4a
   have q5n:=(((q6b.ext E7b).ext E3a).ext E1a).ext E4a
   have q6n:=((q5c.ext E3a).ext E1a).ext E4a
   refine Ka Jy (Di b5b b4c (.bool false:Value) (.slice none 0 0:Value) (.int .i64 0:Value) (.bool false:Value) (.slice none 0 0:Value) (.int .i64 0:Value) (.int .i64 0:Value) r1d q5n q6n) rfl ?_
   rintro w9 ⟨u9,q9,q9'⟩
   obtain rfl:=sj hr0
   exact ⟨_,(Res.cellN rfl Bk q9 rfl rfl (Res.cell1 rfl DQ (Bx.cell q9' rfl) Res.nil)),Bg (u9.toExt X4n g8b g6c) ⟨none,0,none,0,rfl,RU.nil _,RU.nil _⟩⟩
 ·refine scP (Ad Er (by rfl)) (Bb r3f 1 w4 (tbx X8c hT)  (.error r9c) h3e) fun w5 E1a=>?_
  have X7n:=xtr X8c E1a
  have q8n:=((q6b.ext E7b).ext E3a).ext E1a
  refine Ka Jy (Di b5b b4c (.bool false:Value) (.slice none 0 0:Value) (.int .i64 0:Value) (.bool false:Value) (.slice none 0 0:Value) (.int .i64 0:Value) (.int .i64 0:Value) r9c q8n ((q5c.ext E3a).ext E1a)) rfl ?_
  rintro w9 ⟨u9,q9,q9'⟩
  obtain rfl:=sj hr0
  exact ⟨_,(Res.cellN rfl Bk q9 rfl rfl (Res.cell1 rfl DQ (Bx.cell q9' rfl) Res.nil)),Bg (u9.toExt X7n g8b g6c) ⟨none,0,none,0,rfl,RU.nil _,RU.nil _⟩⟩
theorem c_dyad_Outward (x0:Am) (x1:Int) (A1:OA) (c2:Nat) (A4:OA) (c5:Nat) (w:World) (hT:TB w) (n3:RLu w A1 c2 x0.Lo.Man.Abs) (n6:RLu w A4 c5 x0.Hi.Man.Abs) (r:Aj × Int) (hr:FL x0 x1=some r) :
  Calls prog 73 #[.agg #[.bool x0.Lo.Man.Neg,.slice A1 x0.Lo.Man.Abs.length c2,.int .i64 x0.Lo.Exp,.bool x0.Hi.Man.Neg,.slice A4 x0.Hi.Man.Abs.length c5,.int .i64 x0.Hi.Exp],.int .i64 x1] w (Ret Gh w r):=by
 unfold FL at hr
 obtain ⟨q0,hq0,hr0⟩:=Ac hr
 unfold Il at hq0
 go_enter_defers func73,ntmps73
 refine ws fun h7=>Ai<|sbx rfl rfl fun b8 w1 E9 g9e q8c=>?_
 refine sal Fo fun b8a w2 E9c g0f q9a=>?_
 have g0b:=nlt E9.size g0f
 have X0d:=xtr E9 E9c
 refine sal LH fun b1b w3 E5a g1f q2b=>?_
 have g3b:=nlt X0d.size g1f
 have X1d:=xtr X0d E5a
 have q2d:=(q8c.ext E9c).ext E5a
 refine nx h7 fun h2f=>Kp (vs:=[.pointer (some ⟨b8a,0,none⟩),.pointer (some ⟨b1b,0,none⟩)]) (by rfl) (by rfl)<|nx h2f fun h3f=>sV (Ak Bk rfl q2d rfl) ?_
 refine DY (vals:=[(0,.agg #[.bool x0.Lo.Man.Neg,.slice A1 x0.Lo.Man.Abs.length c2,.int .i64 x0.Lo.Exp,.bool x0.Hi.Man.Neg,.slice A4 x0.Hi.Man.Abs.length c5,.int .i64 x0.Hi.Exp])]) (cs:=[.bool x0.Lo.Man.Neg,.slice A1 x0.Lo.Man.Abs.length c2,.int .i64 x0.Lo.Exp,.bool x0.Hi.Man.Neg,.slice A4 x0.Hi.Man.Abs.length c5,.int .i64 x0.Hi.Exp]) Kq EM Fo (by rfl) (by decide) (by kernel_rfl) fun b3d w4 E1a g4f q4d=>?_
 refine nrm ?_
 have g8j:=nlt X1d.size g4f
 have X3a:=xtr X1d E1a
 rcases BF hq0 with ⟨r4b,h3c,f5f⟩ | ⟨r4b,h3c,rfl⟩
 ·refine scO (Ad Kk (by rfl)) (EC x0 b3d A1 c2 A4 c5 w4 (tbx X3a hT) (n3.ext X3a) (n6.ext X3a) q4d (.ok r4b) h3c) ?_
  rintro _ w5 E0a rfl
  refine nrm ?_
  have X5b:=xtr X3a E0a
  refine nx h3f fun h6f=>sV (Aa rfl) ?_
  rcases BF f5f with ⟨r6b,h4c,f7f⟩ | ⟨r6b,h4c,rfl⟩
  ·refine scO (Ad Lg (by rfl)) (Hb x1 w5 (tbx X5b hT)  (.ok r6b) h4c) ?_
   rintro _ w6 E2a rfl
   refine nrm ?_
   have X7b:=xtr X5b E2a
   refine nx h6f fun h8f=>have q9f:=((q2d.ext E1a).ext E0a).ext E2a;sV (Ak Bk rfl q9f rfl) ?_
   obtain ⟨m5d,h0g,f1g⟩:=Ac f7f
   have hx6d:=Bs h0g
   have n2g:RU w6 A1 c2 m5d:=by unfold RU;rw [hx6d];exact (n3.ext X7b)
   obtain ⟨m7d,h3g,f4g⟩:=Ac f1g
   have hx8d:=Bs h3g
   have n5g:RU w6 A4 c5 m7d:=by unfold RU;rw [hx8d];exact (n6.ext X7b)
   obtain ⟨r9d,h6g,f7g⟩:=Ac f4g
   refine sc (Ad OX (by simp only [sz,hx6d,hx8d];rfl)) (Kr (⟨(⟨(⟨x0.Lo.Man.Neg,m5d⟩:Af),x0.Lo.Exp⟩:Ae),(⟨(⟨x0.Hi.Man.Neg,m7d⟩:Af),x0.Hi.Exp⟩:Ae)⟩:Aj) A1 c2 A4 c5 w6 (tbx X7b hT) n2g n5g r9d h6g) ?_
   rintro _ w7 E6a ⟨A8g,c9g,A0h,c1h,rfl,n2h,n3h⟩
   refine nrm ?_
   have X0e:=xtr X7b E6a
   refine sV (Aa rfl) ?_
   obtain ⟨r5c,h4h,f5h⟩:=Ac f7g
   refine sc (Ad Qc (by rfl)) (JD r9d x1 A8g c9g A0h c1h w7 (tbx X0e hT) n2h n3h r5c h4h) ?_
   rintro _ w8 E7a ⟨A1e,c2e,A3e,c4e,rfl,n5e,n6e⟩
   refine nrm ?_
   have X8b:=xtr X0e E7a
   rcases BF f5h with ⟨r9b,h6c,f6h⟩ | ⟨r9b,h6c,rfl⟩
   ·refine scO (Ad IR (by rfl)) (Cg r5c A1e c2e A3e c4e w8 (tbx X8b hT) n5e n6e (.ok r9b) h6c) ?_
    rintro _ w9 E4a ⟨A7h,c8h,A9h,c0i,rfl,n1i,n2i⟩
    refine nrm ?_
    have X3i:=xtr X8b E4a
    have q0c:=((((((q9a.ext E5a).ext E1a).ext E0a).ext E2a).ext E6a).ext E7a).ext E4a
    refine ss EM q0c fun w9e U1c q4i=>?_
    have X5i:=belU X3i U1c g0b
    have q7e:=(((((q2b.ext E1a).ext E0a).ext E2a).ext E6a).ext E7a).ext E4a
    have ne8e:=(Bx.neT q7e q0c (by decide))
    have q7c:=q7e.upd U1c ne8e
    refine ss Jr q7c fun w8c U2c q6i=>?_
    have X7i:=belU X5i U2c g3b
    refine wh h8f<|wp_ret ?_
    have n8i:=(n1i.upd U1c q0c (by decide)).upd U2c q7c (by decide)
    have n9i:=(n2i.upd U1c q0c (by decide)).upd U2c q7c (by decide)
    obtain rfl:=sj f6h
    obtain rfl:=sj hr0
    exact MM Hx Jy rfl (Res.cellN rfl Bk (q4i.upd U2c (Ne.symm ne8e)) rfl rfl (Res.cell1 rfl DQ (Bx.cell q6i rfl) Res.nil)) (Bg X7i ⟨A7h,c8h,A9h,c0i,rfl,n8i,n9i⟩)
   ·refine scP (Ad IR (by rfl)) (Cg r5c A1e c2e A3e c4e w8 (tbx X8b hT) n5e n6e (.error r9b) h6c) fun w9 E4a=>?_
    have X0j:=xtr X8b E4a
    have q1j:=((((((q9a.ext E5a).ext E1a).ext E0a).ext E2a).ext E6a).ext E7a).ext E4a
    have q2j:=(((((q2b.ext E1a).ext E0a).ext E2a).ext E6a).ext E7a).ext E4a
    refine Ka Jy (Di b8a b1b (.bool false:Value) (.slice none 0 0:Value) (.int .i64 0:Value) (.bool false:Value) (.slice none 0 0:Value) (.int .i64 0:Value) (.int .i64 0:Value) r9b q1j q2j) rfl ?_
    rintro w9 ⟨u9,q9,q9'⟩
    obtain rfl:=sj hr0
    exact ⟨_,(Res.cellN rfl Bk q9 rfl rfl (Res.cell1 rfl DQ (Bx.cell q9' rfl) Res.nil)),Bg (u9.toExt X0j g0b g3b) ⟨none,0,none,0,rfl,RU.nil _,RU.nil _⟩⟩
  ·refine scP (Ad Lg (by rfl)) (Hb x1 w5 (tbx X5b hT)  (.error r6b) h4c) fun w6 E2a=>?_
   have X3j:=xtr X5b E2a
   have q4j:=(((q9a.ext E5a).ext E1a).ext E0a).ext E2a
   have q5j:=((q2b.ext E1a).ext E0a).ext E2a
   refine Ka Jy (Di b8a b1b (.bool false:Value) (.slice none 0 0:Value) (.int .i64 0:Value) (.bool false:Value) (.slice none 0 0:Value) (.int .i64 0:Value) (.int .i64 0:Value) r6b q4j q5j) rfl ?_
   rintro w9 ⟨u9,q9,q9'⟩
   obtain rfl:=sj hr0
   exact ⟨_,(Res.cellN rfl Bk q9 rfl rfl (Res.cell1 rfl DQ (Bx.cell q9' rfl) Res.nil)),Bg (u9.toExt X3j g0b g3b) ⟨none,0,none,0,rfl,RU.nil _,RU.nil _⟩⟩
 ·refine scP (Ad Kk (by rfl)) (EC x0 b3d A1 c2 A4 c5 w4 (tbx X3a hT) (n3.ext X3a) (n6.ext X3a) q4d (.error r4b) h3c) fun w5 E0a=>?_
  have X6j:=xtr X3a E0a
  have q7j:=((q9a.ext E5a).ext E1a).ext E0a
  refine Ka Jy (Di b8a b1b (.bool false:Value) (.slice none 0 0:Value) (.int .i64 0:Value) (.bool false:Value) (.slice none 0 0:Value) (.int .i64 0:Value) (.int .i64 0:Value) r4b q7j ((q2b.ext E1a).ext E0a)) rfl ?_
  rintro w9 ⟨u9,q9,q9'⟩
  obtain rfl:=sj hr0
  exact ⟨_,(Res.cellN rfl Bk q9 rfl rfl (Res.cell1 rfl DQ (Bx.cell q9' rfl) Res.nil)),Bg (u9.toExt X6j g0b g3b) ⟨none,0,none,0,rfl,RU.nil _,RU.nil _⟩⟩
theorem c_sorobanref04_Has (x0:Aj) (x1:BG) (A1:OA) (c2:Nat) (A4:OA) (c5:Nat) (A7:OA) (c8:Nat) (A2a:OA) (c3a:Nat) (w:World) (hT:TB w) (n3:RU w A1 c2 x0.Lo.Man.Abs) (n6:RU w A4 c5 x0.Hi.Man.Abs) (n9:RU w A7 c8 x1.Num.Abs) (n9a:RU w A2a c3a x1.Den) (r:Bool) (hr:FA x0 x1=some r) :
  Calls prog 78 #[.agg #[.bool x0.Lo.Man.Neg,.slice A1 (sz x0.Lo.Man.Abs) c2,.int .i64 x0.Lo.Exp,.bool x0.Hi.Man.Neg,.slice A4 (sz x0.Hi.Man.Abs) c5,.int .i64 x0.Hi.Exp],.agg #[.bool x1.Num.Neg,.slice A7 (sz x1.Num.Abs) c8,.slice A2a (sz x1.Den) c3a]] w (Ret Gc w r):=by
 unfold FA at hr
 go_enter func78,ntmps78
 refine ws fun h9b=>Ai<|sbx rfl rfl fun b0c w1 E0b g3d q1b=>?_
 refine sbx rfl rfl fun b4d w2 E5a g1c q2b=>?_
 have g5d:=nlt E0b.size g1c
 have X4a:=xtr E0b E5a
 refine sV (Ab rfl) ?_
 refine nx h9b fun h2c=>sV2 (Ag (o':=0) Ev rfl rfl) (dld AH (q1b.ext E5a)) ?_
 refine sV (Ak HW rfl q2b rfl) ?_
 refine scr hr (Ad RE (by rfl)) (HX x0.Lo x1 A1 c2 A7 c8 A2a c3a w2 (tbx X4a hT) (n3.ext X4a) (n9.ext X4a) (n9a.ext X4a)) fun r6d f3c w3 E6a=>?_
 have X1a:=xtr X4a E6a
 refine sbl (GL rfl rfl) fun z3b hz3b=>?_
 refine sV (Aa rfl) ?_
 obtain ⟨m4c,h5c,f6c⟩:=Ac f3c
 refine Bw 12 (fun l l' w'=>∃(t4b:Value) (t5b:Value) (t6b:Value) (t7b:Value) (t8b:Value),UpdS [] w3 w'∧l'=((((((l.set 11 t4b).set 12 t5b).set 13 t6b).set 14 t7b).set 15 t8b).set 16 (.bool m4c))) ?_ ?_
 ·intro HJ51
  rcases zi hz3b h5c with ⟨e0a,_,f7c⟩ | ⟨e0a,_,f8c⟩
  ·refine sV (Ag (o':=3) Ez rfl rfl) ?_ (hw:=wgT rfl e0a)
   refine sV (dld AH ((q1b.ext E5a).ext E6a)) ?_ (hw:=wgT rfl e0a)
   refine sV (Ak HW rfl (q2b.ext E6a) rfl) ?_ (hw:=wgT rfl e0a)
   refine scr f7c (Ad RE (by rfl)) (HX x0.Hi x1 A4 c5 A7 c8 A2a c3a w3 (tbx X1a hT) (n6.ext X1a) (n9.ext X1a) (n9a.ext X1a)) (fun r7a f9c w4 E0d=>?_) (hw:=wgT rfl e0a)
   refine sbl (Gp rfl rfl) (fun z8a hz8a=>?_) (hw:=wgT rfl e0a)
   refine sV (Aq (evb rfl e0a) rfl) ?_
   obtain rfl:z8a=decide (0≤r7a):=bz hz8a
   obtain rfl:=sj f9c
   exact HJ51 _ _ ⟨(.pointer (some ⟨b0c,3,none⟩)),(.agg #[.bool x0.Hi.Man.Neg,.slice A4 (sz x0.Hi.Man.Abs) c5,.int .i64 x0.Hi.Exp]),(.agg #[.bool x1.Num.Neg,.slice A7 (sz x1.Num.Abs) c8,.slice A2a (sz x1.Den) c3a]),(.int .i64 r7a),(.bool (decide (0≤r7a))),((UpdS.refl _ _).ext E0d),(by kernel_rfl)⟩
  ·refine sQ rfl e0a ?_
   refine sQ rfl e0a ?_
   refine sQ rfl e0a ?_
   refine sQ rfl e0a ?_
   refine sQ rfl e0a ?_
   refine sV (Av (evb rfl e0a) rfl) ?_
   obtain rfl:=sj f8c
   exact HJ51 _ _ ⟨uu,uu,uu,uu,uu,(UpdS.refl _ _),(by kernel_rfl)⟩
 ·rintro _ w4 ⟨t4b,t5b,t6b,t7b,t8b,U1d,rfl⟩ _ rfl
  have X2d:=GM X1a U1d (X1a).size al0
  refine sV (Ab rfl) ?_
  refine wh h2c<|wp_ret ?_
  exact Bq f6c X2d rfl
theorem c_dyad_Width (x0:Am) (A1:OA) (c2:Nat) (A4:OA) (c5:Nat) (w:World) (hT:TB w) (n3:RLu w A1 c2 x0.Lo.Man.Abs) (n6:RLu w A4 c5 x0.Hi.Man.Abs) (r:Ae × Int) (hr:Hf x0=some r) :
  Calls prog 79 #[.agg #[.bool x0.Lo.Man.Neg,.slice A1 x0.Lo.Man.Abs.length c2,.int .i64 x0.Lo.Exp,.bool x0.Hi.Man.Neg,.slice A4 x0.Hi.Man.Abs.length c5,.int .i64 x0.Hi.Exp]] w (Ret Ky w r):=by
 unfold Hf at hr
 obtain ⟨q0,hq0,hr0⟩:=Ac hr
 unfold Jd at hq0
 go_enter_defers func79,ntmps79
 refine ws fun h7=>Ai<|sbx rfl rfl fun b8 w1 E9 g7e q7c=>?_
 refine sal Ga fun b1b w2 E2b g8c q3b=>?_
 have g4b:=nlt E9.size g8c
 have X5b:=xtr E9 E2b
 refine sal LH fun b6b w3 E3a g9c q7b=>?_
 have g8b:=nlt X5b.size g9c
 have X9b:=xtr X5b E3a
 have q0c:=(q7c.ext E2b).ext E3a
 refine nx h7 fun h0d=>Kp (vs:=[.pointer (some ⟨b1b,0,none⟩),.pointer (some ⟨b6b,0,none⟩)]) (by rfl) (by rfl)<|nx h0d fun h1d=>sV (Ak Bk rfl q0c rfl) ?_
 refine DY (vals:=[(0,.agg #[.bool x0.Lo.Man.Neg,.slice A1 x0.Lo.Man.Abs.length c2,.int .i64 x0.Lo.Exp,.bool x0.Hi.Man.Neg,.slice A4 x0.Hi.Man.Abs.length c5,.int .i64 x0.Hi.Exp])]) (cs:=[.bool x0.Lo.Man.Neg,.slice A1 x0.Lo.Man.Abs.length c2,.int .i64 x0.Lo.Exp,.bool x0.Hi.Man.Neg,.slice A4 x0.Hi.Man.Abs.length c5,.int .i64 x0.Hi.Exp]) Kq EM Fo (by rfl) (by decide) (by kernel_rfl) fun b1c w4 E2a g2d q2c=>?_
 refine nrm ?_
 have g8e:=nlt X9b.size g2d
 have X0a:=xtr X9b E2a
 rcases BF hq0 with ⟨r4a,h6a,f3d⟩ | ⟨r4a,h6a,rfl⟩
 ·refine scO (Ad Kk (by rfl)) (EC x0 b1c A1 c2 A4 c5 w4 (tbx X0a hT) (n3.ext X0a) (n6.ext X0a) q2c (.ok r4a) h6a) ?_
  rintro _ w5 E1a rfl
  refine nrm ?_
  have X5a:=xtr X0a E1a
  refine nx h1d fun h4d=>sV (Ag (o':=3) Ez rfl rfl) ?_
  have q3c:=(q0c.ext E2a).ext E1a
  refine sV (dld AH q3c) ?_
  refine sV2 (Ag (o':=0) Ev rfl rfl) (dld AH q3c) ?_
  refine scn f3d (Ad en_40 (by rfl)) (c_dyad_Sub x0.Hi x0.Lo A4 c5 A1 c2 w5 (tbx X5a hT) (n6.ext X5a) (n3.ext X5a)) fun r9e f5d w6 A6d c7d E7a n8d=>?_
  have X9d:=xtr X5a E7a
  refine sV2 (Aw rfl rfl) (Aw rfl rfl) ?_
  have q8a:=(((q3b.ext E3a).ext E2a).ext E1a).ext E7a
  refine ss DC q8a fun w7 U9a q0e=>?_
  have X1e:=belU X9d U9a g4b
  have q4c:=((q7b.ext E2a).ext E1a).ext E7a
  have ne5c:=(Bx.neT q4c q8a (by decide))
  have q6c:=q4c.upd U9a ne5c
  refine ss Jr q6c fun w8 U0b q2e=>?_
  have X3e:=belU X1e U0b g8b
  refine wh h4d<|wp_ret ?_
  have n4e:=(n8d.upd U9a q8a (by decide)).upd U0b q6c (by decide)
  obtain rfl:=sj f5d
  obtain rfl:=sj hr0
  exact MM Fm Ir rfl (Res.cellN rfl AH (q0e.upd U0b (Ne.symm ne5c)) rfl rfl (Res.cell1 rfl DQ (Bx.cell q2e rfl) Res.nil)) (Bg X3e ⟨A6d,c7d,rfl,n4e⟩)
 ·refine scP (Ad Kk (by rfl)) (EC x0 b1c A1 c2 A4 c5 w4 (tbx X0a hT) (n3.ext X0a) (n6.ext X0a) q2c (.error r4a) h6a) fun w5 E1a=>?_
  have X5e:=xtr X0a E1a
  have q6e:=((q3b.ext E3a).ext E2a).ext E1a
  refine Ka Ir (CL b1b b6b (.bool false:Value) (.slice none 0 0:Value) (.int .i64 0:Value) (.int .i64 0:Value) r4a q6e ((q7b.ext E2a).ext E1a)) rfl ?_
  rintro w9 ⟨u9,q9,q9'⟩
  obtain rfl:=sj hr0
  exact ⟨_,(Res.cellN rfl AH q9 rfl rfl (Res.cell1 rfl DQ (Bx.cell q9' rfl) Res.nil)),Bg (u9.toExt X5e g4b g8b) ⟨none,0,rfl,RU.nil _⟩⟩
theorem c_dyad_Side (x0:Am) (A1:OA) (c2:Nat) (A4:OA) (c5:Nat) (w:World) (hT:TB w) (n3:RLu w A1 c2 x0.Lo.Man.Abs) (n6:RLu w A4 c5 x0.Hi.Man.Abs) (r:Int × Int) (hr:HN x0=some r) :
  Calls prog 80 #[.agg #[.bool x0.Lo.Man.Neg,.slice A1 x0.Lo.Man.Abs.length c2,.int .i64 x0.Lo.Exp,.bool x0.Hi.Man.Neg,.slice A4 x0.Hi.Man.Abs.length c5,.int .i64 x0.Hi.Exp]] w (Ret rep_3_33 w r):=by
 unfold HN at hr
 obtain ⟨q0,hq0,hr0⟩:=Ac hr
 unfold JG at hq0
 go_enter_defers func80,ntmps80
 refine ws fun h7=>Ai<|sbx rfl rfl fun b8 w1 E9 g7e q1b=>?_
 refine sal zt_3 fun b9a w2 E1c g8e q2b=>?_
 have g3b:=nlt E9.size g8e
 have X2c:=xtr E9 E1c
 refine sal LH fun b3c w3 E8a g9e q4b=>?_
 have g5b:=nlt X2c.size g9e
 have X4c:=xtr X2c E8a
 have q5c:=(q1b.ext E1c).ext E8a
 refine nx h7 fun h0f=>Kp (vs:=[.pointer (some ⟨b9a,0,none⟩),.pointer (some ⟨b3c,0,none⟩)]) (by rfl) (by rfl)<|nx h0f fun h1f=>sV (Ak Bk rfl q5c rfl) ?_
 refine DY (vals:=[(0,.agg #[.bool x0.Lo.Man.Neg,.slice A1 x0.Lo.Man.Abs.length c2,.int .i64 x0.Lo.Exp,.bool x0.Hi.Man.Neg,.slice A4 x0.Hi.Man.Abs.length c5,.int .i64 x0.Hi.Exp])]) (cs:=[.bool x0.Lo.Man.Neg,.slice A1 x0.Lo.Man.Abs.length c2,.int .i64 x0.Lo.Exp,.bool x0.Hi.Man.Neg,.slice A4 x0.Hi.Man.Abs.length c5,.int .i64 x0.Hi.Exp]) Kq EM Fo (by rfl) (by decide) (by kernel_rfl) fun b6c w4 E1a g2f q7c=>?_
 refine nrm ?_
 have g5j:=nlt X4c.size g2f
 have X2a:=xtr X4c E1a
 rcases BF hq0 with ⟨r0b,h6b,f3f⟩ | ⟨r0b,h6b,rfl⟩
 ·refine scO (Ad Kk (by rfl)) (EC x0 b6c A1 c2 A4 c5 w4 (tbx X2a hT) (n3.ext X2a) (n6.ext X2a) q7c (.ok r0b) h6b) ?_
  rintro _ w5 E0a rfl
  refine nrm ?_
  have X4f:=xtr X2a E0a
  refine wh h1f<|ws fun h5f=>ws fun h6f=>DD [] 10 mo rfl fun w6 E3a S7b=>?_
  have X8b:=xtr X4f E3a
  refine dA 0 rfl (fun _=>Ag (o':=0) Ev rfl rfl) ?_ (hQ:=fun _ _ _ h=>dq (rs:=[.cell 2 3,.cell 3 33]) rfl (by decide) h)
  have q8c:=((q5c.ext E1a).ext E0a).ext E3a
  refine dV 1 rfl (fun _ hw=>dld AH (q8c.ext hw)) S7b ?_ (hQ:=fun _ _ _ h=>dq (rs:=[.cell 2 3,.cell 3 33]) rfl (by decide) h)
  refine dA 4 rfl (fun _=>Ag (o':=3) Ez rfl rfl) ?_ (hQ:=fun _ _ _ h=>dq (rs:=[.cell 2 3,.cell 3 33]) rfl (by decide) h)
  refine dV 5 rfl (fun _ hw=>dld AH (q8c.ext hw)) S7b ?_ (hQ:=fun _ _ _ h=>dq (rs:=[.cell 2 3,.cell 3 33]) rfl (by decide) h)
  obtain ⟨m9c,h7f,f8f⟩:=Ac f3f
  have hx0d:=Bs h7f
  have n9f:RU w6 A1 c2 m9c:=by unfold RU;rw [hx0d];exact (n3.ext X8b)
  refine dcn f8f 2 rfl (by rfl) (Ad FY (by simp only [sz,hx0d];rfl)) (Cw (⟨(⟨x0.Lo.Man.Neg,m9c⟩:Af),x0.Lo.Exp⟩:Ae) A1 c2 w6 (tbx X8b hT) n9f) fun r0g f1g w7 A2g c3g E4a n4g=>?_
  have X1d:=xtr X8b E4a
  have S5g:=S7b.trans E4a
  refine dcr f1g 3 rfl (by rfl) (Ad IY (by rfl)) (Cy r0g A2g c3g w7 (tbx X1d hT) n4g) fun r6j f6g w8 E5a=>?_
  have X9b:=xtr X1d E5a
  have S7g:=S5g.trans E5a
  obtain ⟨m2d,h8g,f9g⟩:=Ac f6g
  have hx3d:=Bs h8g
  have n0h:RU w8 A4 c5 m2d:=by unfold RU;rw [hx3d];exact (n6.ext X9b)
  refine dcn f9g 6 rfl (by rfl) (Ad FY (by simp only [sz,hx3d];rfl)) (Cw (⟨(⟨x0.Hi.Man.Neg,m2d⟩:Af),x0.Hi.Exp⟩:Ae) A4 c5 w8 (tbx X9b hT) n0h) fun r1h f2h w9 A3h c4h E6a n5h=>?_
  have X4d:=xtr X9b E6a
  have S6h:=S7g.trans E6a
  refine dcr f2h 7 rfl (by rfl) (Ad IY (by rfl)) (Cy r1h A3h c4h w9 (tbx X4d hT) n5h) fun r7j f7h w7e E7a=>?_
  have X5d:=xtr X4d E7a
  have S8j:=S6h.trans E7a
  refine dA 8 rfl (fun _=>Ab rfl) ?_ (hQ:=fun _ _ _ h=>dq (rs:=[.cell 2 3,.cell 3 33]) rfl (by decide) h)
  refine dA 9 rfl (fun _=>Ab rfl) ?_ (hQ:=fun _ _ _ h=>dq (rs:=[.cell 2 3,.cell 3 33]) rfl (by decide) h)
  refine CI (by kernel_rfl) ?_
  refine h6f _ _<|ws fun h8h=>Ai<|sV2 (Aa rfl) (Aa rfl) ?_
  refine sbl (BD rfl rfl) fun z6d hz6d=>?_
  refine wh h8h ?_
  rcases zi hz6d f7h with ⟨e0c,_,f9h⟩ | ⟨e0c,_,f0i⟩
  ·refine ct e0c<|ws fun h1i=>Ai<|sV (Aa rfl) ?_
   have q7d:=(((((((q2b.ext E8a).ext E1a).ext E0a).ext E3a).ext E4a).ext E5a).ext E6a).ext E7a
   refine ss Rw q7d fun w1b U8d q2i=>?_
   have X3i:=belU X5d U8d g3b
   have q9d:=((((((q4b.ext E1a).ext E0a).ext E3a).ext E4a).ext E5a).ext E6a).ext E7a
   have ne0e:=(Bx.neT q9d q7d (by decide))
   have q4i:=q9d.upd U8d ne0e
   refine ss Jr q4i fun w9a U1e q5i=>?_
   have X6i:=belU X3i U1e g5b
   refine wh h1i<|wp_ret ?_
   obtain rfl:=sj f9h
   obtain rfl:=sj hr0
   exact MM Jt Pi rfl (Res.cell1 rfl Ge (Bx.cell (q2i.upd U1e (Ne.symm ne0e)) rfl) (Res.cell1 rfl DQ (Bx.cell q5i rfl) Res.nil)) (Bg X6i rfl)
  ·refine cf e0c<|wp_skip<|h5f _ _<|ws fun h7i=>Ai<|have q2e:=(((((((q2b.ext E8a).ext E1a).ext E0a).ext E3a).ext E4a).ext E5a).ext E6a).ext E7a;ss Rw q2e fun w1b U3e q8i=>?_
   have X9i:=belU X5d U3e g3b
   have q4e:=((((((q4b.ext E1a).ext E0a).ext E3a).ext E4a).ext E5a).ext E6a).ext E7a
   have ne5e:=(Bx.neT q4e q2e (by decide))
   have q0j:=q4e.upd U3e ne5e
   refine ss Jr q0j fun w9a U6e q1j=>?_
   have X2j:=belU X9i U6e g5b
   refine wh h7i<|wp_ret ?_
   obtain rfl:=sj f0i
   obtain rfl:=sj hr0
   exact MM Jt Pi rfl (Res.cell1 rfl Ge (Bx.cell (q8i.upd U6e (Ne.symm ne5e)) rfl) (Res.cell1 rfl DQ (Bx.cell q1j rfl) Res.nil)) (Bg X2j rfl)
 ·refine scP (Ad Kk (by rfl)) (EC x0 b6c A1 c2 A4 c5 w4 (tbx X2a hT) (n3.ext X2a) (n6.ext X2a) q7c (.error r0b) h6b) fun w5 E0a=>?_
  have X3j:=xtr X2a E0a
  have q4j:=((q2b.ext E8a).ext E1a).ext E0a
  refine Ka Pi (k_dyad_caught_int b9a b3c (.int .i64 0:Value) (.int .i64 0:Value) r0b q4j ((q4b.ext E1a).ext E0a)) rfl ?_
  rintro w9 ⟨u9,q9,q9'⟩
  obtain rfl:=sj hr0
  exact ⟨_,(Res.cell1 rfl Ge (Bx.cell q9 rfl) (Res.cell1 rfl DQ (Bx.cell q9' rfl) Res.nil)),Bg (u9.toExt X3j g3b g5b) rfl⟩
end Go.Proofs

